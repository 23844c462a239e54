import PyProof.Rows.All
import Wide.All
import OpenK.AllK
import Wide.FinOn
import HandS.ForMost
import HandS.Flow
import HandS.IsInst
import HandS.Walk
import HandS.Style
import HandS.TupAny
import HandS.TupLe
import HandS.TupMul
import HandS.Deep
import HandS.Conv
import HandS.SortRule
import HandS.SortInts
import HandS.Wide
import HandS.Lambda
import KE.KTupSum
import HandS.DictTup
import KE.GoesEnum
import HandS.SetFor
import HandS.Strs
import HandS.Head2
import KE.KDictCopyH
import KE.KDictSum
import KE.KDictDisplayH
import HandS.NamedTupSort
import HandS.Nested
import HandS.WordsExc
import PySem.Challenge.RW_ringlayers_k09_whole_sheets_changed
import KE.BitLaws
import KE.KStateDown
import KE.KNestM
import HandS.More
import HandS.Defaults
import HandS.EndTab
import HandS.Head0
import HandS.Head1
import HandS.HeadEnd
import HandS.HeadHook1
import HandS.HeadHook2
set_option Elab.async false
set_option linter.all false
set_option maxRecDepth 100000
set_option maxHeartbeats 4000000
set_option autoImplicit false
namespace Pv
open PySem PySem.Spec PyProof.Rows L2
/-! ### tables of code objects -/
class TabT where
  T : List (Addr × Str)
variable [TabT]
/-- all tables that are told stand in H, each with codes of its name -/
def TbH (H : Hp) : Prop := LamX.Tabs TabT.T H
theorem TbH.new {H : Hp} {a : Addr} {o : HO} (t : TbH H) (h : H a = none) : TbH (upd H a o) := LamX.Tabs.ext t fun b u e => by rw [upd_ne (ne_of_none e h)]; exact e
theorem TbH.ne {H : Hp} {a : Addr} {u : HO} (t : TbH H) (h : H a = some u) (n1 : ∀ ps, u ≠ .tbl ps) : ∀ p ∈ TabT.T, p.1 ≠ a := fun p hp z => by
  obtain ⟨ps, h1, _⟩ := t p hp
  rw [z, h] at h1
  cases h1
  exact n1 ps rfl
theorem TbH.own {H : Hp} {a : Addr} {o : HO} (t : TbH H) (h1 : ∀ p ∈ TabT.T, p.1 ≠ a) (h2 : ∀ c q, H a ≠ some (LamX.CodeO c q)) : TbH (upd H a o) := fun p hp => by
  obtain ⟨ps, e1, e2, e3⟩ := t p hp
  refine ⟨ps, by rw [upd_ne (h1 p hp)]; exact e1, e2, fun pos cv hc => ?_⟩
  obtain ⟨c, e4, e5⟩ := e3 pos cv hc
  refine ⟨c, e4, ?_⟩
  rw [upd_ne]
  · exact e5
  · rintro rfl
    exact h2 _ _ e5
/-! ### data -/
inductive D where
  | non | bl (b : Bool) | int (i : Int) | str (s : Str)
  | tup (xs : List D) | lst (xs : List D) | scr (ns : List Int)
  | dct (kvs : List (List Int × D)) | dci (kvs : List (Int × D))
  | net (f t i : D) | brd (r n : D)
  | adr (a : Addr)
  | fn (f c : Addr) (q : Str)
abbrev kk (k : List Int) : List Key := k.map Sum.inl
def Dct : HO → Prop
  | .dT _ => True
  | .dK _ => True
  | _ => False
/-- all that was tracked is as it was, but for dicts that were locked -/
def SL (H H' : Hp) : Prop := ∀ a o, H a = some o → H' a = some o ∨ (Dct o ∧ ∃ od, H' a = some (.frz od o)) ∨ ((∃ ps, o = .tbl ps) ∧ ∃ ps, H' a = some (.tbl ps))
theorem SL.refl (H : Hp) : SL H H := fun _ _ h => .inl h
theorem SL.trans {H H1 H2 : Hp} (a : SL H H1) (b : SL H1 H2) : SL H H2 := fun x o h => by
  rcases a x o h with h1 | ⟨d, od, h1⟩ | ⟨⟨ps, rfl⟩, ps', h1⟩
  · exact b x o h1
  · rcases b x _ h1 with h2 | ⟨d2, _⟩ | ⟨⟨ps, h2⟩, _⟩
    · exact .inr (.inl ⟨d, od, h2⟩)
    · exact d2.elim
    · cases h2
  · rcases b x _ h1 with h2 | ⟨d2, _⟩ | ⟨_, ps2, h2⟩
    · exact .inr (.inr ⟨⟨ps, rfl⟩, ps', h2⟩)
    · exact d2.elim
    · exact .inr (.inr ⟨⟨ps, rfl⟩, ps2, h2⟩)
theorem SL.free {H H' : Hp} (e : SL H H') {a : Addr} (h : H' a = none) : H a = none := by
  cases q : H a with
  | none => rfl
  | some o => rcases e a o q with h1 | ⟨_, od, h1⟩ | ⟨_, ps, h1⟩ <;> rw [h] at h1 <;> cases h1
/-- what is neither a dict nor a table stays -/
theorem SL.same {H H' : Hp} (e : SL H H') {a : Addr} {o : HO} (h : H a = some o) (n1 : ¬ Dct o) (n2 : ∀ ps, o ≠ .tbl ps) : H' a = some o := by
  rcases e a _ h with h1 | ⟨d, _⟩ | ⟨⟨ps, d⟩, _⟩
  · exact h1
  · exact absurd d n1
  · exact absurd d (n2 ps)
theorem SL.tup {H H' : Hp} (e : SL H H') {a : Addr} {vs : List V} (h : H a = some (.tup vs)) : H' a = some (.tup vs) := e.same h (fun z => z) fun _ z => nomatch z
theorem SL.lst {H H' : Hp} (e : SL H H') {a : Addr} {vs : List V} (h : H a = some (.lst vs)) : H' a = some (.lst vs) := e.same h (fun z => z) fun _ z => nomatch z
theorem SL.ins {H H' : Hp} (e : SL H H') {a C dx : Addr} {fs : List (Str × V)} (h : H a = some (.ins C dx fs)) : H' a = some (.ins C dx fs) := e.same h (fun z => z) fun _ z => nomatch z
theorem SL.code {H H' : Hp} (e : SL H H') {a c : Addr} {q : Str} (h : H a = some (LamX.CodeO c q)) : H' a = some (LamX.CodeO c q) := e.same h (fun z => by unfold LamX.CodeO at z; exact z) LamX.codeO_ne
theorem SL.rd {H H' : Hp} (e : SL H H') {a : Addr} {u : HO} (n : Dct u) (h : Rd H a u) : Rd H' a u := by
  rcases h with h | ⟨o, h⟩
  · rcases e a _ h with h1 | ⟨_, od, h1⟩ | ⟨⟨ps, d⟩, _⟩
    · exact .inl h1
    · exact .inr ⟨od, h1⟩
    · rw [d] at n; exact n.elim
  · exact .inr ⟨o, e.same h (fun z => z) fun _ z => nomatch z⟩
theorem SL.frz {H H' : Hp} (e : SL H H') {a : Addr} {o : Obj} {u : HO} (h : H a = some (.frz o u)) : H' a = some (.frz o u) := e.same h (fun z => z) fun _ z => nomatch z
theorem SL.dctc {H H' : Hp} (e : SL H H') {a : Addr} {u : HO} (n : Dct u) (h : H a = some u) : H' a = some u ∨ ∃ od, H' a = some (.frz od u) := by
  rcases e a _ h with h1 | ⟨_, od, h1⟩ | ⟨⟨ps, d⟩, _⟩
  · exact .inl h1
  · exact .inr ⟨od, h1⟩
  · rw [d] at n; exact n.elim
theorem SL.seq {K : PySem.W.Frag} {H H' : Hp} {a : Addr} {xs : List V} (e : SL H H') (h : SqL K H a xs) : SqL K H' a xs := by
  rcases h with h | h
  · rcases h with h | ⟨o, h⟩
    · exact .inl (.inl (e.same h (fun z => z) fun _ z => nomatch z))
    · exact .inl (.inr ⟨o, e.same h (fun z => z) fun _ z => nomatch z⟩)
  · exact .inr h
theorem SL.new {H : Hp} {a : Addr} {o : HO} (h : H a = none) : SL H (upd H a o) := fun b u e => .inl (by rw [upd_ne (ne_of_none e h)]; exact e)
/-- where the class Board stands -/
def boardA (K : PySem.W.Frag) : Addr := match PySem.W.nsIn K mainGlobals "Board" with
  | some (some (.ref a)) => a
  | _ => 0
mutual
inductive Rep (K : PySem.W.Frag) (C : Addr) (G : Hp) : V → D → Prop
  | non : Rep K C G .non .non
  | bl (b : Bool) : Rep K C G (.bl b) (.bl b)
  | int (i : Int) : Rep K C G (.int i) (.int i)
  | str (s : Str) : Rep K C G (.str s) (.str s)
  | tup {a : Addr} {vs : List V} {ds : List D} : G a = some (.tup vs) → RepL K C G vs ds → Rep K C G (.ref a) (.tup ds)
  | lst {a : Addr} {vs : List V} {ds : List D} : G a = some (.lst vs) → RepL K C G vs ds → Rep K C G (.ref a) (.lst ds)
  | scr {a : Addr} {ns : List Int} : SqL K G a (ns.map V.int) → Rep K C G (.ref a) (.scr ns)
  | dct {a : Addr} {kvs : List (List Key × V)} {kds : List (List Int × D)} : Rd G a (.dT kvs) → kvs.map Prod.fst = kds.map (fun p => kk p.1) → RepL K C G (kvs.map Prod.snd) (kds.map Prod.snd) → Rep K C G (.ref a) (.dct kds)
  | dci {a : Addr} {kvs : List (Key × V)} {kds : List (Int × D)} : Rd G a (.dK kvs) → kvs.map Prod.fst = kds.map (fun p => Sum.inl p.1) → RepL K C G (kvs.map Prod.snd) (kds.map Prod.snd) → Rep K C G (.ref a) (.dci kds)
  | net {a dx : Addr} {v1 v2 v3 : V} {d1 d2 d3 : D} : G a = some (.ins C dx [("fars", v1), ("turns", v2), ("inside", v3)]) → Rep K C G v1 d1 → Rep K C G v2 d2 → Rep K C G v3 d3 → Rep K C G (.ref a) (.net d1 d2 d3)
  | netP {a dx : Addr} {v1 v2 v3 : V} {d1 d2 : D} : G a = some (.ins C dx [("fars", v1), ("turns", v2), ("inside", v3)]) → Rep K C G v1 d1 → Rep K C G v2 d2 → Rep K C G (.ref a) (.net d1 d2 .non)
  | brd {a dx : Addr} {v1 v2 : V} {d1 d2 : D} : G a = some (.ins (boardA K) dx [("rows", v1), ("next_number", v2)]) → Rep K C G v1 d1 → Rep K C G v2 d2 → Rep K C G (.ref a) (.brd d1 d2)
  | adr (a : Addr) : Rep K C G (.ref a) (.adr a)
  | fn {f c : Addr} {q : Str} : G c = some (LamX.CodeO c q) → Rep K C G (.ref f) (.fn f c q)
inductive RepL (K : PySem.W.Frag) (C : Addr) (G : Hp) : List V → List D → Prop
  | nil : RepL K C G [] []
  | cons {v : V} {vs : List V} {d : D} {ds : List D} : Rep K C G v d → RepL K C G vs ds → RepL K C G (v :: vs) (d :: ds)
end
section
variable {K : PySem.W.Frag} {C : Addr} {G G' H H' : Hp} {v : V} {d : D} {vs : List V} {ds : List D} {a : Addr}
theorem Rep.mono (e : SL G G') (h : Rep K C G v d) : Rep K C G' v d := by
  refine Rep.rec (motive_1 := fun v d _ => Rep K C G' v d) (motive_2 := fun vs ds _ => RepL K C G' vs ds) ?_ ?_ ?_ ?_ ?_ ?_ ?_ ?_ ?_ ?_ ?_ ?_ ?_ ?_ ?_ ?_ h
  · exact .non
  · exact .bl
  · exact .int
  · exact .str
  · exact fun h _ i => .tup (e.tup h) i
  · exact fun h _ i => .lst (e.lst h) i
  · exact fun h => .scr (e.seq h)
  · exact fun h k _ i => .dct (e.rd trivial h) k i
  · exact fun h k _ i => .dci (e.rd trivial h) k i
  · exact fun h _ _ _ i1 i2 i3 => .net (e.ins h) i1 i2 i3
  · exact fun h _ _ i1 i2 => .netP (e.ins h) i1 i2
  · exact fun h _ _ i1 i2 => .brd (e.ins h) i1 i2
  · exact .adr
  · exact fun h => .fn (e.code h)
  · exact .nil
  · exact fun _ _ i1 i2 => .cons i1 i2
theorem RepL.mono (e : SL G G') : ∀ {vs : List V} {ds : List D}, RepL K C G vs ds → RepL K C G' vs ds
  | _, _, .nil => .nil
  | _, _, .cons h t => .cons (h.mono e) (RepL.mono e t)
theorem RepL.length : ∀ {vs : List V} {ds : List D}, RepL K C G vs ds → vs.length = ds.length
  | _, _, .nil => rfl
  | _, _, .cons h t => congrArg (· + 1) (RepL.length t)
theorem RepL.get : ∀ {vs : List V} {ds : List D} {i : Nat} {d : D}, RepL K C G vs ds → ds[i]? = some d → ∃ v, vs[i]? = some v ∧ Rep K C G v d
  | _, _, _, _, .nil, e => by simp at e
  | _, _, 0, _, .cons r _, e => by simp at e; subst e; exact ⟨_, rfl, r⟩
  | _, _, i + 1, d, .cons _ t, e => by
    obtain ⟨u, h1, h2⟩ := RepL.get (i := i) (d := d) t (by simpa using e)
    exact ⟨u, by simpa using h1, h2⟩
theorem RepL.get' : ∀ {vs : List V} {ds : List D} {i : Nat} {v : V}, RepL K C G vs ds → vs[i]? = some v → ∃ d, ds[i]? = some d ∧ Rep K C G v d
  | _, _, _, _, .nil, e => by simp at e
  | _, _, 0, _, .cons r _, e => by simp at e; subst e; exact ⟨_, rfl, r⟩
  | _, _, i + 1, v, .cons _ t, e => by
    obtain ⟨u, h1, h2⟩ := RepL.get' (i := i) (v := v) t (by simpa using e)
    exact ⟨u, by simpa using h1, h2⟩
theorem RepL.app : ∀ {vs ws : List V} {ds es : List D}, RepL K C G vs ds → RepL K C G ws es → RepL K C G (vs ++ ws) (ds ++ es)
  | _, _, _, _, .nil, s => s
  | _, _, _, _, .cons r t, s => .cons r (RepL.app t s)
theorem RepL.take : ∀ {vs : List V} {ds : List D} (n : Nat), RepL K C G vs ds → RepL K C G (vs.take n) (ds.take n)
  | _, _, 0, _ => .nil
  | _, _, _ + 1, .nil => .nil
  | _, _, n + 1, .cons r t => .cons r (RepL.take n t)
theorem RepL.drop : ∀ {vs : List V} {ds : List D} (n : Nat), RepL K C G vs ds → RepL K C G (vs.drop n) (ds.drop n)
  | _, _, 0, r => r
  | _, _, _ + 1, .nil => .nil
  | _, _, n + 1, .cons _ t => RepL.drop n t
theorem RepL.set {x : V} {y : D} (r : Rep K C G x y) : ∀ {vs : List V} {ds : List D} (i : Nat), RepL K C G vs ds → RepL K C G (vs.set i x) (ds.set i y)
  | _, _, _, .nil => .nil
  | _, _, 0, .cons _ t => .cons r t
  | _, _, i + 1, .cons q t => .cons q (RepL.set r i t)
theorem RepL.rev : ∀ {vs : List V} {ds : List D}, RepL K C G vs ds → RepL K C G vs.reverse ds.reverse
  | _, _, .nil => .nil
  | _, _, .cons r t => by
    rw [List.reverse_cons, List.reverse_cons]
    exact (RepL.rev t).app (.cons r .nil)
theorem RepL.ints : ∀ (ns : List Int), RepL K C G (ns.map V.int) (ns.map D.int)
  | [] => .nil
  | n :: ns => .cons (.int n) (RepL.ints ns)
theorem RepL.ints_eq : ∀ {vs : List V} (ns : List Int), RepL K C G vs (ns.map D.int) → vs = ns.map V.int
  | _, [], h => by cases h; rfl
  | _, n :: ns, h => by
    cases h with
    | cons a b => cases a; rw [RepL.ints_eq ns b]; rfl
theorem RepL.bls_eq : ∀ {vs : List V} (ns : List Bool), RepL K C G vs (ns.map D.bl) → vs = ns.map V.bl
  | _, [], h => by cases h; rfl
  | _, n :: ns, h => by
    cases h with
    | cons a b => cases a; rw [RepL.bls_eq ns b]; rfl
theorem RepL.strs_eq : ∀ {vs : List V} (ns : List Str), RepL K C G vs (ns.map D.str) → vs = ns.map V.str
  | _, [], h => by cases h; rfl
  | _, n :: ns, h => by
    cases h with
    | cons a b => cases a; rw [RepL.strs_eq ns b]; rfl
/-- new things have come; what is kept, is kept -/
structure Grow (G H G' H' : Hp) : Prop where
  g : SL G G'
  h : SL H H'
  s : SL G' H'
  n : ∀ a, G a = none → G' a ≠ none → H a = none ∨ (∃ vs, H a = some (.tup vs)) ∨ ∃ c q, H a = some (LamX.CodeO c q)
  x : ∀ a o, G a = none → H a = some o → (∀ ps, o ≠ .tbl ps) → H' a = some o
  t : TbH H → TbH H'
theorem Grow.refl (s : SL G H) : Grow G H G H := ⟨SL.refl _, SL.refl _, s, fun _ h1 h2 => absurd h1 h2, fun _ _ _ h _ => h, fun t => t⟩
theorem SL.tbl (e : SL H H') {ps : Array Value} (h : H a = some (.tbl ps)) : ∃ ps, H' a = some (.tbl ps) := by
  rcases e a _ h with h1 | ⟨d, _⟩ | ⟨_, h1⟩
  · exact ⟨_, h1⟩
  · exact d.elim
  · exact h1
theorem Grow.trans {G1 H1 G2 H2 : Hp} (a : Grow G H G1 H1) (b : Grow G1 H1 G2 H2) : Grow G H G2 H2 := by
  refine ⟨a.g.trans b.g, a.h.trans b.h, b.s, fun x h1 h2 => ?_, fun x o h1 h2 h3 => ?_, fun t => b.t (a.t t)⟩
  · by_cases h3 : G1 x = none
    · have up : ∀ o, H x = some o → (∃ ps, H1 x = some (.tbl ps)) ∨ H1 x = some o := fun o q => by
        by_cases ht : ∃ ps, o = .tbl ps
        · obtain ⟨ps, rfl⟩ := ht
          exact .inl (a.h.tbl q)
        · exact .inr (a.x x o h1 q fun ps z => ht ⟨ps, z⟩)
      cases q : H x with
      | none => exact .inl rfl
      | some o =>
        rcases b.n x h3 h2 with h4 | ⟨vs, h4⟩ | ⟨c, q', h4⟩
        · rcases up o q with ⟨ps, z⟩ | z <;> rw [h4] at z <;> cases z
        · rcases up o q with ⟨ps, z⟩ | z
          · rw [h4] at z; cases z
          · rw [h4] at z; cases z; exact .inr (.inl ⟨vs, rfl⟩)
        · rcases up o q with ⟨ps, z⟩ | z
          · rw [h4] at z; exact absurd (Option.some.inj z) (LamX.codeO_ne ps)
          · rw [h4] at z; rw [← Option.some.inj z]; exact .inr (.inr ⟨c, q', rfl⟩)
    · exact a.n x h1 h3
  · have h4 := a.x x o h1 h2 h3
    by_cases h5 : G1 x = none
    · exact b.x x o h5 h4 h3
    · rcases a.n x h1 h5 with h6 | ⟨vs, h6⟩ | ⟨c, q', h6⟩
      · rw [h2] at h6; cases h6
      · rw [h2] at h6; cases h6
        exact b.h.tup h4
      · rw [h2] at h6; rw [Option.some.inj h6] at h4 ⊢
        exact b.h.code h4
/-- a new object, to be shared -/
theorem Grow.new {o : HO} (s : SL G H) (h : H a = none) : Grow G H (upd G a o) (upd H a o) := by
  have hg : G a = none := s.free h
  refine ⟨SL.new hg, SL.new h, fun b u e => ?_, fun b h1 h2 => ?_, fun b u h1 h2 _ => ?_, fun t => t.new h⟩
  · by_cases hb : b = a
    · subst hb; rw [upd_same] at e ⊢; exact .inl e
    · rw [upd_ne hb] at e ⊢; exact s b u e
  · by_cases hb : b = a
    · subst hb; exact .inl h
    · rw [upd_ne hb] at h2; exact absurd h1 h2
  · rw [upd_ne (ne_of_none h2 h)]; exact h2
/-- a new object, not shared -/
theorem Grow.newH {o : HO} (s : SL G H) (h : H a = none) : Grow G H G (upd H a o) :=
  ⟨SL.refl _, SL.new h, s.trans (SL.new h), fun _ h1 h2 => absurd h1 h2, fun b u _ h2 _ => by rw [upd_ne (ne_of_none h2 h)]; exact h2, fun t => t.new h⟩
/-- what is not shared yet, is shared -/
theorem Grow.share {o : HO} (s : SL G H) (h : H a = some o) (g : G a = none) (h0 : H' a = none) (k : Grow G' H' G H) : Grow G' H' (upd G a o) H := by
  refine ⟨k.g.trans (SL.new g), k.h, fun b u e => ?_, fun b h1 h2 => ?_, k.x, k.t⟩
  · by_cases hb : b = a
    · subst hb; rw [upd_same] at e; cases e; exact .inl h
    · rw [upd_ne hb] at e; exact s b u e
  · by_cases hb : b = a
    · subst hb; exact .inl h0
    · rw [upd_ne hb] at h2; exact k.n b h1 h2
/-- what a def does with values, once for all -/
def spD (K : PySem.W.Frag) (C : Addr) (f : List D → Option D) : Sp := fun vs H Q _ => ∃ G ds d, SL G H ∧ TbH H ∧ RepL K C G vs ds ∧ f ds = some d ∧ ∀ G' H' v, Grow G H G' H' → Rep K C G' v d → Q v H'
/-- a thing that is one's own at a -/
def Own (K : PySem.W.Frag) (C : Addr) (G H : Hp) (a : Addr) : D → Prop
  | .lst ds => ∃ vs, H a = some (.lst vs) ∧ RepL K C G vs ds
  | .dct kds => ∃ kvs, H a = some (.dT kvs) ∧ kvs.map Prod.fst = kds.map (fun p => kk p.1) ∧ RepL K C G (kvs.map Prod.snd) (kds.map Prod.snd)
  | .dci kds => ∃ kvs, H a = some (.dK kvs) ∧ kvs.map Prod.fst = kds.map (fun p => Sum.inl p.1) ∧ RepL K C G (kvs.map Prod.snd) (kds.map Prod.snd)
  | _ => False
/-- .. to be read -/
def OwnR (K : PySem.W.Frag) (C : Addr) (G H : Hp) (a : Addr) : D → Prop
  | .lst ds => ∃ vs, H a = some (.lst vs) ∧ RepL K C G vs ds
  | .dct kds => ∃ kvs, Rd H a (.dT kvs) ∧ kvs.map Prod.fst = kds.map (fun p => kk p.1) ∧ RepL K C G (kvs.map Prod.snd) (kds.map Prod.snd)
  | .dci kds => ∃ kvs, Rd H a (.dK kvs) ∧ kvs.map Prod.fst = kds.map (fun p => Sum.inl p.1) ∧ RepL K C G (kvs.map Prod.snd) (kds.map Prod.snd)
  | _ => False
theorem Own.r (h : Own K C G H a d) : OwnR K C G H a d := by
  cases d <;> first | exact h.elim | exact h | (obtain ⟨kvs, h1, h2⟩ := h; exact ⟨kvs, .inl h1, h2⟩)
theorem OwnR.mono (e : SL G G') (f : SL H H') (h : OwnR K C G H a d) : OwnR K C G' H' a d := by
  cases d <;> try exact h.elim
  · obtain ⟨vs, h1, h2⟩ := h; exact ⟨vs, f.lst h1, h2.mono e⟩
  · obtain ⟨vs, h1, h2, h3⟩ := h; exact ⟨vs, f.rd trivial h1, h2, h3.mono e⟩
  · obtain ⟨vs, h1, h2, h3⟩ := h; exact ⟨vs, f.rd trivial h1, h2, h3.mono e⟩
theorem Own.mono (e : SL G G') (f : ∀ o, H a = some o → H' a = some o) (h : Own K C G H a d) : Own K C G' H' a d := by
  cases d <;> try exact h.elim
  · obtain ⟨vs, h1, h2⟩ := h; exact ⟨vs, f _ h1, h2.mono e⟩
  · obtain ⟨vs, h1, h2, h3⟩ := h; exact ⟨vs, f _ h1, h2, h3.mono e⟩
  · obtain ⟨vs, h1, h2, h3⟩ := h; exact ⟨vs, f _ h1, h2, h3.mono e⟩
theorem lst_code {vs : List V} {c : Addr} {q : Str} : (HO.lst vs) ≠ LamX.CodeO c q := fun z => by unfold LamX.CodeO at z; cases z
theorem dT_code {vs : List (List Key × V)} {c : Addr} {q : Str} : (HO.dT vs) ≠ LamX.CodeO c q := fun z => by unfold LamX.CodeO at z; cases z
theorem dK_code {vs : List (Key × V)} {c : Addr} {q : Str} : (HO.dK vs) ≠ LamX.CodeO c q := fun z => by unfold LamX.CodeO at z; cases z
theorem noC_lst {H : Hp} {a : Addr} {vs : List V} (h : H a = some (.lst vs)) : ∀ c q, H a ≠ some (LamX.CodeO c q) := fun c q z => by rw [h] at z; exact lst_code (Option.some.inj z)
theorem noC_dT {H : Hp} {a : Addr} {vs : List (List Key × V)} (h : H a = some (.dT vs)) : ∀ c q, H a ≠ some (LamX.CodeO c q) := fun c q z => by rw [h] at z; exact dT_code (Option.some.inj z)
theorem noC_n {H : Hp} {a : Addr} (h : H a = none) : ∀ c q, H a ≠ some (LamX.CodeO c q) := fun c q z => by rw [h] at z; cases z
theorem noC_ins {H : Hp} {a C dx : Addr} {fs : List (Str × V)} (h : H a = some (.ins C dx fs)) : ∀ c q, H a ≠ some (LamX.CodeO c q) := fun c q z => by rw [h] at z; have z := Option.some.inj z; unfold LamX.CodeO at z; cases z
theorem Own.what (h : Own K C G H a d) : ∃ o, H a = some o ∧ (∀ ps, o ≠ .tbl ps) ∧ ∀ c q, o ≠ LamX.CodeO c q := by
  cases d <;> try exact h.elim
  · obtain ⟨vs, h1, h2⟩ := h; exact ⟨_, h1, fun _ z => (by cases z), fun _ _ => lst_code⟩
  · obtain ⟨vs, h1, h2, h3⟩ := h; exact ⟨_, h1, fun _ z => (by cases z), fun _ _ => dT_code⟩
  · obtain ⟨vs, h1, h2, h3⟩ := h; exact ⟨_, h1, fun _ z => (by cases z), fun _ _ => dK_code⟩
theorem Own.there (h : Own K C G H a d) : ∃ o, H a = some o ∧ ∀ vs, o ≠ .tup vs := by
  cases d <;> try exact h.elim
  · obtain ⟨vs, h1, h2⟩ := h; exact ⟨_, h1, fun _ e => by cases e⟩
  · obtain ⟨vs, h1, h2, h3⟩ := h; exact ⟨_, h1, fun _ e => by cases e⟩
  · obtain ⟨vs, h1, h2, h3⟩ := h; exact ⟨_, h1, fun _ e => by cases e⟩
/-- shared -/
theorem Own.shared (h : Own K C G H a d) (g : G a = none) : ∃ o, H a = some o ∧ Rep K C (upd G a o) (.ref a) d := by
  cases d <;> try exact h.elim
  · obtain ⟨vs, h1, h2⟩ := h; exact ⟨_, h1, .lst upd_same (h2.mono (SL.new g))⟩
  · obtain ⟨vs, h1, h2, h3⟩ := h; exact ⟨_, h1, .dct (.inl upd_same) h2 (h3.mono (SL.new g))⟩
  · obtain ⟨vs, h1, h2, h3⟩ := h; exact ⟨_, h1, .dci (.inl upd_same) h2 (h3.mono (SL.new g))⟩
def RepB (K : PySem.W.Frag) (C : Addr) (G H : Hp) (v : V) (d : D) : Prop := Rep K C G v d ∨ ∃ a, v = .ref a ∧ OwnR K C G H a d
theorem RepB.mono (e : SL G G') (f : SL H H') (h : RepB K C G H v d) : RepB K C G' H' v d := by
  rcases h with h | ⟨a, rfl, h⟩
  · exact .inl (h.mono e)
  · exact .inr ⟨a, rfl, h.mono e f⟩
theorem RepB.lst (s : SL G H) (h : RepB K C G H v (.lst ds)) : ∃ a vs, v = .ref a ∧ H a = some (.lst vs) ∧ RepL K C G vs ds := by
  rcases h with h | ⟨a, rfl, vs, h1, h2⟩
  · cases h with
    | lst h1 h2 => exact ⟨_, _, rfl, s.lst h1, h2⟩
  · exact ⟨a, vs, rfl, h1, h2⟩
theorem RepB.tup (h : RepB K C G H v (.tup ds)) : ∃ a vs, v = .ref a ∧ G a = some (.tup vs) ∧ RepL K C G vs ds := by
  rcases h with h | ⟨a, rfl, h⟩
  · cases h with
    | tup h1 h2 => exact ⟨_, _, rfl, h1, h2⟩
  · exact h.elim
theorem RepB.dct {kds : List (List Int × D)} (s : SL G H) (h : RepB K C G H v (.dct kds)) : ∃ a kvs, v = .ref a ∧ Rd H a (.dT kvs) ∧ kvs.map Prod.fst = kds.map (fun p => kk p.1) ∧ RepL K C G (kvs.map Prod.snd) (kds.map Prod.snd) := by
  rcases h with h | ⟨a, rfl, vs, h1, h2⟩
  · cases h with
    | dct h1 h2 h3 => exact ⟨_, _, rfl, s.rd trivial h1, h2, h3⟩
  · exact ⟨a, vs, rfl, h1, h2⟩
theorem RepB.dci {kds : List (Int × D)} (s : SL G H) (h : RepB K C G H v (.dci kds)) : ∃ a kvs, v = .ref a ∧ Rd H a (.dK kvs) ∧ kvs.map Prod.fst = kds.map (fun p => Sum.inl p.1) ∧ RepL K C G (kvs.map Prod.snd) (kds.map Prod.snd) := by
  rcases h with h | ⟨a, rfl, h⟩
  · cases h with
    | dci h1 h2 h3 => exact ⟨_, _, rfl, s.rd trivial h1, h2, h3⟩
  · obtain ⟨vs, h1, h2⟩ := h; exact ⟨a, vs, rfl, h1, h2⟩
theorem RepB.scr {ns : List Int} (s : SL G H) (h : RepB K C G H v (.scr ns)) : ∃ a, v = .ref a ∧ SqL K H a (ns.map V.int) := by
  rcases h with h | ⟨a, rfl, h⟩
  · cases h with
    | scr h1 => exact ⟨_, rfl, s.seq h1⟩
  · exact h.elim
theorem RepB.int {i : Int} (h : RepB K C G H v (.int i)) : v = .int i := by
  rcases h with h | ⟨a, rfl, h⟩
  · cases h; rfl
  · exact h.elim
theorem RepB.bl {i : Bool} (h : RepB K C G H v (.bl i)) : v = .bl i := by
  rcases h with h | ⟨a, rfl, h⟩
  · cases h; rfl
  · exact h.elim
theorem RepB.str {i : Str} (h : RepB K C G H v (.str i)) : v = .str i := by
  rcases h with h | ⟨a, rfl, h⟩
  · cases h; rfl
  · exact h.elim
theorem RepB.non (h : RepB K C G H v .non) : v = .non := by
  rcases h with h | ⟨a, rfl, h⟩
  · cases h; rfl
  · exact h.elim
end
/-! ### the names' values -/
inductive Sl where
  | no | sh (d : D) | ow (d : D)
abbrev Env := List Sl
structure Gam where
  P : Program
  w : World
  K : PySem.W.Frag
  mg : Str → Option Value
  base : Heap
  k : Nat
  C : Addr
def SlOk (Γ : Gam) (H0 G H : Hp) (x : Option (Option V)) : Sl → Prop
  | .no => True
  | .sh d => ∃ v, x = some (some v) ∧ Rep Γ.K Γ.C G v d
  | .ow d => ∃ a, x = some (some (.ref a)) ∧ H0 a = none ∧ G a = none ∧ Own Γ.K Γ.C G H a d
structure EnvOk (Γ : Gam) (H0 G H : Hp) (ρ : Env) (σ : L2.St) : Prop where
  len : ρ.length = σ.length
  sl : ∀ (i : Nat) (s : Sl), ρ[i]? = some s → SlOk Γ H0 G H (σ[i]?) s
  ne : ∀ (i j : Nat) (d e : D) (a : Addr), i ≠ j → ρ[i]? = some (.ow d) → ρ[j]? = some (.ow e) → σ[i]? = some (some (.ref a)) → σ[j]? ≠ some (some (.ref a))
  tb : TbH H
section
variable {Γ : Gam} {H0 G H G' H' : Hp} {ρ : Env} {σ : L2.St}
theorem SlOk.grow {x : Option (Option V)} {s : Sl} (g : Grow G H G' H') (h : SlOk Γ H0 G H x s) : SlOk Γ H0 G' H' x s := by
  cases s with
  | no => trivial
  | sh d => obtain ⟨v, h1, h2⟩ := h; exact ⟨v, h1, h2.mono g.g⟩
  | ow d =>
    obtain ⟨a, h1, h2, h3, h4⟩ := h
    obtain ⟨o, h5, h6⟩ := h4.there
    obtain ⟨o2, h8, h9, h10⟩ := h4.what
    refine ⟨a, h1, h2, ?_, h4.mono g.g fun o h => g.x a o h3 h (by rw [h8] at h; cases h; exact h9)⟩
    by_cases q : G' a = none
    · exact q
    · rcases g.n a h3 q with h7 | ⟨vs, h7⟩ | ⟨c, q', h7⟩
      · rw [h5] at h7; cases h7
      · rw [h5] at h7; cases h7; exact absurd rfl (h6 vs)
      · rw [h8] at h7; exact absurd (Option.some.inj h7) (h10 c q')
theorem EnvOk.grow (E : EnvOk Γ H0 G H ρ σ) (g : Grow G H G' H') : EnvOk Γ H0 G' H' ρ σ :=
  ⟨E.len, fun i s h => (E.sl i s h).grow g, E.ne, g.t E.tb⟩
theorem EnvOk.setSh (E : EnvOk Γ H0 G H ρ σ) {i : Nat} {v : V} {d : D} (r : Rep Γ.K Γ.C G v d) : EnvOk Γ H0 G H (ρ.set i (.sh d)) (σ.set i (some v)) := by
  refine ⟨by rw [List.length_set, List.length_set]; exact E.len, fun j s h => ?_, fun j k d1 d2 a h1 h2 h3 h4 h5 => ?_, E.tb⟩
  · by_cases hj : i = j
    · subst hj
      by_cases hl : i < ρ.length
      · rw [List.getElem?_set_self hl] at h
        cases h
        exact ⟨v, by rw [List.getElem?_set_self (by rw [← E.len]; exact hl)], r⟩
      · rw [List.getElem?_eq_none (by simpa using hl)] at h; cases h
    · rw [List.getElem?_set_ne hj] at h ⊢
      exact E.sl j s h
  · have e1 : j ≠ i := by
      rintro rfl
      by_cases hl : j < ρ.length
      · rw [List.getElem?_set_self hl] at h2; cases h2
      · rw [List.getElem?_eq_none (by simpa using hl)] at h2; cases h2
    have e2 : k ≠ i := by
      rintro rfl
      by_cases hl : k < ρ.length
      · rw [List.getElem?_set_self hl] at h3; cases h3
      · rw [List.getElem?_eq_none (by simpa using hl)] at h3; cases h3
    rw [List.getElem?_set_ne (Ne.symm e1)] at h2 h4
    rw [List.getElem?_set_ne (Ne.symm e2)] at h3 h5
    exact E.ne j k d1 d2 a h1 h2 h3 h4 h5
/-- one's own thing at a is in no other slot -/
theorem EnvOk.setOw (E : EnvOk Γ H0 G H ρ σ) {i : Nat} {a : Addr} {d : D} (h0 : H0 a = none) (g : G a = none) (r : Own Γ.K Γ.C G H a d)
    (new : ∀ j e, j ≠ i → ρ[j]? = some (.ow e) → σ[j]? ≠ some (some (.ref a))) : EnvOk Γ H0 G H (ρ.set i (.ow d)) (σ.set i (some (.ref a))) := by
  have hget : ∀ {j s}, (ρ.set i (.ow d))[j]? = some s → (j = i ∧ s = .ow d ∧ i < ρ.length) ∨ (j ≠ i ∧ ρ[j]? = some s) := fun {j s} h => by
    by_cases hj : i = j
    · subst hj
      by_cases hl : i < ρ.length
      · rw [List.getElem?_set_self hl] at h
        cases h
        exact .inl ⟨rfl, rfl, hl⟩
      · rw [List.getElem?_eq_none (by simpa using hl)] at h; cases h
    · rw [List.getElem?_set_ne hj] at h
      exact .inr ⟨Ne.symm hj, h⟩
  refine ⟨by rw [List.length_set, List.length_set]; exact E.len, fun j s h => ?_, fun j k d1 d2 b h1 h2 h3 h4 h5 => ?_, E.tb⟩
  · rcases hget h with ⟨rfl, rfl, hl⟩ | ⟨hj, h⟩
    · exact ⟨a, by rw [List.getElem?_set_self (by rw [← E.len]; exact hl)], h0, g, r⟩
    · rw [List.getElem?_set_ne (Ne.symm hj)]
      exact E.sl j s h
  · rcases hget h2 with ⟨e1, e1', hl1⟩ | ⟨hj, h2'⟩
    · rcases hget h3 with ⟨e2, e2', hl2⟩ | ⟨hk, h3'⟩
      · exact h1 (e1.trans e2.symm)
      · rw [e1, List.getElem?_set_self (by rw [← E.len]; exact hl1)] at h4
        cases h4
        rw [List.getElem?_set_ne (Ne.symm hk)] at h5
        exact new k d2 hk h3' h5
    · rw [List.getElem?_set_ne (Ne.symm hj)] at h4
      rcases hget h3 with ⟨e2, e2', hl2⟩ | ⟨hk, h3'⟩
      · rw [e2, List.getElem?_set_self (by rw [← E.len]; exact hl2)] at h5
        cases h5
        exact new j d1 hj h2' h4
      · rw [List.getElem?_set_ne (Ne.symm hk)] at h5
        exact E.ne j k d1 d2 b h1 h2' h3' h4 h5
/-- one's own thing at a has changed -/
theorem EnvOk.upd (E : EnvOk Γ H0 G H ρ σ) {i : Nat} {a : Addr} {d d' : D} {o : HO} (hi : ρ[i]? = some (.ow d)) (hσ : σ[i]? = some (some (.ref a))) (h0 : H0 a = none) (g : G a = none) (r : Own Γ.K Γ.C G (upd H a o) a d') :
    EnvOk Γ H0 G (L2.upd H a o) (ρ.set i (.ow d')) σ := by
  have hl : i < ρ.length := (List.getElem?_eq_some_iff.mp hi).1
  have hget : ∀ {j s}, (ρ.set i (.ow d'))[j]? = some s → (j = i ∧ s = .ow d') ∨ (j ≠ i ∧ ρ[j]? = some s) := fun {j s} h => by
    by_cases hj : i = j
    · subst hj
      rw [List.getElem?_set_self hl] at h
      cases h
      exact .inl ⟨rfl, rfl⟩
    · rw [List.getElem?_set_ne hj] at h
      exact .inr ⟨Ne.symm hj, h⟩
  obtain ⟨aw, hw0, _, _, hw⟩ := E.sl i _ hi
  have hwa : aw = a := by rw [hσ] at hw0; cases hw0; rfl
  rw [hwa] at hw
  obtain ⟨ow, hw1, hw2, hw3⟩ := hw.what
  refine ⟨by rw [List.length_set]; exact E.len, fun j s h => ?_, fun j k d1 d2 b h1 h2 h3 h4 => ?_, E.tb.own (E.tb.ne hw1 hw2) fun c q z => hw3 c q (Option.some.inj (hw1.symm.trans z))⟩
  · rcases hget h with ⟨rfl, rfl⟩ | ⟨hj, h⟩
    · exact ⟨a, hσ, h0, g, r⟩
    · have q := E.sl j s h
      cases s with
      | no => trivial
      | sh e => exact q
      | ow e =>
        obtain ⟨b, q1, q2, q3, q4⟩ := q
        have hb : b ≠ a := by
          rintro rfl
          exact E.ne j i e d b hj h hi q1 hσ
        exact ⟨b, q1, q2, q3, q4.mono (SL.refl _) fun o h => by rw [upd_ne hb]; exact h⟩
  · rcases hget h2 with ⟨rfl, _⟩ | ⟨hj, h2'⟩ <;> rcases hget h3 with ⟨rfl, _⟩ | ⟨hk, h3'⟩
    · exact absurd rfl h1
    · exact E.ne _ _ d d2 b h1 hi h3' h4
    · exact E.ne _ _ d1 d b h1 h2' hi h4
    · exact E.ne _ _ d1 d2 b h1 h2' h3' h4
/-- the i-th is shared from here on -/
theorem EnvOk.share (E : EnvOk Γ H0 G H ρ σ) {i : Nat} {a : Addr} {d : D} {o : HO} (hi : ρ[i]? = some (.ow d)) (hσ : σ[i]? = some (some (.ref a))) (ho : H a = some o) (g : G a = none) (r : Rep Γ.K Γ.C (L2.upd G a o) (.ref a) d) :
    EnvOk Γ H0 (L2.upd G a o) H (ρ.set i (.sh d)) σ := by
  have hl : i < ρ.length := (List.getElem?_eq_some_iff.mp hi).1
  have hget : ∀ {j s}, (ρ.set i (.sh d))[j]? = some s → (j = i ∧ s = .sh d) ∨ (j ≠ i ∧ ρ[j]? = some s) := fun {j s} h => by
    by_cases hj : i = j
    · subst hj
      rw [List.getElem?_set_self hl] at h
      cases h
      exact .inl ⟨rfl, rfl⟩
    · rw [List.getElem?_set_ne hj] at h
      exact .inr ⟨Ne.symm hj, h⟩
  refine ⟨by rw [List.length_set]; exact E.len, fun j s h => ?_, fun j k d1 d2 b h1 h2 h3 h4 => ?_, E.tb⟩
  · rcases hget h with ⟨rfl, rfl⟩ | ⟨hj, h⟩
    · exact ⟨_, hσ, r⟩
    · have q := E.sl j s h
      cases s with
      | no => trivial
      | sh e => obtain ⟨v, q1, q2⟩ := q; exact ⟨v, q1, q2.mono (SL.new g)⟩
      | ow e =>
        obtain ⟨b, q1, q2, q3, q4⟩ := q
        have hb : b ≠ a := by
          rintro rfl
          exact E.ne j i e d b hj h hi q1 hσ
        exact ⟨b, q1, q2, by rw [upd_ne hb]; exact q3, q4.mono (SL.new g) fun o h => h⟩
  · rcases hget h2 with ⟨rfl, e⟩ | ⟨hj, h2'⟩
    · cases e
    · rcases hget h3 with ⟨rfl, e⟩ | ⟨hk, h3'⟩
      · cases e
      · exact E.ne _ _ d1 d2 b h1 h2' h3' h4
end
end Pv
set_option Elab.async false
set_option linter.all false
set_option maxRecDepth 100000
set_option maxHeartbeats 4000000
set_option autoImplicit false
namespace Pv
variable [TabT]
open PySem PySem.Spec PyProof.Rows L2
/-! ### judgements -/
structure Good (Γ : Gam) (N : List Str) (sc : Scope) (X : Cx) : Prop where
  prog : X.prog = Γ.P
  w : X.w = Γ.w
  K : X.K = Γ.K
  mg : X.mg = Γ.mg
  base : X.base = Γ.base
  calm : X.calm = true
  xe : X.xe = fun _ _ => False
  room : Room Γ.k X.A
  N : X.N = N
  sc : X.env.scope = sc
inductive Kd where
  | e | f | b
def Out (Γ : Gam) : Kd → (G H G' H' : Hp) → V → D → Prop
  | .e, _, _, G', _, v, d => Rep Γ.K Γ.C G' v d
  | .f, _, H, G', H', v, d => ∃ a, v = .ref a ∧ H a = none ∧ G' a = none ∧ Own Γ.K Γ.C G' H' a d
  | .b, _, _, G', H', v, d => RepB Γ.K Γ.C G' H' v d
def SemV (Γ : Gam) (κ : Kd) (t : TE) (F : Env → Option D) : Prop := ∀ (H0 : Hp) (ρ : Env) (σ : L2.St) (G H : Hp) (Q : VK) (d : D), SL G H → EnvOk Γ H0 G H ρ σ → F ρ = some d →
  (∀ (G' H' : Hp) (v : V), Grow G H G' H' → Out Γ κ G H G' H' v d → Q v H') → t σ H Q
def SemT (Γ : Gam) (t : TT) (F : Env → Option Bool) : Prop := ∀ (H0 : Hp) (ρ : Env) (σ : L2.St) (G H : Hp) (Q : Bool → Hp → Prop) (c : Bool), SL G H → EnvOk Γ H0 G H ρ σ → F ρ = some c →
  (∀ (G' H' : Hp), Grow G H G' H' → Q c H') → t σ H Q
def SemA (Γ : Gam) (t : TA) (F : Env → Option (List D)) : Prop := ∀ (H0 : Hp) (ρ : Env) (σ : L2.St) (G H : Hp) (Q : List V → Hp → Prop) (ds : List D), SL G H → EnvOk Γ H0 G H ρ σ → F ρ = some ds →
  (∀ (G' H' : Hp) (vs : List V), Grow G H G' H' → RepL Γ.K Γ.C G' vs ds → Q vs H') → t σ H Q
structure DV (Γ : Gam) (N : List Str) (sc : Scope) (κ : Kd) (e : Expr) (F : Env → Option D) : Prop where
  ex : ∃ t, (∀ X, Good Γ N sc X → PE X e t) ∧ SemV Γ κ t F
structure DT (Γ : Gam) (N : List Str) (sc : Scope) (e : Expr) (F : Env → Option Bool) : Prop where
  ex : ∃ t, (∀ X, Good Γ N sc X → PT X e t) ∧ SemT Γ t F
structure DW (Γ : Gam) (N : List Str) (sc : Scope) (e : Expr) (F : Env → Option Bool) : Prop where
  ex : ∃ t, (∀ X, Good Γ N sc X → PW X e t) ∧ SemT Γ t F
structure DC (Γ : Gam) (N : List Str) (sc : Scope) (e : Expr) (F : Env → Option D) : Prop where
  ex : ∃ t, (∀ X, Good Γ N sc X → PE X e t ∧ PT X e (tTest t)) ∧ SemV Γ .e t F
structure DA (Γ : Gam) (N : List Str) (sc : Scope) (es : List Expr) (F : Env → Option (List D)) : Prop where
  ex : ∃ t, (∀ X, Good Γ N sc X → PA X es t) ∧ SemA Γ t F
section
variable {Γ : Gam} {N : List Str} {sc : Scope} {κ κ1 κ2 : Kd} {G H G' H' G1 H1 : Hp} {v : V} {d : D}
theorem Out.pre (g : Grow G H G1 H1) (h : Out Γ κ G1 H1 G' H' v d) : Out Γ κ G H G' H' v d := by
  cases κ with
  | e => exact h
  | b => exact h
  | f => obtain ⟨a, h1, h2, h3, h4⟩ := h; exact ⟨a, h1, g.h.free h2, h3, h4⟩
theorem Out.b (h : Out Γ κ G H G' H' v d) : RepB Γ.K Γ.C G' H' v d := by
  cases κ with
  | e => exact .inl h
  | b => exact h
  | f => obtain ⟨a, rfl, _, _, h4⟩ := h; exact .inr ⟨a, rfl, h4.r⟩
theorem Out.share (g : Grow G H G' H') (h : Out Γ .f G H G' H' v d) : ∃ G2, Grow G H G2 H' ∧ Rep Γ.K Γ.C G2 v d := by
  obtain ⟨a, rfl, h2, h3, h4⟩ := h
  obtain ⟨o, h5, h6⟩ := h4.shared h3
  exact ⟨_, g.share g.s h5 h3 h2, h6⟩
theorem SemV.toB {t : TE} {F : Env → Option D} (h : SemV Γ κ t F) : SemV Γ .b t F := fun H0 ρ σ G H Q d s E e q => h H0 ρ σ G H Q d s E e fun G' H' v g o => q G' H' v g o.b
theorem SemV.toE {t : TE} {F : Env → Option D} (h : SemV Γ .f t F) : SemV Γ .e t F := fun H0 ρ σ G H Q d s E e q => h H0 ρ σ G H Q d s E e fun G' H' v g o => by
  obtain ⟨G2, g2, r⟩ := o.share g
  exact q G2 H' v g2 r
theorem DV.toB {e : Expr} {F : Env → Option D} (h : DV Γ N sc κ e F) : DV Γ N sc .b e F := let ⟨t, p, s⟩ := h.ex; ⟨t, p, s.toB⟩
theorem DV.toE {e : Expr} {F : Env → Option D} (h : DV Γ N sc .f e F) : DV Γ N sc .e e F := let ⟨t, p, s⟩ := h.ex; ⟨t, p, s.toE⟩
theorem DC.toE {e : Expr} {F : Env → Option D} (h : DC Γ N sc e F) : DV Γ N sc .e e F := let ⟨t, p, s⟩ := h.ex; ⟨t, fun X g => (p X g).1, s⟩
theorem DW.t {e : Expr} {F : Env → Option Bool} (h : DW Γ N sc e F) : DT Γ N sc e F := let ⟨t, p, s⟩ := h.ex; ⟨t, fun X g => (p X g).pt, s⟩
/-! ### combinators -/
def nm (i : Nat) : Env → Option D := fun ρ => match ρ[i]? with
  | some (.sh d) => some d
  | _ => none
def nb (i : Nat) : Env → Option D := fun ρ => match ρ[i]? with
  | some (.sh d) => some d
  | some (.ow d) => some d
  | _ => none
def kc (d : D) : Env → Option D := fun _ => some d
def f1 (g : D → Option D) (a : Env → Option D) : Env → Option D := fun ρ => (a ρ).bind g
def f2 (g : D → D → Option D) (a b : Env → Option D) : Env → Option D := fun ρ => (a ρ).bind fun x => (b ρ).bind fun y => g x y
def fnil : Env → Option (List D) := fun _ => some []
def fcons (a : Env → Option D) (r : Env → Option (List D)) : Env → Option (List D) := fun ρ => (a ρ).bind fun x => (r ρ).bind fun xs => some (x :: xs)
def fN (g : List D → Option D) (a : Env → Option (List D)) : Env → Option D := fun ρ => (a ρ).bind g
def big : Nat := 1000000
theorem big_le : big ≤ sizeLine := by rw [sizeLine_eq]; decide
theorem big_lt {n : Nat} (h : n < big) : n < sizeLine := Nat.lt_of_lt_of_le h big_le
/-! ### names, constants -/
def visB (sc : Scope) (x : Str) : Bool := match sc.names.lookup x with
  | some .local => true
  | some .cell => true
  | some .free => true
  | _ => false
theorem vis_of {x : Str} (h : visB sc x = true) : Vis sc x := by
  unfold visB at h
  split at h
  · exact .inl (by assumption)
  · exact .inr (.inl (by assumption))
  · exact .inr (.inr (by assumption))
  · cases h
def locB (sc : Scope) (x : Str) : Bool := match sc.names.lookup x with
  | some .local => true
  | some .cell => true
  | _ => false
theorem loc_of {x : Str} (h : locB sc x = true) : Loc sc x := by
  unfold locB at h
  split at h
  · exact .inl (by assumption)
  · exact .inr (by assumption)
  · cases h
def lclB (sc : Scope) (x : Str) : Bool := match sc.names.lookup x with
  | some .local => true
  | _ => false
theorem lcl_of {x : Str} (h : lclB sc x = true) : sc.names.lookup x = some .local := by
  unfold lclB at h
  split at h
  · assumption
  · cases h
def glB (sc : Scope) (x : Str) : Bool := match sc.names.lookup x with
  | some .globalImplicit => true
  | _ => false
theorem gl_of {X : Cx} {x : Str} (g : Good Γ N sc X) (h : glB sc x = true) : Gl X x := by
  unfold glB at h
  split at h
  · show X.env.scope.names.lookup x = some .globalImplicit
    rw [g.sc]; assumption
  · cases h
theorem d_nm {i : Nat} {x : Str} {pos : Pos} (hN : N[i]? = some x) (hv : visB sc x = true) (hd : (x == ("__debug__" : Str)) = false) (hcd : (x == ("__classdict__" : Str)) = false) : DV Γ N sc .e (.Name x pos) (nm i) := by
  refine ⟨tVar i, fun X g => pe_var (by rw [g.N]; exact hN) (by rw [g.sc]; exact vis_of hv) hd hcd, fun H0 ρ σ G H Q d s E e q => ?_⟩
  unfold nm at e
  split at e
  · rename_i d' h
    cases e
    obtain ⟨v, h1, h2⟩ := E.sl i _ h
    exact ⟨v, h1, q G H v (Grow.refl s) h2⟩
  · cases e
theorem d_nb {i : Nat} {x : Str} {pos : Pos} (hN : N[i]? = some x) (hv : visB sc x = true) (hd : (x == ("__debug__" : Str)) = false) (hcd : (x == ("__classdict__" : Str)) = false) : DV Γ N sc .b (.Name x pos) (nb i) := by
  refine ⟨tVar i, fun X g => pe_var (by rw [g.N]; exact hN) (by rw [g.sc]; exact vis_of hv) hd hcd, fun H0 ρ σ G H Q d s E e q => ?_⟩
  unfold nb at e
  split at e
  · rename_i d' h
    cases e
    obtain ⟨v, h1, h2⟩ := E.sl i _ h
    exact ⟨v, h1, q G H v (Grow.refl s) (.inl h2)⟩
  · rename_i d' h
    cases e
    obtain ⟨a, h1, _, _, h2⟩ := E.sl i _ h
    exact ⟨_, h1, q G H _ (Grow.refl s) (.inr ⟨a, rfl, h2.r⟩)⟩
  · cases e
theorem d_const {e : Expr} {v : V} {d : D} (p : ∀ X, PE X e (tC v)) (r : ∀ G, Rep Γ.K Γ.C G v d) : DV Γ N sc .e e (kc d) :=
  ⟨tC v, fun X _ => p X, fun H0 ρ σ G H Q d' s E e q => by cases e; exact q G H v (Grow.refl s) (r G)⟩
theorem d_int {i j pos} : DV Γ N sc .e (.Constant (.int i) j pos) (kc (.int i)) := d_const (fun _ => pe_int) fun _ => .int i
theorem d_bl {b j pos} : DV Γ N sc .e (.Constant (.bool b) j pos) (kc (.bl b)) := d_const (fun _ => pe_bl) fun _ => .bl b
theorem d_non {j pos} : DV Γ N sc .e (.Constant .none j pos) (kc .non) := d_const (fun _ => pe_non) fun _ => .non
theorem d_str {x j pos} : DV Γ N sc .e (.Constant (.str x) j pos) (kc (.str x)) := d_const (fun _ => pe_str) fun _ => .str x
/-! ### argument lists, displays -/
theorem a_nil : DA Γ N sc [] fnil := ⟨tNil, fun X _ => pa_nil, fun H0 ρ σ G H Q d s E e q => by cases e; exact q G H [] (Grow.refl s) .nil⟩
theorem a_cons {e : Expr} {es : List Expr} {a : Env → Option D} {r : Env → Option (List D)} (h1 : DV Γ N sc .e e a) (h2 : DA Γ N sc es r)
    (hs : ∀ env : PySem.Env, starEach (e :: es) env = (false, eval e env) :: starEach es env := by intro _; rfl) : DA Γ N sc (e :: es) (fcons a r) := by
  obtain ⟨t1, p1, s1⟩ := h1.ex
  obtain ⟨t2, p2, s2⟩ := h2.ex
  refine ⟨tCons t1 t2, fun X g => pa_cons (p1 X g) (p2 X g) (hs _), fun H0 ρ σ G H Q d s E e q => ?_⟩
  unfold fcons at e
  cases ea : a ρ with
  | none => rw [ea] at e; cases e
  | some x =>
    rw [ea] at e
    cases er : r ρ with
    | none => rw [er] at e; cases e
    | some xs =>
      rw [er] at e
      cases e
      refine s1 H0 ρ σ G H _ x s E ea fun G1 H1 v g1 o1 => ?_
      refine s2 H0 ρ σ G1 H1 _ xs g1.s (E.grow g1) er fun G2 H2 vs g2 o2 => ?_
      exact q G2 H2 _ (g1.trans g2) (.cons (o1.mono g2.g) o2)
def tupD (ds : List D) : Option D := if ds.length < big then some (.tup ds) else none
def lstD (ds : List D) : Option D := if ds.length < big then some (.lst ds) else none
theorem d_tup {es : List Expr} {x1 pos} {a : Env → Option (List D)} (h : DA Γ N sc es a) : DV Γ N sc .e (.Tuple es x1 pos) (fN tupD a) := by
  obtain ⟨t, p, s1⟩ := h.ex
  refine ⟨tTup t, fun X g => pe_tup (p X g), fun H0 ρ σ G H Q d s E e q => ?_⟩
  unfold fN at e
  cases ea : a ρ with
  | none => rw [ea] at e; cases e
  | some ds =>
    rw [ea] at e
    have e : tupD ds = some d := e
    unfold tupD at e
    split at e
    · rename_i hl
      cases e
      refine s1 H0 ρ σ G H _ ds s E ea fun G1 H1 vs g1 o1 => ⟨by rw [o1.length]; exact Nat.le_of_lt (big_lt hl), fun p hp => ?_⟩
      exact q _ _ _ (g1.trans (Grow.new g1.s hp)) (.tup upd_same (o1.mono (SL.new (g1.s.free hp))))
    · cases e
theorem d_lst {es : List Expr} {pos} {a : Env → Option (List D)} (h : DA Γ N sc es a) : DV Γ N sc .f (.List es pos) (fN lstD a) := by
  obtain ⟨t, p, s1⟩ := h.ex
  refine ⟨tLst t, fun X g => pe_lst (p X g), fun H0 ρ σ G H Q d s E e q => ?_⟩
  unfold fN at e
  cases ea : a ρ with
  | none => rw [ea] at e; cases e
  | some ds =>
    rw [ea] at e
    have e : lstD ds = some d := e
    unfold lstD at e
    split at e
    · rename_i hl
      cases e
      refine s1 H0 ρ σ G H _ ds s E ea fun G1 H1 vs g1 o1 => ⟨by rw [o1.length]; exact Nat.le_of_lt (big_lt hl), fun p hp => ?_⟩
      exact q _ _ _ (g1.trans (Grow.newH g1.s hp)) ⟨p, rfl, g1.h.free hp, g1.s.free hp, vs, upd_same, o1⟩
    · cases e
/-! ### operators -/
/-- what an operator by values does -/
def Op2 (Γ : Gam) (κ : Kd) (r : R2) (g : D → D → Option D) : Prop := ∀ (G H : Hp) (x y : V) (d e z : D), SL G H → RepB Γ.K Γ.C G H x d → RepB Γ.K Γ.C G H y e → g d e = some z →
  ∀ Q : VK, (∀ (G' H' : Hp) (u : V), Grow G H G' H' → Out Γ κ G H G' H' u z → Q u H') → r x y H Q
theorem sem_op {r : R2} {g : D → D → Option D} {ta tb : TE} {a b : Env → Option D} (h : Op2 Γ κ r g) (sa : SemV Γ κ1 ta a) (sb : SemV Γ κ2 tb b) : SemV Γ κ (tOp r ta tb) (f2 g a b) := fun H0 ρ σ G H Q z s E e q => by
  unfold f2 at e
  cases ea : a ρ with
  | none => rw [ea] at e; cases e
  | some x =>
    rw [ea] at e
    cases eb : b ρ with
    | none => rw [eb] at e; cases e
    | some y =>
      rw [eb] at e
      refine sa H0 ρ σ G H _ x s E ea fun G1 H1 v g1 o1 => ?_
      refine sb H0 ρ σ G1 H1 _ y g1.s (E.grow g1) eb fun G2 H2 w g2 o2 => ?_
      exact h G2 H2 v w x y z g2.s (o1.b.mono g2.g g2.h) o2.b e Q fun G3 H3 u g3 o3 => q G3 H3 u ((g1.trans g2).trans g3) (o3.pre (g1.trans g2))
theorem d_op {op : Operator} {r : R2} {g : D → D → Option D} {ea eb : Expr} {a b : Env → Option D} {pos : Pos} (ho : ∀ X, Good Γ N sc X → OpR X (binaryOp op) r) (h : Op2 Γ κ r g) (ha : DV Γ N sc κ1 ea a) (hb : DV Γ N sc κ2 eb b) :
    DV Γ N sc κ (.BinOp ea op eb pos) (f2 g a b) := by
  obtain ⟨ta, pa, sa⟩ := ha.ex
  obtain ⟨tb, pb, sb⟩ := hb.ex
  exact ⟨_, fun X gX => pe_op (ho X gX) (pa X gX) (pb X gX), sem_op h sa sb⟩
theorem d_cmp {op : CmpOp} {r : R2} {g : D → D → Option D} {ea eb : Expr} {a b : Env → Option D} {pos : Pos} (ho : ∀ X, Good Γ N sc X → OpR X (compareOp op) r) (h : Op2 Γ .e r g) (ha : DV Γ N sc κ1 ea a) (hb : DV Γ N sc κ2 eb b)
    (hm : behindInMarks op eb = false) : DC Γ N sc (.Compare ea [op] [eb] pos) (f2 g a b) := by
  obtain ⟨ta, pa, sa⟩ := ha.ex
  obtain ⟨tb, pb, sb⟩ := hb.ex
  exact ⟨_, fun X gX => ⟨pe_cmpR (ho X gX) (pa X gX) (pb X gX) hm, pt_cmpR (ho X gX) (pa X gX) (pb X gX) hm⟩, sem_op h sa sb⟩
section
variable {x y : V} {e z : D} {Q : VK}
def subD : D → D → Option D
  | .int i, .int j => some (.int (i - j))
  | _, _ => none
def fdivD : D → D → Option D
  | .int i, .int j => if 0 < j ∧ j < 2 ^ 64 then some (.int (i / j)) else none
  | _, _ => none
def modD : D → D → Option D
  | .int i, .int j => if 0 < j then some (.int (i % j)) else none
  | _, _ => none
def addD : D → D → Option D
  | .int i, .int j => some (.int (i + j))
  | .str i, .str j => if i.length + j.length < big then some (.str (i ++ j)) else none
  | .tup i, .tup j => if i.length + j.length < big then some (.tup (i ++ j)) else none
  | .lst i, .lst j => if i.length + j.length < big then some (.lst (i ++ j)) else none
  | _, _ => none
def catD : D → D → Option D
  | .lst i, .lst j => if i.length + j.length < big then some (.lst (i ++ j)) else none
  | _, _ => none
def mulD : D → D → Option D
  | .int i, .int j => if i.natAbs < 2 ^ 64 ∨ j.natAbs < 2 ^ 64 then some (.int (i * j)) else none
  | .tup xs, .int k => if xs ≠ [] ∧ 2 ≤ k ∧ k ≤ 1000 ∧ xs.length ≤ 1000 then some (.tup (List.replicate k.toNat xs).flatten) else none
  | _, _ => none
def shlD : D → D → Option D
  | .int i, .int j => if 0 ≤ j ∧ j ≤ 1000 ∧ i.natAbs < 2 ^ 64 then some (.int (i * 2 ^ j.toNat)) else none
  | _, _ => none
def shrD : D → D → Option D
  | .int i, .int j => if 0 ≤ j then some (.int (i / 2 ^ j.toNat)) else none
  | _, _ => none
def bandD : D → D → Option D
  | .int i, .int j => some (.int (Builtin.bitAnd i j))
  | _, _ => none
def ltD : D → D → Option D
  | .int i, .int j => some (.bl (decide (i < j)))
  | _, _ => none
def leD : D → D → Option D
  | .int i, .int j => some (.bl (decide (i ≤ j)))
  | _, _ => none
def gtD : D → D → Option D
  | .int i, .int j => some (.bl (decide (j < i)))
  | _, _ => none
def geD : D → D → Option D
  | .int i, .int j => some (.bl (decide (j ≤ i)))
  | _, _ => none
theorem op2_int0 {f : Int → Int → V} {g : D → D → Option D} {k : Int → Int → D} (hk : ∀ i j G, Rep Γ.K Γ.C G (f i j) (k i j)) (hg : ∀ d e z, g d e = some z → ∃ i j, d = .int i ∧ e = .int j ∧ z = k i j) : Op2 Γ .e (rI0 f) g := by
  intro G H x y d e z s rx ry h Q q
  obtain ⟨i, j, rfl, rfl, rfl⟩ := hg d e z h
  exact ⟨i, j, rx.int, ry.int, q G H _ (Grow.refl s) (hk i j G)⟩
theorem op2_int {f : Int → Int → V} {P : Int → Int → Prop} {g : D → D → Option D} {k : Int → Int → D} (hk : ∀ i j G, Rep Γ.K Γ.C G (f i j) (k i j)) (hg : ∀ d e z, g d e = some z → ∃ i j, d = .int i ∧ e = .int j ∧ z = k i j ∧ P i j) : Op2 Γ .e (rI P f) g := by
  intro G H x y d e z s rx ry h Q q
  obtain ⟨i, j, rfl, rfl, rfl, hp⟩ := hg d e z h
  exact ⟨i, j, rx.int, ry.int, hp, q G H _ (Grow.refl s) (hk i j G)⟩
theorem Op2.orL {r r' : R2} {g : D → D → Option D} (h : Op2 Γ κ r g) : Op2 Γ κ (fun x y H Q => r x y H Q ∨ r' x y H Q) g := fun G H x y d e z s rx ry h1 Q q => .inl (h G H x y d e z s rx ry h1 Q q)
theorem o_sub : Op2 Γ .e (rI0 fun i j => .int (i - j)) subD := op2_int0 (k := fun i j => .int (i - j)) (fun _ _ _ => .int _) fun d e z h => by
  unfold subD at h; split at h
  · cases h; exact ⟨_, _, rfl, rfl, rfl⟩
  · cases h
theorem o_lt : Op2 Γ .e (rI0 fun i j => .bl (decide (i < j))) ltD := op2_int0 (k := fun i j => .bl (decide (i < j))) (fun _ _ _ => .bl _) fun d e z h => by
  unfold ltD at h; split at h
  · cases h; exact ⟨_, _, rfl, rfl, rfl⟩
  · cases h
theorem o_le : Op2 Γ .e (rI0 fun i j => .bl (decide (i ≤ j))) leD := op2_int0 (k := fun i j => .bl (decide (i ≤ j))) (fun _ _ _ => .bl _) fun d e z h => by
  unfold leD at h; split at h
  · cases h; exact ⟨_, _, rfl, rfl, rfl⟩
  · cases h
theorem o_gt : Op2 Γ .e (rI0 fun i j => .bl (decide (j < i))) gtD := op2_int0 (k := fun i j => .bl (decide (j < i))) (fun _ _ _ => .bl _) fun d e z h => by
  unfold gtD at h; split at h
  · cases h; exact ⟨_, _, rfl, rfl, rfl⟩
  · cases h
theorem o_ge : Op2 Γ .e (rI0 fun i j => .bl (decide (j ≤ i))) geD := op2_int0 (k := fun i j => .bl (decide (j ≤ i))) (fun _ _ _ => .bl _) fun d e z h => by
  unfold geD at h; split at h
  · cases h; exact ⟨_, _, rfl, rfl, rfl⟩
  · cases h
theorem o_band : Op2 Γ .e (rI0 fun i j => .int (Builtin.bitAnd i j)) bandD := op2_int0 (k := fun i j => .int (Builtin.bitAnd i j)) (fun _ _ _ => .int _) fun d e z h => by
  unfold bandD at h; split at h
  · cases h; exact ⟨_, _, rfl, rfl, rfl⟩
  · cases h
theorem log2_small {j : Int} (h0 : 0 < j) (h : j < 2 ^ 64) : j.natAbs.log2 < 9000 := by
  have h1 : j.natAbs < 2 ^ 64 := by omega
  have h2 : j.natAbs ≠ 0 := by omega
  have h3 : j.natAbs.log2 < 64 := (Nat.log2_lt h2).mpr h1
  omega
theorem o_fdiv : Op2 Γ .e (rI CDivW fun i j => .int (i / j)) fdivD := op2_int (k := fun i j => .int (i / j)) (fun _ _ _ => .int _) fun d e z h => by
  unfold fdivD at h; split at h
  · split at h
    · rename_i hc
      cases h; exact ⟨_, _, rfl, rfl, rfl, hc.1, log2_small hc.1 hc.2⟩
    · cases h
  · cases h
theorem o_mod : Op2 Γ .e (rI (fun _ j => 0 < j) fun i j => .int (i % j)) modD := op2_int (k := fun i j => .int (i % j)) (fun _ _ _ => .int _) fun d e z h => by
  unfold modD at h; split at h
  · split at h
    · rename_i hc
      cases h; exact ⟨_, _, rfl, rfl, rfl, hc⟩
    · cases h
  · cases h
theorem o_shl : Op2 Γ .e (rI CPow fun i j => .int (i * 2 ^ j.toNat)) shlD := op2_int (k := fun i j => .int (i * 2 ^ j.toNat)) (fun _ _ _ => .int _) fun d e z h => by
  unfold shlD at h; split at h
  · split at h
    · rename_i hc
      cases h; exact ⟨_, _, rfl, rfl, rfl, hc.1, by omega, hc.2.2⟩
    · cases h
  · cases h
theorem o_shr : Op2 Γ .e (rI (fun _ j => 0 ≤ j) fun i j => .int (i / 2 ^ j.toNat)) shrD := op2_int (k := fun i j => .int (i / 2 ^ j.toNat)) (fun _ _ _ => .int _) fun d e z h => by
  unfold shrD at h; split at h
  · split at h
    · rename_i hc
      cases h; exact ⟨_, _, rfl, rfl, rfl, hc⟩
    · cases h
  · cases h
theorem RepL.ne_nil {K : PySem.W.Frag} {C : Addr} {G : Hp} {vs : List V} {ds : List D} (h : RepL K C G vs ds) : vs = [] ↔ ds = [] := by
  cases h <;> simp
theorem RepL.flat {K : PySem.W.Frag} {C : Addr} {G : Hp} {vs : List V} {ds : List D} (h : RepL K C G vs ds) : ∀ n : Nat, RepL K C G (List.replicate n vs).flatten (List.replicate n ds).flatten
  | 0 => .nil
  | n + 1 => by
    rw [List.replicate_succ, List.replicate_succ, List.flatten_cons, List.flatten_cons]
    exact h.app (h.flat n)
abbrev rMulA (K : PySem.W.Frag) : R2 := fun x y H Q => (rI CMul fun i j => .int (i * j)) x y H Q ∨ rRepT K x y H Q
theorem o_mul : Op2 Γ .e (rMulA Γ.K) mulD := by
  intro G H x y d e z s rx ry h Q q
  unfold mulD at h
  split at h
  · split at h
    · rename_i i j hc
      cases h
      refine .inl ⟨i, j, rx.int, ry.int, ?_, q G H _ (Grow.refl s) (.int _)⟩
      show (-(2 ^ 64) < i ∧ i < 2 ^ 64) ∨ (-(2 ^ 64) < j ∧ j < 2 ^ 64)
      omega
    · cases h
  · split at h
    · rename_i xs k hc
      cases h
      obtain ⟨a, vs, rfl, h1, h2⟩ := rx.tup
      refine .inr ⟨a, k, vs, rfl, ry.int, SqT.of (s.tup h1), fun e => hc.1 (h2.ne_nil.mp e), hc.2.1, hc.2.2.1, by rw [h2.length]; exact hc.2.2.2, fun p hp => ?_⟩
      exact q _ _ _ (Grow.new s hp) (.tup upd_same ((h2.flat _).mono (SL.new (s.free hp))))
    · cases h
  · cases h
abbrev rAddA (K : PySem.W.Frag) : R2 := fun x y H Q => (fun x y H Q => (rI0 fun i j => .int (i + j)) x y H Q ∨ (fun (x y : V) (H : Hp) (Q : VK) => ∃ i j, x = V.str i ∧ y = V.str j ∧ i.length + j.length ≤ sizeLine ∧ Q (.str (i ++ j)) H) x y H Q) x y H Q ∨ (fun x y H Q => rCatA K x y H Q ∨ rCat x y H Q) x y H Q
theorem o_add : Op2 Γ .e (rAddA Γ.K) addD := by
  intro G H x y d e z s rx ry h Q q
  unfold addD at h
  split at h
  · rename_i i j
    cases h
    exact .inl (.inl ⟨i, j, rx.int, ry.int, q G H _ (Grow.refl s) (.int _)⟩)
  · split at h
    · rename_i i j hc
      cases h
      exact .inl (.inr ⟨i, j, rx.str, ry.str, Nat.le_of_lt (big_lt hc), q G H _ (Grow.refl s) (.str _)⟩)
    · cases h
  · split at h
    · rename_i xs ys hc
      cases h
      obtain ⟨a, vs, rfl, h1, h2⟩ := rx.tup
      obtain ⟨b, ws, rfl, h3, h4⟩ := ry.tup
      refine .inr (.inl ⟨a, b, vs, ws, rfl, rfl, SqT.of (s.tup h1), SqT.of (s.tup h3), by rw [h2.length, h4.length]; exact Nat.le_of_lt (big_lt hc), fun e => ?_, fun _ e => ?_, fun _ _ p hp => ?_⟩)
      · have := h2.ne_nil.mp e
        subst this
        exact q G H _ (Grow.refl s) (.tup h3 h4)
      · have := h4.ne_nil.mp e
        subst this
        rw [List.append_nil] at q
        exact q G H _ (Grow.refl s) (.tup h1 h2)
      · exact q _ _ _ (Grow.new s hp) (.tup upd_same ((h2.app h4).mono (SL.new (s.free hp))))
    · cases h
  · split at h
    · rename_i xs ys hc
      cases h
      obtain ⟨a, vs, rfl, h1, h2⟩ := rx.lst s
      obtain ⟨b, ws, rfl, h3, h4⟩ := ry.lst s
      refine .inr (.inr ⟨a, b, vs, ws, rfl, rfl, h1, h3, by rw [h2.length, h4.length]; exact Nat.le_of_lt (big_lt hc), fun p hp => ?_⟩)
      exact q _ _ _ (Grow.new s hp) (.lst upd_same ((h2.app h4).mono (SL.new (s.free hp))))
    · cases h
  · cases h
theorem o_cat : Op2 Γ .f rCat catD := by
  intro G H x y d e z s rx ry h Q q
  unfold catD at h
  split at h
  · split at h
    · rename_i xs ys hc
      cases h
      obtain ⟨a, vs, rfl, h1, h2⟩ := rx.lst s
      obtain ⟨b, ws, rfl, h3, h4⟩ := ry.lst s
      refine ⟨a, b, vs, ws, rfl, rfl, h1, h3, by rw [h2.length, h4.length]; exact Nat.le_of_lt (big_lt hc), fun p hp => ?_⟩
      exact q _ _ _ (Grow.newH s hp) ⟨p, rfl, hp, s.free hp, _, upd_same, h2.app h4⟩
    · cases h
  · cases h
end
section
variable {ea eb : Expr} {a b : Env → Option D} {pos : Pos}
theorem d_add (ha : DV Γ N sc κ1 ea a) (hb : DV Γ N sc κ2 eb b) : DV Γ N sc .e (.BinOp ea .Add eb pos) (f2 addD a b) := d_op (fun X g => g.K ▸ (op_add.or op_add_str).or (op_catA.or op_cat)) o_add ha hb
theorem d_cat (ha : DV Γ N sc κ1 ea a) (hb : DV Γ N sc κ2 eb b) : DV Γ N sc .f (.BinOp ea .Add eb pos) (f2 catD a b) := d_op (fun X g => op_cat) o_cat ha hb
theorem d_sub (ha : DV Γ N sc κ1 ea a) (hb : DV Γ N sc κ2 eb b) : DV Γ N sc .e (.BinOp ea .Sub eb pos) (f2 subD a b) := d_op (fun X g => op_sub) o_sub ha hb
theorem d_mul (ha : DV Γ N sc κ1 ea a) (hb : DV Γ N sc κ2 eb b) : DV Γ N sc .e (.BinOp ea .Mult eb pos) (f2 mulD a b) := d_op (fun X g => g.K ▸ op_mul.or op_repT) o_mul ha hb
theorem d_fdiv (ha : DV Γ N sc κ1 ea a) (hb : DV Γ N sc κ2 eb b) : DV Γ N sc .e (.BinOp ea .FloorDiv eb pos) (f2 fdivD a b) := d_op (fun X g => op_fdivW) o_fdiv ha hb
theorem d_mod (ha : DV Γ N sc κ1 ea a) (hb : DV Γ N sc κ2 eb b) : DV Γ N sc .e (.BinOp ea .Mod eb pos) (f2 modD a b) := d_op (fun X g => op_mod) o_mod ha hb
theorem d_shl (ha : DV Γ N sc κ1 ea a) (hb : DV Γ N sc κ2 eb b) : DV Γ N sc .e (.BinOp ea .LShift eb pos) (f2 shlD a b) := d_op (fun X g => op_shl) o_shl ha hb
theorem d_shr (ha : DV Γ N sc κ1 ea a) (hb : DV Γ N sc κ2 eb b) : DV Γ N sc .e (.BinOp ea .RShift eb pos) (f2 shrD a b) := d_op (fun X g => op_shr) o_shr ha hb
theorem d_band (ha : DV Γ N sc κ1 ea a) (hb : DV Γ N sc κ2 eb b) : DV Γ N sc .e (.BinOp ea .BitAnd eb pos) (f2 bandD a b) := d_op (fun X g => op_and) o_band ha hb
theorem d_lt (ha : DV Γ N sc κ1 ea a) (hb : DV Γ N sc κ2 eb b) : DC Γ N sc (.Compare ea [.Lt] [eb] pos) (f2 ltD a b) := d_cmp (fun X g => op_lt) o_lt ha hb (nobehind _ (by decide) (by decide))
theorem d_le (ha : DV Γ N sc κ1 ea a) (hb : DV Γ N sc κ2 eb b) : DC Γ N sc (.Compare ea [.LtE] [eb] pos) (f2 leD a b) := d_cmp (fun X g => op_le) o_le ha hb (nobehind _ (by decide) (by decide))
theorem d_gt (ha : DV Γ N sc κ1 ea a) (hb : DV Γ N sc κ2 eb b) : DC Γ N sc (.Compare ea [.Gt] [eb] pos) (f2 gtD a b) := d_cmp (fun X g => op_gt) o_gt ha hb (nobehind _ (by decide) (by decide))
theorem d_ge (ha : DV Γ N sc κ1 ea a) (hb : DV Γ N sc κ2 eb b) : DC Γ N sc (.Compare ea [.GtE] [eb] pos) (f2 geD a b) := d_cmp (fun X g => op_ge) o_ge ha hb (nobehind _ (by decide) (by decide))
end
end
end Pv
set_option Elab.async false
set_option linter.all false
set_option maxRecDepth 100000
set_option maxHeartbeats 4000000
set_option autoImplicit false
namespace Pv
variable [TabT]
open PySem PySem.Spec PyProof.Rows L2
section
variable {Γ : Gam} {N : List Str} {sc : Scope} {κ κ1 κ2 κ3 : Kd} {G H G' H' G1 H1 : Hp} {v : V} {d : D}
/-! ### == of data -/
def okD : Nat → D → Bool
  | 0, _ => false
  | _ + 1, .non => true
  | _ + 1, .bl _ => true
  | _ + 1, .int _ => true
  | n + 1, .tup xs => xs.all (okD n)
  | n + 1, .lst xs => xs.all (okD n)
  | _ + 1, _ => false
def eqL (f : D → D → Bool) : List D → List D → Bool
  | [], [] => true
  | x :: xs, y :: ys => f x y && eqL f xs ys
  | _, _ => false
def eqN : Nat → D → D → Bool
  | 0, _, _ => false
  | _ + 1, .non, .non => true
  | _ + 1, .bl a, .bl b => a == b
  | _ + 1, .bl a, .int j => (if a then 1 else 0) == j
  | _ + 1, .int i, .bl b => i == (if b then 1 else 0)
  | _ + 1, .int i, .int j => i == j
  | n + 1, .tup xs, .tup ys => eqL (eqN n) xs ys
  | n + 1, .lst xs, .lst ys => eqL (eqN n) xs ys
  | _ + 1, _, _ => false
def py : Nat → D → PyData
  | 0, _ => .none
  | _ + 1, .bl b => .bool b
  | _ + 1, .int i => .int i
  | n + 1, .tup xs => .tuple (xs.map (py n))
  | n + 1, .lst xs => .list (xs.map (py n))
  | _ + 1, _ => .none
theorem py_shape : ∀ (n : Nat) (d : D), okD n d = true → (py n d).canLay0 = true ∧ (py n d).depth ≤ n := by
  intro n
  induction n with
  | zero => intro d h; cases h
  | succ n ih =>
    have all : ∀ xs : List D, xs.all (okD n) = true → PyData.canLayAll0 (xs.map (py n)) = true ∧ PyData.depthAll (xs.map (py n)) ≤ n := by
      intro xs
      induction xs with
      | nil => intro _; exact ⟨rfl, Nat.zero_le _⟩
      | cons x xs ihx =>
        intro h
        rw [List.all_cons, Bool.and_eq_true] at h
        obtain ⟨h1, h2⟩ := ih x h.1
        obtain ⟨h3, h4⟩ := ihx h.2
        refine ⟨?_, ?_⟩
        · show (PyData.canLay0 (py n x) && PyData.canLayAll0 (xs.map (py n))) = true
          rw [h1, h3]; rfl
        · show max (PyData.depth (py n x)) (PyData.depthAll (xs.map (py n))) ≤ n
          omega
    intro d h
    cases d with
    | non => exact ⟨rfl, Nat.zero_le _⟩
    | bl b => exact ⟨rfl, Nat.zero_le _⟩
    | int i => exact ⟨rfl, Nat.zero_le _⟩
    | tup xs => obtain ⟨h1, h2⟩ := all xs h; exact ⟨h1, Nat.succ_le_succ h2⟩
    | lst xs => obtain ⟨h1, h2⟩ := all xs h; exact ⟨h1, Nat.succ_le_succ h2⟩
    | _ => cases h
theorem py_eqv : ∀ (n : Nat) (d e : D), okD n d = true → okD n e = true → PyData.eqv (py n d) (py n e) = eqN n d e := by
  intro n
  induction n with
  | zero => intro d e h; cases h
  | succ n ih =>
    have all : ∀ xs ys : List D, xs.all (okD n) = true → ys.all (okD n) = true → PyData.eqvAll (xs.map (py n)) (ys.map (py n)) = eqL (eqN n) xs ys := by
      intro xs
      induction xs with
      | nil => intro ys _ _; cases ys <;> rfl
      | cons x xs ihx =>
        intro ys h k
        cases ys with
        | nil => rfl
        | cons y ys =>
          rw [List.all_cons, Bool.and_eq_true] at h k
          show (PyData.eqv (py n x) (py n y) && PyData.eqvAll (xs.map (py n)) (ys.map (py n))) = (eqN n x y && eqL (eqN n) xs ys)
          rw [ih x y h.1 k.1, ihx ys h.2 k.2]
    intro d e h k
    cases d <;> cases e <;> first | rfl | exact absurd (show false = true from h) Bool.false_ne_true | exact absurd (show false = true from k) Bool.false_ne_true | exact all _ _ h k
theorem py_dp (s : SL G H) : ∀ (n : Nat) (d : D) (v : V), okD n d = true → Rep Γ.K Γ.C G v d → Dp Γ.K H v (py n d) := by
  intro n
  induction n with
  | zero => intro d v h; cases h
  | succ n ih =>
    have all : ∀ (xs : List D) (vs : List V), xs.all (okD n) = true → RepL Γ.K Γ.C G vs xs → DpAll Γ.K H vs (xs.map (py n)) := by
      intro xs
      induction xs with
      | nil => intro vs _ r; cases r; exact .nil
      | cons x xs ihx =>
        intro vs h r
        rw [List.all_cons, Bool.and_eq_true] at h
        cases r with
        | cons r1 r2 => exact .cons (ih x _ h.1 r1) (ihx _ h.2 r2)
    intro d v h r
    cases r with
    | non => exact .non
    | bl b => exact .bl b
    | int i => exact .int i
    | tup h1 h2 => exact .tup (SqT.of (s.tup h1)) (all _ _ h h2)
    | lst h1 h2 => exact .lst (SqL.of (s.lst h1)) (all _ _ h h2)
    | _ => cases h
theorem py_dpAll (s : SL G H) (n : Nat) : ∀ (xs : List D) (vs : List V), xs.all (okD n) = true → RepL Γ.K Γ.C G vs xs → DpAll Γ.K H vs (xs.map (py n)) := by
  intro xs
  induction xs with
  | nil => intro vs _ r; cases r; exact .nil
  | cons x xs ihx =>
    intro vs h r
    rw [List.all_cons, Bool.and_eq_true] at h
    cases r with
    | cons r1 r2 => exact .cons (py_dp s n x _ h.1 r1) (ihx _ h.2 r2)
theorem py_dpB (s : SL G H) {n : Nat} (h : okD n d = true) (r : RepB Γ.K Γ.C G H v d) : Dp Γ.K H v (py n d) := by
  rcases r with r | ⟨a, rfl, r⟩
  · exact py_dp s n d v h r
  · cases n with
    | zero => cases h
    | succ n =>
      cases d <;> try exact r.elim
      · obtain ⟨vs, h1, h2⟩ := r
        exact .lst (SqL.of h1) (py_dpAll s n _ vs h h2)
      · exact absurd (show false = true from h) Bool.false_ne_true
      · exact absurd (show false = true from h) Bool.false_ne_true
theorem py_shaped {n : Nat} (hn : n ≤ 60) (h : okD n d = true) : SeqAt.shaped (py n d) = true := by
  obtain ⟨h1, h2⟩ := py_shape n d h
  unfold SeqAt.shaped
  rw [h1, decide_eq_true (Nat.le_trans h2 (by omega))]
  rfl
def sclD : D → D → Bool
  | .str _, .str _ => true | .non, .str _ => true | .str _, .non => true | .int _, .str _ => true | .str _, .int _ => true
  | _, _ => false
def sclE : D → D → Bool
  | .str x, .str y => decide (x = y)
  | _, _ => false
def eqD (d e : D) : Option D := if sclD d e then some (.bl (sclE d e)) else if okD 8 d && okD 8 e then some (.bl (eqN 8 d e)) else none
def neD (d e : D) : Option D := if sclD d e then some (.bl (!sclE d e)) else if okD 8 d && okD 8 e then some (.bl (!eqN 8 d e)) else none
theorem scl_ok {d e : D} {x y : V} (h : sclD d e = true) (rx : RepB Γ.K Γ.C G H x d) (ry : RepB Γ.K Γ.C G H y e) : scal x y = true ∧ decide (x = y) = sclE d e := by
  cases d <;> cases e <;> first | cases h | skip
  · rw [rx.non, ry.str]; exact ⟨rfl, rfl⟩
  · rw [rx.int, ry.str]; exact ⟨rfl, rfl⟩
  · rw [rx.str, ry.non]; exact ⟨rfl, rfl⟩
  · rw [rx.str, ry.int]; exact ⟨rfl, rfl⟩
  · rw [rx.str, ry.str]
    refine ⟨rfl, ?_⟩
    rename_i a b
    show decide (V.str a = V.str b) = decide (a = b)
    by_cases q : a = b
    · rw [q, decide_eq_true rfl, decide_eq_true rfl]
    · rw [decide_eq_false q, decide_eq_false fun z => q (V.str.inj z)]
abbrev rEqA (K : PySem.W.Frag) : R2 := fun x y H Q => rEq x y H Q ∨ rEqD K x y H Q
abbrev rNeA (K : PySem.W.Frag) : R2 := fun x y H Q => rNe x y H Q ∨ rNeD K x y H Q
theorem o_eq : Op2 Γ .e (rEqA Γ.K) eqD := by
  intro G H x y d e z s rx ry h Q q
  unfold eqD at h
  split at h
  · rename_i hc
    cases h
    obtain ⟨h1, h2⟩ := scl_ok hc rx ry
    exact .inl ⟨h1, by rw [h2]; exact q G H _ (Grow.refl s) (.bl _)⟩
  · split at h
    · rename_i hc
      cases h
      rw [Bool.and_eq_true] at hc
      refine .inr ⟨_, _, py_dpB s hc.1 rx, py_dpB s hc.2 ry, py_shaped (by omega) hc.1, py_shaped (by omega) hc.2, ?_⟩
      rw [py_eqv 8 d e hc.1 hc.2]
      exact q G H _ (Grow.refl s) (.bl _)
    · cases h
theorem o_ne : Op2 Γ .e (rNeA Γ.K) neD := by
  intro G H x y d e z s rx ry h Q q
  unfold neD at h
  split at h
  · rename_i hc
    cases h
    obtain ⟨h1, h2⟩ := scl_ok hc rx ry
    exact .inl ⟨h1, by rw [h2]; exact q G H _ (Grow.refl s) (.bl _)⟩
  · split at h
    · rename_i hc
      cases h
      rw [Bool.and_eq_true] at hc
      refine .inr ⟨_, _, py_dpB s hc.1 rx, py_dpB s hc.2 ry, py_shaped (by omega) hc.1, py_shaped (by omega) hc.2, ?_⟩
      rw [py_eqv 8 d e hc.1 hc.2]
      exact q G H _ (Grow.refl s) (.bl _)
    · cases h
theorem d_eq {ea eb : Expr} {a b : Env → Option D} {pos : Pos} (ha : DV Γ N sc κ1 ea a) (hb : DV Γ N sc κ2 eb b) : DC Γ N sc (.Compare ea [.Eq] [eb] pos) (f2 eqD a b) :=
  d_cmp (fun X g => g.K ▸ op_eq.or (op_eqD g.room.units)) o_eq ha hb (nobehind _ (by decide) (by decide))
theorem d_ne {ea eb : Expr} {a b : Env → Option D} {pos : Pos} (ha : DV Γ N sc κ1 ea a) (hb : DV Γ N sc κ2 eb b) : DC Γ N sc (.Compare ea [.NotEq] [eb] pos) (f2 neD a b) :=
  d_cmp (fun X g => g.K ▸ op_ne.or (op_neD g.room.units)) o_ne ha hb (nobehind _ (by decide) (by decide))
/-! ### is -/
def nonB : D → Bool
  | .non => true
  | _ => false
def isD : D → D → Option D
  | .bl a, .bl b => some (.bl (decide (a = b)))
  | d, .non => some (.bl (nonB d))
  | _, _ => none
def isntD : D → D → Option D
  | .bl a, .bl b => some (.bl (!decide (a = b)))
  | d, .non => some (.bl (!nonB d))
  | _, _ => none
theorem nonB_ok {x : V} (r : RepB Γ.K Γ.C G H x d) : decide (x = .non) = nonB d := by
  rcases r with r | ⟨a, rfl, r⟩
  · cases r <;> rfl
  · cases d <;> first | rfl | exact r.elim
abbrev rIsA : R2 := fun x y H Q => rIsB x y H Q ∨ (fun (x y : V) (H : Hp) (Q : VK) => y = .non ∧ Q (.bl (decide (x = .non))) H) x y H Q
abbrev rNtA : R2 := fun x y H Q => rNotB x y H Q ∨ (fun (x y : V) (H : Hp) (Q : VK) => y = .non ∧ Q (.bl (!decide (x = .non))) H) x y H Q
theorem o_is : Op2 Γ .e rIsA isD := by
  intro G H x y d e z s rx ry h Q q
  unfold isD at h
  split at h
  · cases h
    exact .inl ⟨_, _, rx.bl, ry.bl, q G H _ (Grow.refl s) (.bl _)⟩
  · cases h
    exact .inr ⟨ry.non, by rw [nonB_ok rx]; exact q G H _ (Grow.refl s) (.bl _)⟩
  · cases h
theorem o_isnt : Op2 Γ .e rNtA isntD := by
  intro G H x y d e z s rx ry h Q q
  unfold isntD at h
  split at h
  · cases h
    exact .inl ⟨_, _, rx.bl, ry.bl, q G H _ (Grow.refl s) (.bl _)⟩
  · cases h
    exact .inr ⟨ry.non, by rw [nonB_ok rx]; exact q G H _ (Grow.refl s) (.bl _)⟩
  · cases h
theorem d_is {ea eb : Expr} {a b : Env → Option D} {pos : Pos} (ha : DV Γ N sc κ1 ea a) (hb : DV Γ N sc κ2 eb b) : DC Γ N sc (.Compare ea [.Is] [eb] pos) (f2 isD a b) :=
  d_cmp (fun X g => op_isBl.or op_isN) o_is ha hb (nobehind _ (by decide) (by decide))
theorem d_isnt {ea eb : Expr} {a b : Env → Option D} {pos : Pos} (ha : DV Γ N sc κ1 ea a) (hb : DV Γ N sc κ2 eb b) : DC Γ N sc (.Compare ea [.IsNot] [eb] pos) (f2 isntD a b) :=
  d_cmp (fun X g => op_notBl.or op_notN) o_isnt ha hb (nobehind _ (by decide) (by decide))
/-! ### lists of ints, of truths -/
def asInts : List D → Option (List Int)
  | [] => some []
  | .int i :: r => (asInts r).bind fun ns => some (i :: ns)
  | _ :: _ => none
theorem asInts_eq : ∀ {ds : List D} {ns : List Int}, asInts ds = some ns → ds = ns.map D.int
  | [], ns, h => by cases h; rfl
  | d :: ds, ns, h => by
    cases d <;> try cases h
    unfold asInts at h
    cases q : asInts ds with
    | none => rw [q] at h; cases h
    | some ms => rw [q] at h; cases h; rw [asInts_eq q]; rfl
theorem asInts_map : ∀ ns : List Int, asInts (ns.map D.int) = some ns
  | [] => rfl
  | n :: ns => by
    show (asInts (ns.map D.int)).bind _ = _
    rw [asInts_map ns]; rfl
def asBls : List D → Option (List Bool)
  | [] => some []
  | .bl i :: r => (asBls r).bind fun ns => some (i :: ns)
  | _ :: _ => none
theorem asBls_eq : ∀ {ds : List D} {ns : List Bool}, asBls ds = some ns → ds = ns.map D.bl
  | [], ns, h => by cases h; rfl
  | d :: ds, ns, h => by
    cases d <;> try cases h
    unfold asBls at h
    cases q : asBls ds with
    | none => rw [q] at h; cases h
    | some ms => rw [q] at h; cases h; rw [asBls_eq q]; rfl
theorem asBls_map : ∀ ns : List Bool, asBls (ns.map D.bl) = some ns
  | [] => rfl
  | n :: ns => by
    show (asBls (ns.map D.bl)).bind _ = _
    rw [asBls_map ns]; rfl
def asStrs : List D → Option (List Str)
  | [] => some []
  | .str i :: r => (asStrs r).bind fun ns => some (i :: ns)
  | _ :: _ => none
theorem asStrs_eq : ∀ {ds : List D} {ns : List Str}, asStrs ds = some ns → ds = ns.map D.str
  | [], ns, h => by cases h; rfl
  | d :: ds, ns, h => by
    cases d <;> try cases h
    unfold asStrs at h
    cases q : asStrs ds with
    | none => rw [q] at h; cases h
    | some ms => rw [q] at h; cases h; rw [asStrs_eq q]; rfl
theorem asStrs_map : ∀ ns : List Str, asStrs (ns.map D.str) = some ns
  | [] => rfl
  | n :: ns => by
    show (asStrs (ns.map D.str)).bind _ = _
    rw [asStrs_map ns]; rfl
/-! ### dicts -/
def getK {κ : Type} [DecidableEq κ] (kds : List (κ × D)) (k : κ) : Option D := (kds.find? fun p => decide (p.1 = k)).map Prod.snd
def putD {κ : Type} [DecidableEq κ] (kds : List (κ × D)) (k : κ) (d : D) : List (κ × D) :=
  if kds.any (fun p => decide (p.1 = k)) then kds.map (fun p => if p.1 = k then (k, d) else p) else kds ++ [(k, d)]
theorem getK_val {κ μ : Type} [DecidableEq κ] [DecidableEq μ] (f : μ → κ) (hf : ∀ a b, f a = f b → a = b) {K : PySem.W.Frag} {C : Addr} {G : Hp} : ∀ {kvs : List (κ × V)} {kds : List (μ × D)} (k : μ), kvs.map Prod.fst = kds.map (fun p => f p.1) → RepL K C G (kvs.map Prod.snd) (kds.map Prod.snd) →
    (getK kds k = none ∧ valV kvs (f k) = none) ∨ ∃ v d, getK kds k = some d ∧ valV kvs (f k) = some v ∧ Rep K C G v d
  | [], [], k, _, _ => .inl ⟨rfl, rfl⟩
  | [], _ :: _, k, h, _ => by cases h
  | _ :: _, [], k, h, _ => by cases h
  | (a, v) :: kvs, (b, d) :: kds, k, h, r => by
    have h1 : a = f b := (List.cons.inj h).1
    have h2 := (List.cons.inj h).2
    cases r with
    | cons r1 r2 =>
      by_cases e : b = k
      · have e2 : a = f k := by rw [h1, e]
        refine .inr ⟨v, d, ?_, ?_, r1⟩
        · unfold getK; rw [List.find?_cons_of_pos (by simpa using e)]; rfl
        · unfold valV; rw [List.find?_cons_of_pos (by simpa using e2)]; rfl
      · have e2 : ¬ a = f k := fun z => e (hf _ _ (h1.symm.trans z))
        have g1 : getK ((b, d) :: kds) k = getK kds k := by unfold getK; rw [List.find?_cons_of_neg (by simpa using e)]
        have g2 : valV ((a, v) :: kvs) (f k) = valV kvs (f k) := by unfold valV; rw [List.find?_cons_of_neg (by simpa using e2)]
        rw [g1, g2]
        exact getK_val f hf k h2 r2
theorem kk_inj (a b : List Int) (h : kk a = kk b) : a = b := by
  induction a generalizing b with
  | nil => cases b with
    | nil => rfl
    | cons _ _ => cases h
  | cons x xs ih =>
    cases b with
    | nil => cases h
    | cons y ys =>
      have h1 := (List.cons.inj h).1
      have h2 := (List.cons.inj h).2
      cases h1
      rw [ih ys h2]
theorem kk_tup {vs : List V} {k : List Int} (r : RepL Γ.K Γ.C G vs (k.map D.int)) : vs = (kk k).map kV := by
  rw [RepL.ints_eq k r, List.map_map]; rfl
def inD : D → D → Option D
  | .int i, .tup ds => (asInts ds).bind fun ns => some (.bl (ns.any fun j => j == i))
  | .tup k, .dct kds => (asInts k).bind fun ns => some (.bl (getK kds ns).isSome)
  | .int i, .dci kds => some (.bl (getK kds i).isSome)
  | .str x, .str y => if x.cps.size = 1 then some (.bl (decide (x.cps.getD 0 0 ∈ y.cps.toList))) else none
  | d, .lst ds => if okD 8 d && ds.all (okD 8) then some (.bl (ds.any fun z => eqN 8 z d)) else none
  | _, _ => none
abbrev rDIn : R2 := fun y x H Q => ∃ a o, x = .ref a ∧ DGet H a y o ∧ Q (.bl o.isSome) H
theorem or_din {X : Cx} (hu : X.A.units + 1 < cLine) : OpR X (compareOp .In) rDIn := by
  intro pins s σ H y x u v Q I ry rx h
  obtain ⟨a, o, rfl, g, q⟩ := h
  cases (show v = Value.ref a from rx)
  exact d_in hu I g ry fun s' I' => ⟨.bl _, H, I', rfl, q⟩
abbrev rInA (K : PySem.W.Frag) : R2 := fun x y H Q => (fun x y H Q => (fun x y H Q => rIn K false x y H Q ∨ rDIn x y H Q) x y H Q ∨
  (fun (x y : V) (H : Hp) (Q : VK) => ∃ (c : Nat) (z : Str), x = .str ⟨#[c]⟩ ∧ y = .str z ∧ Q (.bl (decide (c ∈ z.cps.toList))) H) x y H Q) x y H Q ∨ rInD K x y H Q
theorem all_flat : ∀ ns : List Int, (ns.map V.int).all flatV = true
  | [] => rfl
  | _ :: ns => all_flat ns
theorem inV_ints (i : Int) : ∀ ns : List Int, inV (.int i) (ns.map V.int) = ns.any fun j => j == i
  | [] => rfl
  | n :: ns => by
    have := inV_ints i ns
    unfold inV at this ⊢
    rw [List.map_cons, List.any_cons, List.any_cons, this]
    rfl
theorem py_list (s : SL G H) {x : V} {ds : List D} (hc : ds.all (okD 8) = true) (r : RepB Γ.K Γ.C G H x (.lst ds)) : Dp Γ.K H x (.list (ds.map (py 8))) ∧ SeqAt.shaped (.list (ds.map (py 8))) = true :=
  ⟨py_dpB (n := 9) s (d := .lst ds) hc r, py_shaped (n := 9) (d := .lst ds) (by omega) hc⟩
theorem any_py {ds : List D} (hd : okD 8 d = true) (hc : ds.all (okD 8) = true) : ((ds.map (py 8)).any fun z => PyData.eqv z (py 8 d)) = ds.any fun z => eqN 8 z d := by
  induction ds with
  | nil => rfl
  | cons x xs ih =>
    rw [List.all_cons, Bool.and_eq_true] at hc
    rw [List.map_cons, List.any_cons, List.any_cons, ih hc.2, py_eqv 8 x d hc.1 hd]
theorem str_one {x : Str} (h : x.cps.size = 1) : x = ⟨#[x.cps.getD 0 0]⟩ := by
  obtain ⟨c⟩ := x
  obtain ⟨l⟩ := c
  match l, h with
  | [a], _ => rfl
theorem o_in : Op2 Γ .e (rInA Γ.K) inD := by
  intro G H x y d e z s rx ry h Q q
  unfold inD at h
  split at h
  · rename_i i ds
    cases ei : asInts ds with
    | none => rw [ei] at h; cases h
    | some ns =>
      rw [ei] at h
      cases h
      obtain ⟨a, vs, rfl, h1, h2⟩ := ry.tup
      rw [asInts_eq ei] at h2
      have e2 := RepL.ints_eq ns h2
      subst e2
      refine .inl (.inl (.inl ⟨a, _, rfl, .inr (SqT.of (s.tup h1)), by rw [rx.int]; rfl, all_flat ns, ?_⟩))
      rw [rx.int]
      show Q (.bl (inV _ _)) H
      rw [inV_ints]
      exact q G H _ (Grow.refl s) (.bl _)
  · rename_i k kds
    cases ei : asInts k with
    | none => rw [ei] at h; cases h
    | some ns =>
      rw [ei] at h
      cases h
      obtain ⟨b, vs, rfl, h1, h2⟩ := rx.tup
      rw [asInts_eq ei] at h2
      have e2 := kk_tup h2
      subst e2
      obtain ⟨a, kvs, rfl, h3, h4, h5⟩ := ry.dct s
      refine .inl (.inl (.inr ⟨a, valV kvs (kk ns), rfl, .inr ⟨kvs, kk ns, b, h3, rfl, s.tup h1, rfl⟩, ?_⟩))
      rcases getK_val kk kk_inj ns h4 h5 with ⟨g1, g2⟩ | ⟨w, f, g1, g2, _⟩
      · rw [g2]; rw [g1] at q; exact q G H _ (Grow.refl s) (.bl _)
      · rw [g2]; rw [g1] at q; exact q G H _ (Grow.refl s) (.bl _)
  · rename_i i kds
    cases h
    obtain ⟨a, kvs, rfl, h3, h4, h5⟩ := ry.dci s
    rw [rx.int]
    refine .inl (.inl (.inr ⟨a, valV kvs (Sum.inl i), rfl, .inl ⟨kvs, Sum.inl i, h3, rfl, rfl⟩, ?_⟩))
    rcases getK_val (κ := Key) Sum.inl (fun _ _ z => Sum.inl.inj z) i h4 h5 with ⟨g1, g2⟩ | ⟨w, f, g1, g2, _⟩
    · rw [g2]; rw [g1] at q; exact q G H _ (Grow.refl s) (.bl _)
    · rw [g2]; rw [g1] at q; exact q G H _ (Grow.refl s) (.bl _)
  · split at h
    · rename_i a b hc
      cases h
      exact .inl (.inr ⟨_, b, rx.str.trans (congrArg V.str (str_one hc)), ry.str, q G H _ (Grow.refl s) (.bl _)⟩)
    · cases h
  · split at h
    · rename_i hc
      cases h
      rw [Bool.and_eq_true] at hc
      obtain ⟨h1, h2⟩ := py_list s hc.2 ry
      refine .inr ⟨py 8 d, _, py_dpB s hc.1 rx, h1, py_shaped (by omega) hc.1, h2, ?_⟩
      rw [any_py hc.1 hc.2]
      exact q G H _ (Grow.refl s) (.bl _)
    · cases h
  · cases h
theorem d_in {ea eb : Expr} {a b : Env → Option D} {pos : Pos} (ha : DV Γ N sc κ1 ea a) (hb : DV Γ N sc κ2 eb b) (hm : behindInMarks .In eb = false := by rfl) : DC Γ N sc (.Compare ea [.In] [eb] pos) (f2 inD a b) :=
  d_cmp (fun X g => g.K ▸ ((op_in_seq.or (or_din (hu_of g.room))).or op_in_sign).or (op_inD (by have := g.room.un; omega))) o_in ha hb hm
def ninD (d e : D) : Option D := match inD d e with
  | some (.bl b) => some (.bl (!b))
  | _ => none
abbrev rDNin : R2 := fun y x H Q => ∃ a o, x = .ref a ∧ DGet H a y o ∧ Q (.bl (!o.isSome)) H
theorem or_dnin {X : Cx} (hu : X.A.units + 1 < cLine) : OpR X (compareOp .NotIn) rDNin := by
  intro pins s σ H y x u v Q I ry rx h
  obtain ⟨a, o, rfl, g, q⟩ := h
  cases (show v = Value.ref a from rx)
  exact d_notIn hu I g ry fun s' I' => ⟨.bl _, H, I', rfl, q⟩
abbrev rNinA (K : PySem.W.Frag) : R2 := fun x y H Q => (fun x y H Q => (fun x y H Q => rIn K true x y H Q ∨ rDNin x y H Q) x y H Q ∨
  (fun (x y : V) (H : Hp) (Q : VK) => ∃ (c : Nat) (z : Str), x = .str ⟨#[c]⟩ ∧ y = .str z ∧ Q (.bl (!decide (c ∈ z.cps.toList))) H) x y H Q) x y H Q ∨ rNotInD K x y H Q
theorem o_nin : Op2 Γ .e (rNinA Γ.K) ninD := by
  intro G H x y d e z s rx ry h Q q
  unfold ninD at h
  split at h
  · rename_i b hb
    cases h
    unfold inD at hb
    split at hb
    · rename_i i ds
      cases ei : asInts ds with
      | none => rw [ei] at hb; cases hb
      | some ns =>
        rw [ei] at hb
        cases hb
        obtain ⟨a, vs, rfl, h1, h2⟩ := ry.tup
        rw [asInts_eq ei] at h2
        have e2 := RepL.ints_eq ns h2
        subst e2
        refine .inl (.inl (.inl ⟨a, _, rfl, .inr (SqT.of (s.tup h1)), by rw [rx.int]; rfl, all_flat ns, ?_⟩))
        rw [rx.int]
        show Q (.bl (!inV _ _)) H
        rw [inV_ints]
        exact q G H _ (Grow.refl s) (.bl _)
    · rename_i k kds
      cases ei : asInts k with
      | none => rw [ei] at hb; cases hb
      | some ns =>
        rw [ei] at hb
        cases hb
        obtain ⟨b, vs, rfl, h1, h2⟩ := rx.tup
        rw [asInts_eq ei] at h2
        have e2 := kk_tup h2
        subst e2
        obtain ⟨a, kvs, rfl, h3, h4, h5⟩ := ry.dct s
        refine .inl (.inl (.inr ⟨a, valV kvs (kk ns), rfl, .inr ⟨kvs, kk ns, b, h3, rfl, s.tup h1, rfl⟩, ?_⟩))
        rcases getK_val kk kk_inj ns h4 h5 with ⟨g1, g2⟩ | ⟨w, f, g1, g2, _⟩
        · rw [g2]; rw [g1] at q; exact q G H _ (Grow.refl s) (.bl _)
        · rw [g2]; rw [g1] at q; exact q G H _ (Grow.refl s) (.bl _)
    · rename_i i kds
      cases hb
      obtain ⟨a, kvs, rfl, h3, h4, h5⟩ := ry.dci s
      rw [rx.int]
      refine .inl (.inl (.inr ⟨a, valV kvs (Sum.inl i), rfl, .inl ⟨kvs, Sum.inl i, h3, rfl, rfl⟩, ?_⟩))
      rcases getK_val (κ := Key) Sum.inl (fun _ _ z => Sum.inl.inj z) i h4 h5 with ⟨g1, g2⟩ | ⟨w, f, g1, g2, _⟩
      · rw [g2]; rw [g1] at q; exact q G H _ (Grow.refl s) (.bl _)
      · rw [g2]; rw [g1] at q; exact q G H _ (Grow.refl s) (.bl _)
    · split at hb
      · rename_i a b hc
        cases hb
        exact .inl (.inr ⟨_, b, rx.str.trans (congrArg V.str (str_one hc)), ry.str, q G H _ (Grow.refl s) (.bl _)⟩)
      · cases hb
    · split at hb
      · rename_i hc
        cases hb
        rw [Bool.and_eq_true] at hc
        obtain ⟨h1, h2⟩ := py_list s hc.2 ry
        refine .inr ⟨py 8 d, _, py_dpB s hc.1 rx, h1, py_shaped (by omega) hc.1, h2, ?_⟩
        rw [any_py hc.1 hc.2]
        exact q G H _ (Grow.refl s) (.bl _)
      · cases hb
    · cases hb
  · cases h
theorem d_nin {ea eb : Expr} {a b : Env → Option D} {pos : Pos} (ha : DV Γ N sc κ1 ea a) (hb : DV Γ N sc κ2 eb b) (hm : behindInMarks .NotIn eb = false := by rfl) : DC Γ N sc (.Compare ea [.NotIn] [eb] pos) (f2 ninD a b) :=
  d_cmp (fun X g => g.K ▸ ((op_notIn_seq.or (or_dnin (hu_of g.room))).or op_notIn_sign).or (op_notInD (by have := g.room.un; omega))) o_nin ha hb hm
/-! ### chains -/
def fch (g g' : D → D → Option D) (a b c : Env → Option D) : Env → Option D := fun ρ => (a ρ).bind fun x => (b ρ).bind fun y => (g x y).bind fun z => match z with
  | .bl true => (c ρ).bind fun w => g' y w
  | .bl false => some (.bl false)
  | _ => none
theorem sem_chain {r r' : R2} {g g' : D → D → Option D} {ta tb tc : TE} {a b c : Env → Option D} (h : Op2 Γ .e r g) (h' : Op2 Γ .e r' g') (sa : SemV Γ κ1 ta a) (sb : SemV Γ κ2 tb b) (sc : SemV Γ κ3 tc c) : SemV Γ .e (tChain r r' ta tb tc) (fch g g' a b c) := fun H0 ρ σ G H Q z s E e q => by
  unfold fch at e
  cases ea : a ρ with
  | none => rw [ea] at e; cases e
  | some x =>
    rw [ea] at e
    cases eb : b ρ with
    | none => rw [eb] at e; cases e
    | some y =>
      rw [eb] at e
      cases eg : g x y with
      | none => simp only [Option.bind_some, eg] at e; cases e
      | some k =>
        simp only [Option.bind_some, eg] at e
        refine sa H0 ρ σ G H _ x s E ea fun G1 H1 v g1 o1 => ?_
        refine sb H0 ρ σ G1 H1 _ y g1.s (E.grow g1) eb fun G2 H2 w g2 o2 => ?_
        refine h G2 H2 v w x y k g2.s (o1.b.mono g2.g g2.h) o2.b eg _ fun G3 H3 u g3 o3 => ?_
        have g13 := (g1.trans g2).trans g3
        cases k with
        | bl k =>
          cases (show Rep Γ.K Γ.C G3 u (.bl k) from o3)
          cases k with
          | true =>
            refine ⟨true, rfl, ?_⟩
            rw [if_pos rfl]
            cases ec : c ρ with
            | none => rw [ec] at e; cases e
            | some w' =>
              rw [ec] at e
              refine sc H0 ρ σ G3 H3 _ w' g3.s (E.grow g13) ec fun G4 H4 w2 g4 o4 => ?_
              exact h' G4 H4 w w2 y w' z g4.s (o2.b.mono (g3.g.trans g4.g) (g3.h.trans g4.h)) o4.b e Q fun G5 H5 u5 g5 o5 => q G5 H5 u5 ((g13.trans g4).trans g5) o5
          | false =>
            cases e
            refine ⟨false, rfl, ?_⟩
            rw [if_neg Bool.false_ne_true]
            exact q G3 H3 _ g13 (.bl false)
        | _ => cases e
theorem d_chain {op op' : CmpOp} {r r' : R2} {g g' : D → D → Option D} {ea eb ec : Expr} {a b c : Env → Option D} {pos : Pos} (ho : ∀ X, Good Γ N sc X → OpR X (compareOp op) r) (ho' : ∀ X, Good Γ N sc X → OpR X (compareOp op') r') (h : Op2 Γ .e r g) (h' : Op2 Γ .e r' g')
    (ha : DV Γ N sc κ1 ea a) (hb : DV Γ N sc κ2 eb b) (hc : DV Γ N sc κ3 ec c) (hm : lastMarks [op, op'] [eb, ec] = false) : DC Γ N sc (.Compare ea [op, op'] [eb, ec] pos) (fch g g' a b c) := by
  obtain ⟨ta, pa, sa⟩ := ha.ex
  obtain ⟨tb, pb, sb⟩ := hb.ex
  obtain ⟨tc, pc, sc⟩ := hc.ex
  exact ⟨_, fun X gX => ⟨pe_chain (ho X gX) (ho' X gX) (pa X gX) (pb X gX) (pc X gX) hm, pt_chain (ho X gX) (ho' X gX) (pa X gX) (pb X gX) (pc X gX) hm⟩, sem_chain h h' sa sb sc⟩
theorem d_lele {ea eb ec : Expr} {a b c : Env → Option D} {pos : Pos} (ha : DV Γ N sc κ1 ea a) (hb : DV Γ N sc κ2 eb b) (hc : DV Γ N sc κ3 ec c) (hm : lastMarks [.LtE, .LtE] [eb, ec] = false := by with_unfolding_all rfl) : DC Γ N sc (.Compare ea [.LtE, .LtE] [eb, ec] pos) (fch leD leD a b c) :=
  d_chain (fun X g => op_le) (fun X g => op_le) o_le o_le ha hb hc hm
theorem d_lelt {ea eb ec : Expr} {a b c : Env → Option D} {pos : Pos} (ha : DV Γ N sc κ1 ea a) (hb : DV Γ N sc κ2 eb b) (hc : DV Γ N sc κ3 ec c) (hm : lastMarks [.LtE, .Lt] [eb, ec] = false := by with_unfolding_all rfl) : DC Γ N sc (.Compare ea [.LtE, .Lt] [eb, ec] pos) (fch leD ltD a b c) :=
  d_chain (fun X g => op_le) (fun X g => op_lt) o_le o_lt ha hb hc hm
theorem d_ltle {ea eb ec : Expr} {a b c : Env → Option D} {pos : Pos} (ha : DV Γ N sc κ1 ea a) (hb : DV Γ N sc κ2 eb b) (hc : DV Γ N sc κ3 ec c) (hm : lastMarks [.Lt, .LtE] [eb, ec] = false := by with_unfolding_all rfl) : DC Γ N sc (.Compare ea [.Lt, .LtE] [eb, ec] pos) (fch ltD leD a b c) :=
  d_chain (fun X g => op_lt) (fun X g => op_le) o_lt o_le ha hb hc hm
end
end Pv
set_option Elab.async false
set_option linter.all false
set_option maxRecDepth 100000
set_option maxHeartbeats 4000000
set_option autoImplicit false
namespace Pv
variable [TabT]
open PySem PySem.Spec PyProof.Rows L2
section
variable {Γ : Gam} {N : List Str} {sc : Scope} {κ κ1 κ2 κ3 : Kd} {G H G' H' G1 H1 : Hp} {v : V} {d : D}
/-! ### truth -/
def truD : D → Option Bool
  | .non => some false
  | .bl b => some b
  | .int i => some (i != 0)
  | .str s => if s.length < big then some ((s.length : Int) != 0) else none
  | .tup xs => some (!xs.isEmpty)
  | .lst xs => some (!xs.isEmpty)
  | .scr ns => some (!ns.isEmpty)
  | _ => none
theorem RepL.empty {K : PySem.W.Frag} {C : Addr} {G : Hp} {vs : List V} {ds : List D} (h : RepL K C G vs ds) : vs.isEmpty = ds.isEmpty := by cases h <;> rfl
theorem tru_of {k : Bool} (s : SL G H) (r : RepB Γ.K Γ.C G H v d) (h : truD d = some k) : TruV Γ.K v H k := by
  cases d with
  | non => cases h; rw [r.non]; rfl
  | bl b => cases h; rw [r.bl]; rfl
  | int i => cases h; rw [r.int]; rfl
  | str z =>
    have h : (if z.length < big then some ((z.length : Int) != 0) else none) = some k := h
    split at h
    · rename_i hl; cases h; rw [r.str]; exact ⟨Nat.le_of_lt (big_lt hl), rfl⟩
    · cases h
  | tup xs =>
    cases h
    obtain ⟨a, vs, rfl, h1, h2⟩ := r.tup
    exact .inr (.inl ⟨vs, SqT.of (s.tup h1), by rw [h2.empty]⟩)
  | lst xs =>
    cases h
    obtain ⟨a, vs, rfl, h1, h2⟩ := r.lst s
    exact .inl ⟨vs, SqL.of h1, by rw [h2.empty]⟩
  | scr ns =>
    cases h
    obtain ⟨a, rfl, h1⟩ := r.scr s
    exact .inl ⟨_, h1, by cases ns <;> rfl⟩
  | _ => cases h
def tv (a : Env → Option D) : Env → Option Bool := fun ρ => (a ρ).bind truD
def tand (a b : Env → Option Bool) : Env → Option Bool := fun ρ => (a ρ).bind fun c => if c then b ρ else some false
def tor (a b : Env → Option Bool) : Env → Option Bool := fun ρ => (a ρ).bind fun c => if c then some true else b ρ
def tnot (a : Env → Option Bool) : Env → Option Bool := fun ρ => (a ρ).bind fun c => some (!c)
def tb (a : Env → Option D) : Env → Option Bool := fun ρ => (a ρ).bind fun x => match x with
  | .bl c => some c
  | _ => none
def vand (a b : Env → Option D) : Env → Option D := fun ρ => (a ρ).bind fun x => (truD x).bind fun c => if c then b ρ else some x
def vor (a b : Env → Option D) : Env → Option D := fun ρ => (a ρ).bind fun x => (truD x).bind fun c => if c then some x else b ρ
def notD (d : D) : Option D := (truD d).bind fun c => some (.bl (!c))
theorem t_v {e : Expr} {a : Env → Option D} (ha : DV Γ N sc κ e a) (he : ∀ (env : PySem.Env) (whole : Sem Value), isTrue e env whole = (do let v ← whole; standAt e.pos; holding [v] (truthy v)) := by intro _ _; rfl) : DT Γ N sc e (tv a) := by
  obtain ⟨t, p, s1⟩ := ha.ex
  refine ⟨_, fun X g => g.K ▸ pt_truth (p X g) (he _), fun H0 ρ σ G H Q c s E e q => ?_⟩
  unfold tv at e
  cases ea : a ρ with
  | none => rw [ea] at e; cases e
  | some x =>
    rw [ea] at e
    exact s1 H0 ρ σ G H _ x s E ea fun G1 H1 v g1 o1 => ⟨c, tru_of g1.s o1.b e, q G1 H1 g1⟩
theorem t_c {e : Expr} {a : Env → Option D} (ha : DC Γ N sc e a) : DT Γ N sc e (tb a) := by
  obtain ⟨t, p, s1⟩ := ha.ex
  refine ⟨_, fun X g => (p X g).2, fun H0 ρ σ G H Q c s E e q => ?_⟩
  unfold tb at e
  cases ea : a ρ with
  | none => rw [ea] at e; cases e
  | some x =>
    rw [ea] at e
    cases x with
    | bl b =>
      cases e
      refine s1 H0 ρ σ G H _ _ s E ea fun G1 H1 v g1 o1 => ?_
      cases (show Rep Γ.K Γ.C G1 v (.bl _) from o1)
      exact ⟨_, rfl, q G1 H1 g1⟩
    | _ => cases e
theorem t_not {e : Expr} {a : Env → Option Bool} {pos : Pos} (ha : DT Γ N sc e a) : DT Γ N sc (.UnaryOp .Not e pos) (tnot a) := by
  obtain ⟨t, p, s1⟩ := ha.ex
  refine ⟨_, fun X g => pt_not (p X g), fun H0 ρ σ G H Q c s E e q => ?_⟩
  unfold tnot at e
  cases ea : a ρ with
  | none => rw [ea] at e; cases e
  | some x => rw [ea] at e; cases e; exact s1 H0 ρ σ G H _ x s E ea fun G1 H1 g1 => q G1 H1 g1
theorem w_and1 {e : Expr} {a : Env → Option Bool} {pos : Pos} (ha : DT Γ N sc e a) : DW Γ N sc (.BoolOp .And [e] pos) a := let ⟨t, p, s⟩ := ha.ex; ⟨t, fun X g => pw_and1 (p X g), s⟩
theorem w_or1 {e : Expr} {a : Env → Option Bool} {pos : Pos} (ha : DT Γ N sc e a) : DW Γ N sc (.BoolOp .Or [e] pos) a := let ⟨t, p, s⟩ := ha.ex; ⟨t, fun X g => pw_or1 (p X g), s⟩
theorem w_and {e e2 : Expr} {rest : List Expr} {a b : Env → Option Bool} {pos : Pos} (ha : DT Γ N sc e a) (hb : DW Γ N sc (.BoolOp .And (e2 :: rest) pos) b) : DW Γ N sc (.BoolOp .And (e :: e2 :: rest) pos) (tand a b) := by
  obtain ⟨t, p, s1⟩ := ha.ex
  obtain ⟨t2, p2, s2⟩ := hb.ex
  refine ⟨_, fun X g => pw_and (p X g) (p2 X g), fun H0 ρ σ G H Q c s E e q => ?_⟩
  unfold tand at e
  cases ea : a ρ with
  | none => rw [ea] at e; cases e
  | some x =>
    rw [ea] at e
    refine s1 H0 ρ σ G H _ x s E ea fun G1 H1 g1 => ?_
    cases x with
    | true => rw [if_pos rfl]; exact s2 H0 ρ σ G1 H1 Q c g1.s (E.grow g1) e fun G2 H2 g2 => q G2 H2 (g1.trans g2)
    | false => rw [if_neg Bool.false_ne_true]; cases e; exact q G1 H1 g1
theorem w_or {e e2 : Expr} {rest : List Expr} {a b : Env → Option Bool} {pos : Pos} (ha : DT Γ N sc e a) (hb : DW Γ N sc (.BoolOp .Or (e2 :: rest) pos) b) : DW Γ N sc (.BoolOp .Or (e :: e2 :: rest) pos) (tor a b) := by
  obtain ⟨t, p, s1⟩ := ha.ex
  obtain ⟨t2, p2, s2⟩ := hb.ex
  refine ⟨_, fun X g => pw_or (p X g) (p2 X g), fun H0 ρ σ G H Q c s E e q => ?_⟩
  unfold tor at e
  cases ea : a ρ with
  | none => rw [ea] at e; cases e
  | some x =>
    rw [ea] at e
    refine s1 H0 ρ σ G H _ x s E ea fun G1 H1 g1 => ?_
    cases x with
    | false => rw [if_neg Bool.false_ne_true]; exact s2 H0 ρ σ G1 H1 Q c g1.s (E.grow g1) e fun G2 H2 g2 => q G2 H2 (g1.trans g2)
    | true => rw [if_pos rfl]; cases e; exact q G1 H1 g1
/-! ### and, or, not as values -/
theorem d_one {e : Expr} {op} {a : Env → Option D} {pos : Pos} (ha : DV Γ N sc κ e a) : DV Γ N sc κ (.BoolOp op [e] pos) a := let ⟨t, p, s⟩ := ha.ex; ⟨t, fun X g => pe_one (p X g), s⟩
theorem d_and {e e2 : Expr} {rest : List Expr} {a b : Env → Option D} {pos : Pos} (ha : DV Γ N sc .e e a) (hb : DV Γ N sc .e (.BoolOp .And (e2 :: rest) pos) b) : DV Γ N sc .e (.BoolOp .And (e :: e2 :: rest) pos) (vand a b) := by
  obtain ⟨t, p, s1⟩ := ha.ex
  obtain ⟨t2, p2, s2⟩ := hb.ex
  refine ⟨_, fun X g => g.K ▸ pe_andT (p X g) (p2 X g), fun H0 ρ σ G H Q z s E e q => ?_⟩
  unfold vand at e
  cases ea : a ρ with
  | none => rw [ea] at e; cases e
  | some x =>
    rw [ea] at e
    cases et : truD x with
    | none => simp only [Option.bind_some, et] at e; cases e
    | some k =>
      simp only [Option.bind_some, et] at e
      refine s1 H0 ρ σ G H _ x s E ea fun G1 H1 v g1 o1 => ⟨k, tru_of g1.s o1.b et, ?_⟩
      cases k with
      | true => rw [if_pos rfl]; exact s2 H0 ρ σ G1 H1 Q z g1.s (E.grow g1) e fun G2 H2 w g2 o2 => q G2 H2 w (g1.trans g2) o2
      | false => rw [if_neg Bool.false_ne_true]; cases e; exact q G1 H1 v g1 o1
theorem d_or {e e2 : Expr} {rest : List Expr} {a b : Env → Option D} {pos : Pos} (ha : DV Γ N sc .e e a) (hb : DV Γ N sc .e (.BoolOp .Or (e2 :: rest) pos) b) : DV Γ N sc .e (.BoolOp .Or (e :: e2 :: rest) pos) (vor a b) := by
  obtain ⟨t, p, s1⟩ := ha.ex
  obtain ⟨t2, p2, s2⟩ := hb.ex
  refine ⟨_, fun X g => g.K ▸ pe_orT (p X g) (p2 X g), fun H0 ρ σ G H Q z s E e q => ?_⟩
  unfold vor at e
  cases ea : a ρ with
  | none => rw [ea] at e; cases e
  | some x =>
    rw [ea] at e
    cases et : truD x with
    | none => simp only [Option.bind_some, et] at e; cases e
    | some k =>
      simp only [Option.bind_some, et] at e
      refine s1 H0 ρ σ G H _ x s E ea fun G1 H1 v g1 o1 => ⟨k, tru_of g1.s o1.b et, ?_⟩
      cases k with
      | false => rw [if_neg Bool.false_ne_true]; exact s2 H0 ρ σ G1 H1 Q z g1.s (E.grow g1) e fun G2 H2 w g2 o2 => q G2 H2 w (g1.trans g2) o2
      | true => rw [if_pos rfl]; cases e; exact q G1 H1 v g1 o1
theorem d_notv {e : Expr} {a : Env → Option D} {pos : Pos} (ha : DV Γ N sc κ e a) : DV Γ N sc .e (.UnaryOp .Not e pos) (f1 notD a) := by
  obtain ⟨t, p, s1⟩ := ha.ex
  refine ⟨_, fun X g => g.K ▸ pe_notT (p X g), fun H0 ρ σ G H Q z s E e q => ?_⟩
  unfold f1 at e
  cases ea : a ρ with
  | none => rw [ea] at e; cases e
  | some x =>
    rw [ea] at e
    have e : notD x = some z := e
    unfold notD at e
    cases et : truD x with
    | none => rw [et] at e; cases e
    | some k =>
      rw [et] at e
      cases e
      exact s1 H0 ρ σ G H _ x s E ea fun G1 H1 v g1 o1 => ⟨k, tru_of g1.s o1.b et, q G1 H1 _ g1 (.bl _)⟩
def negD : D → Option D
  | .int i => some (.int (-i))
  | _ => none
theorem d_neg {e : Expr} {a : Env → Option D} {pos : Pos} (ha : DV Γ N sc κ e a) : DV Γ N sc .e (.UnaryOp .USub e pos) (f1 negD a) := by
  obtain ⟨t, p, s1⟩ := ha.ex
  refine ⟨_, fun X g => pe_un un_neg (p X g), fun H0 ρ σ G H Q z s E e q => ?_⟩
  unfold f1 at e
  cases ea : a ρ with
  | none => rw [ea] at e; cases e
  | some x =>
    rw [ea] at e
    cases x <;> cases e
    exact s1 H0 ρ σ G H _ _ s E ea fun G1 H1 v g1 o1 => ⟨_, o1.b.int, q G1 H1 _ g1 (.int _)⟩
/-! ### subscripts -/
def ixD : D → D → Option D
  | .lst ds, .int i => atI ds i
  | .tup ds, .int i => atI ds i
  | .scr ns, .int i => (atI ns i).map D.int
  | .str z, .int i => if z.length < big then (atI z.cps.toList i).map fun c => .str ⟨#[c]⟩ else none
  | .dct kds, .tup k => (asInts k).bind fun ns => getK kds ns
  | .dci kds, .int i => getK kds i
  | _, _ => none
theorem atI_rep {K : PySem.W.Frag} {C : Addr} {G : Hp} {vs : List V} {ds : List D} {i : Int} {z : D} (r : RepL K C G vs ds) (h : atI ds i = some z) : ∃ v, atI vs i = some v ∧ Rep K C G v z := by
  unfold atI at h ⊢
  rw [r.length]
  cases e : ixN ds.length i with
  | none => rw [e] at h; cases h
  | some j =>
    rw [e] at h
    exact r.get h
theorem atI_map {α β : Type} (f : α → β) (xs : List α) (i : Int) : atI (xs.map f) i = (atI xs i).map f := by
  unfold atI
  rw [List.length_map]
  cases ixN xs.length i with
  | none => rfl
  | some j => simp
abbrev rDGt : R2 := fun x y H Q => ∃ a v, x = .ref a ∧ DGet H a y (some v) ∧ Q v H
theorem ix_dict {X : Cx} (hu : X.A.units + 1 < cLine) : IxR X rDGt := by
  intro value slice pins s σ H x y v u Q I rx ry h hs
  obtain ⟨a, w, rfl, g, q⟩ := h
  cases (show v = Value.ref a from rx)
  refine tail_any (dict_typeIs I g) PySem.F.slot_dict_getitem.lookup ?_ hs
  exact d_getItem hu I g ry fun w' s' I' r' => ⟨w, H, I', r', q⟩
abbrev rIxA (K : PySem.W.Frag) : R2 := fun x y H Q => rIx K x y H Q ∨ rDGt x y H Q
theorem o_ix : Op2 Γ .e (rIxA Γ.K) ixD := by
  intro G H x y d e z s rx ry h Q q
  unfold ixD at h
  split at h
  · rename_i ds i
    obtain ⟨a, vs, rfl, h1, h2⟩ := rx.lst s
    obtain ⟨v, h3, h4⟩ := atI_rep h2 h
    exact .inl (.inl ⟨a, vs, i, v, rfl, ry.int, SqL.of h1, h3, q G H v (Grow.refl s) h4⟩)
  · rename_i ds i
    obtain ⟨a, vs, rfl, h1, h2⟩ := rx.tup
    obtain ⟨v, h3, h4⟩ := atI_rep h2 h
    exact .inl (.inr (.inl ⟨a, vs, i, v, rfl, ry.int, SqT.of (s.tup h1), h3, q G H v (Grow.refl s) h4⟩))
  · rename_i ns i
    obtain ⟨a, rfl, h1⟩ := rx.scr s
    cases e : atI ns i with
    | none => rw [e] at h; cases h
    | some n =>
      rw [e] at h
      cases h
      exact .inl (.inl ⟨a, _, i, .int n, rfl, ry.int, h1, by rw [atI_map, e]; rfl, q G H _ (Grow.refl s) (.int n)⟩)
  · rename_i w i
    split at h
    · rename_i hl
      cases e : atI w.cps.toList i with
      | none => rw [e] at h; cases h
      | some n =>
        rw [e] at h
        cases h
        exact .inl (.inr (.inr ⟨w, i, n, rx.str, ry.int, Nat.le_of_lt (big_lt hl), e, q G H _ (Grow.refl s) (.str _)⟩))
    · cases h
  · rename_i kds k
    cases ei : asInts k with
    | none => rw [ei] at h; cases h
    | some ns =>
      rw [ei] at h
      have h : getK kds ns = some z := h
      obtain ⟨b, vs, rfl, h1, h2⟩ := ry.tup
      rw [asInts_eq ei] at h2
      have e2 := kk_tup h2
      subst e2
      obtain ⟨a, kvs, rfl, h3, h4, h5⟩ := rx.dct s
      rcases getK_val kk kk_inj ns h4 h5 with ⟨g1, g2⟩ | ⟨w, f, g1, g2, g3⟩
      · rw [g1] at h; cases h
      · rw [g1] at h
        cases h
        exact .inr ⟨a, w, rfl, .inr ⟨kvs, kk ns, b, h3, rfl, s.tup h1, g2.symm⟩, q G H w (Grow.refl s) (g3.mono (SL.refl _))⟩
  · rename_i kds i
    obtain ⟨a, kvs, rfl, h3, h4, h5⟩ := rx.dci s
    rcases getK_val (κ := Key) Sum.inl (fun _ _ z => Sum.inl.inj z) i h4 h5 with ⟨g1, g2⟩ | ⟨w, f, g1, g2, g3⟩
    · rw [g1] at h; cases h
    · rw [g1] at h
      cases h
      refine .inr ⟨a, w, rfl, .inl ⟨kvs, Sum.inl i, h3, ?_, g2.symm⟩, q G H w (Grow.refl s) g3⟩
      rw [ry.int]; rfl
  · cases h
theorem d_ix {ea eb : Expr} {a b : Env → Option D} {pos : Pos} (ha : DV Γ N sc κ1 ea a) (hb : DV Γ N sc κ2 eb b) (hs : PlainIx eb := by exact fun _ _ => rfl) : DV Γ N sc .e (.Subscript ea eb pos) (f2 ixD a b) := by
  obtain ⟨ta, pa, sa⟩ := ha.ex
  obtain ⟨tb, pb, sb⟩ := hb.ex
  exact ⟨_, fun X gX => gX.K ▸ pe_ix (ix_seq.or (ix_dict (hu_of gX.room))) (pa X gX) (pb X gX) hs, sem_op o_ix sa sb⟩
/-! ### slices -/
def cutL {α : Type} (xs : List α) (lo hi : Option Int) : List α := (xs.drop (HT.sIx xs.length 0 lo)).take (HT.sIx xs.length xs.length hi - HT.sIx xs.length 0 lo)
theorem cutL_rep {K : PySem.W.Frag} {C : Addr} {G : Hp} {vs : List V} {ds : List D} {lo hi : Option Int} (r : RepL K C G vs ds) : RepL K C G (cutV vs lo hi) (cutL ds lo hi) := by
  unfold cutV cutL
  rw [r.length]
  exact (r.drop _).take _
theorem cutL_map {α β : Type} (f : α → β) (xs : List α) (lo hi : Option Int) : cutL (xs.map f) lo hi = (cutL xs lo hi).map f := by
  unfold cutL
  rw [List.length_map, List.map_take, List.map_drop]
def SemO (Γ : Gam) (t : TO) (F : Env → Option (Option Int)) : Prop := ∀ (H0 : Hp) (ρ : Env) (σ : L2.St) (G H : Hp) (Q : Option Int → Hp → Prop) (o : Option Int), SL G H → EnvOk Γ H0 G H ρ σ → F ρ = some o →
  (∀ (G' H' : Hp), Grow G H G' H' → Q o H') → t σ H Q
structure DO (Γ : Gam) (N : List Str) (sc : Scope) (e : Option Expr) (F : Env → Option (Option Int)) : Prop where
  ex : ∃ t, (∀ X, Good Γ N sc X → PO X e t) ∧ SemO Γ t F
def onone : Env → Option (Option Int) := fun _ => some none
def osome (a : Env → Option D) : Env → Option (Option Int) := fun ρ => (a ρ).bind fun x => match x with
  | .int i => some (some i)
  | _ => none
theorem o_none : DO Γ N sc none onone := ⟨tNoPart, fun X _ => po_none, fun H0 ρ σ G H Q o s E e q => by cases e; exact q G H (Grow.refl s)⟩
theorem o_some {e : Expr} {a : Env → Option D} (ha : DV Γ N sc κ e a) : DO Γ N sc (some e) (osome a) := by
  obtain ⟨t, p, s1⟩ := ha.ex
  refine ⟨_, fun X g => po_some (p X g), fun H0 ρ σ G H Q o s E e q => ?_⟩
  unfold osome at e
  cases ea : a ρ with
  | none => rw [ea] at e; cases e
  | some x =>
    rw [ea] at e
    cases x <;> cases e
    exact s1 H0 ρ σ G H _ _ s E ea fun G1 H1 v g1 o1 => ⟨_, o1.b.int, q G1 H1 g1⟩
def slD : D → Option Int → Option Int → Option D
  | .lst ds, lo, hi => some (.lst (cutL ds lo hi))
  | .scr ns, lo, hi => some (.lst ((cutL ns lo hi).map D.int))
  | .tup ds, lo, hi => some (.tup (cutL ds lo hi))
  | .str z, lo, hi => if z.length < big then some (.str (cutS z lo hi)) else none
  | _, _, _ => none
abbrev rSlAll (K : PySem.W.Frag) : V → Option Int → Option Int → Hp → VK → Prop := fun x lo hi H Q => (fun x lo hi H Q => rSlL K x lo hi H Q ∨ rSlA K x lo hi H Q) x lo hi H Q ∨ rSlS x lo hi H Q
theorem sl_ok {x : V} {z : D} {lo hi : Option Int} (s : SL G H) (rx : RepB Γ.K Γ.C G H x d) (h : slD d lo hi = some z) (Q : VK) (q : ∀ (G' H' : Hp) (u : V), Grow G H G' H' → Rep Γ.K Γ.C G' u z → Q u H') : rSlAll Γ.K x lo hi H Q := by
  cases d with
  | lst ds =>
    cases h
    obtain ⟨a, vs, rfl, h1, h2⟩ := rx.lst s
    refine .inl (.inl ⟨a, vs, rfl, SqL.of h1, fun p hp => ?_⟩)
    exact q _ _ _ (Grow.new s hp) (.lst upd_same ((cutL_rep h2).mono (SL.new (s.free hp))))
  | scr ns =>
    cases h
    obtain ⟨a, rfl, h1⟩ := rx.scr s
    refine .inl (.inl ⟨a, _, rfl, h1, fun p hp => ?_⟩)
    refine q _ _ _ (Grow.new s hp) (.lst upd_same ?_)
    rw [show cutV (ns.map V.int) lo hi = (cutL ns lo hi).map V.int from cutL_map V.int ns lo hi]
    exact RepL.ints _
  | tup ds =>
    cases h
    obtain ⟨a, vs, rfl, h1, h2⟩ := rx.tup
    refine .inl (.inr ⟨a, vs, rfl, SqT.of (s.tup h1), fun hw => ?_, fun _ p hp => ?_⟩)
    · have e : cutL ds lo hi = ds := by
        unfold cutL
        rw [← h2.length, hw.1, hw.2, List.drop_zero, Nat.sub_zero, h2.length, List.take_length]
      rw [e] at q
      exact q G H _ (Grow.refl s) (.tup h1 h2)
    · exact q _ _ _ (Grow.new s hp) (.tup upd_same ((cutL_rep h2).mono (SL.new (s.free hp))))
  | str w =>
    have h : (if w.length < big then some (D.str (cutS w lo hi)) else none) = some z := h
    split at h
    · rename_i hl
      cases h
      exact .inr ⟨w, rx.str, Nat.le_of_lt (big_lt hl), q G H _ (Grow.refl s) (.str _)⟩
    · cases h
  | _ => cases h
def fsl (a : Env → Option D) (l h : Env → Option (Option Int)) : Env → Option D := fun ρ => (a ρ).bind fun x => (l ρ).bind fun lo => (h ρ).bind fun hi => slD x lo hi
theorem d_sl {e : Expr} {lo hi : Option Expr} {a : Env → Option D} {l h : Env → Option (Option Int)} {p2 pos : Pos} (ha : DV Γ N sc κ e a) (hl : DO Γ N sc lo l) (hh : DO Γ N sc hi h) : DV Γ N sc .e (.Subscript e (.Slice lo hi none p2) pos) (fsl a l h) := by
  obtain ⟨t, p, s1⟩ := ha.ex
  obtain ⟨tl, pl, s2⟩ := hl.ex
  obtain ⟨th, ph, s3⟩ := hh.ex
  refine ⟨_, fun X g => g.K ▸ pe_slice ((sl_list.or sl_tupA).or sl_str) (p X g) (pl X g) (ph X g), fun H0 ρ σ G H Q z s E e q => ?_⟩
  unfold fsl at e
  cases ea : a ρ with
  | none => rw [ea] at e; cases e
  | some x =>
    cases el : l ρ with
    | none => simp only [ea, el, Option.bind_some] at e; cases e
    | some l' =>
      cases eh : h ρ with
      | none => simp only [ea, el, eh, Option.bind_some] at e; cases e
      | some h' =>
        simp only [ea, el, eh, Option.bind_some] at e
        refine s1 H0 ρ σ G H _ x s E ea fun G1 H1 v g1 o1 => ?_
        refine s2 H0 ρ σ G1 H1 _ l' g1.s (E.grow g1) el fun G2 H2 g2 => ?_
        refine s3 H0 ρ σ G2 H2 _ h' g2.s (E.grow (g1.trans g2)) eh fun G3 H3 g3 => ?_
        exact sl_ok g3.s (o1.b.mono (g2.g.trans g3.g) (g2.h.trans g3.h)) e Q fun G4 H4 u g4 o4 => q G4 H4 u (((g1.trans g2).trans g3).trans g4) o4
end
end Pv
set_option Elab.async false
set_option linter.all false
set_option maxRecDepth 100000
set_option maxHeartbeats 4000000
set_option autoImplicit false
namespace Pv
variable [TabT]
open PySem PySem.Spec PyProof.Rows L2
section
variable {Γ : Gam} {N : List Str} {sc : Scope} {κ κ1 κ2 κ3 : Kd} {G H G' H' G1 H1 : Hp} {v : V} {d : D}
/-! ### built-in functions -/
abbrev RC := List V → Hp → VK → Prop
def Op1 (Γ : Gam) (κ : Kd) (r : RC) (g : D → Option D) : Prop := ∀ (G H : Hp) (x : V) (d z : D), SL G H → RepB Γ.K Γ.C G H x d → g d = some z →
  ∀ Q : VK, (∀ (G' H' : Hp) (u : V), Grow G H G' H' → Out Γ κ G H G' H' u z → Q u H') → r [x] H Q
def Op1b (Γ : Gam) (κ : Kd) (r : RC) (g : D → D → Option D) : Prop := ∀ (G H : Hp) (x y : V) (d e z : D), SL G H → RepB Γ.K Γ.C G H x d → RepB Γ.K Γ.C G H y e → g d e = some z →
  ∀ Q : VK, (∀ (G' H' : Hp) (u : V), Grow G H G' H' → Out Γ κ G H G' H' u z → Q u H') → r [x, y] H Q
theorem sem_c1 {r : RC} {g : D → Option D} {ta : TE} {a : Env → Option D} (h : Op1 Γ κ r g) (sa : SemV Γ κ1 ta a) : SemV Γ κ (tCB r (tCons ta tNil)) (f1 g a) := fun H0 ρ σ G H Q z s E e q => by
  unfold f1 at e
  cases ea : a ρ with
  | none => rw [ea] at e; cases e
  | some x =>
    rw [ea] at e
    refine sa H0 ρ σ G H _ x s E ea fun G1 H1 v g1 o1 => ?_
    exact h G1 H1 v x z g1.s o1.b e Q fun G3 H3 u g3 o3 => q G3 H3 u (g1.trans g3) (o3.pre g1)
theorem sem_c2 {r : RC} {g : D → D → Option D} {ta tb : TE} {a b : Env → Option D} (h : Op1b Γ κ r g) (sa : SemV Γ κ1 ta a) (sb : SemV Γ κ2 tb b) : SemV Γ κ (tCB r (tCons ta (tCons tb tNil))) (f2 g a b) := fun H0 ρ σ G H Q z s E e q => by
  unfold f2 at e
  cases ea : a ρ with
  | none => rw [ea] at e; cases e
  | some x =>
    rw [ea] at e
    cases eb : b ρ with
    | none => rw [eb] at e; cases e
    | some y =>
      rw [eb] at e
      refine sa H0 ρ σ G H _ x s E ea fun G1 H1 v g1 o1 => ?_
      refine sb H0 ρ σ G1 H1 _ y g1.s (E.grow g1) eb fun G2 H2 w g2 o2 => ?_
      exact h G2 H2 v w x y z g2.s (o1.b.mono g2.g g2.h) o2.b e Q fun G3 H3 u g3 o3 => q G3 H3 u ((g1.trans g2).trans g3) (o3.pre (g1.trans g2))
/-- an argument list that begins with a plain expression -/
abbrev Pl1 (e : Expr) (es : List Expr) : Prop := ∀ env : PySem.Env, starEach (e :: es) env = (false, eval e env) :: starEach es env
theorem d_b1 {x : Str} {id : String} {r : RC} {g : D → Option D} {ea : Expr} {a : Env → Option D} {p pos : Pos} (hc : ∀ X, Good Γ N sc X → CallR X (.builtin id) r) (hv : bootBuiltins x = some (.builtin id)) (hn : x ≠ "__name__") (hdb : (x == ("__debug__" : Str)) = false)
    (h : Op1 Γ κ r g) (hg : glB sc x = true) (hm : Γ.mg x = none) (ha : DV Γ N sc κ1 ea a) (hs : Pl1 ea []) : DV Γ N sc κ (.Call (.Name x p) [ea] [] pos) (f1 g a) := by
  obtain ⟨ta, pa, sa⟩ := ha.ex
  exact ⟨_, fun X gX => pe_callB (hc X gX) (gl_of gX hg) (by rw [gX.mg]; exact hm) hv (pa_cons (pa X gX) pa_nil (hs _)) hn hdb (hs _) rfl, sem_c1 h sa⟩
theorem d_t1 {x : Str} {id : String} {r : RC} {g : D → Option D} {ea : Expr} {a : Env → Option D} {p pos : Pos} (hc : ∀ X, Good Γ N sc X → CallR X (.type id) r) (hv : bootBuiltins x = some (.type id)) (hn : x ≠ "__name__") (hdb : (x == ("__debug__" : Str)) = false)
    (h : Op1 Γ κ r g) (hg : glB sc x = true) (hm : Γ.mg x = none) (ha : DV Γ N sc κ1 ea a) (hs : Pl1 ea []) : DV Γ N sc κ (.Call (.Name x p) [ea] [] pos) (f1 g a) := by
  obtain ⟨ta, pa, sa⟩ := ha.ex
  exact ⟨_, fun X gX => pe_callTy (hc X gX) (gl_of gX hg) (by rw [gX.mg]; exact hm) hv (pa_cons (pa X gX) pa_nil (hs _)) hn hdb (hs _) rfl, sem_c1 h sa⟩
theorem d_b2 {x : Str} {id : String} {r : RC} {g : D → D → Option D} {ea eb : Expr} {a b : Env → Option D} {p pos : Pos} (hc : ∀ X, Good Γ N sc X → CallR X (.builtin id) r) (hv : bootBuiltins x = some (.builtin id)) (hn : x ≠ "__name__") (hdb : (x == ("__debug__" : Str)) = false)
    (h : Op1b Γ κ r g) (hg : glB sc x = true) (hm : Γ.mg x = none) (ha : DV Γ N sc κ1 ea a) (hb : DV Γ N sc κ2 eb b) (hs : Pl1 ea [eb]) (hs2 : Pl1 eb []) : DV Γ N sc κ (.Call (.Name x p) [ea, eb] [] pos) (f2 g a b) := by
  obtain ⟨ta, pa, sa⟩ := ha.ex
  obtain ⟨tb, pb, sb⟩ := hb.ex
  refine ⟨_, fun X gX => pe_callB (hc X gX) (gl_of gX hg) (by rw [gX.mg]; exact hm) hv (pa_cons (pa X gX) (pa_cons (pb X gX) pa_nil (hs2 _)) (hs _)) hn hdb (hs _) ?_, sem_c2 h sa sb⟩
  rw [hs2]; rfl
def lenD : D → Option D
  | .str z => if z.length < big then some (.int z.length) else none
  | .tup xs => some (.int xs.length)
  | .lst xs => some (.int xs.length)
  | .scr ns => some (.int ns.length)
  | _ => none
theorem o_len : Op1 Γ .e (fun xs H Q => ∃ x n, xs = [x] ∧ LenV Γ.K x H n ∧ Q (.int n) H) lenD := by
  intro G H x d z s rx h Q q
  cases d with
  | str w =>
    have h : (if w.length < big then some (D.int w.length) else none) = some z := h
    split at h
    · rename_i hl
      cases h
      exact ⟨x, w.length, rfl, by rw [rx.str]; exact ⟨Nat.le_of_lt (big_lt hl), rfl⟩, q G H _ (Grow.refl s) (.int _)⟩
    · cases h
  | tup ds =>
    cases h
    obtain ⟨a, vs, rfl, h1, h2⟩ := rx.tup
    exact ⟨_, ds.length, rfl, .inr ⟨vs, SqT.of (s.tup h1), h2.length.symm⟩, q G H _ (Grow.refl s) (.int _)⟩
  | lst ds =>
    cases h
    obtain ⟨a, vs, rfl, h1, h2⟩ := rx.lst s
    exact ⟨_, ds.length, rfl, .inl ⟨vs, SqL.of h1, h2.length.symm⟩, q G H _ (Grow.refl s) (.int _)⟩
  | scr ns =>
    cases h
    obtain ⟨a, rfl, h1⟩ := rx.scr s
    exact ⟨_, ns.length, rfl, .inl ⟨_, h1, by rw [List.length_map]⟩, q G H _ (Grow.refl s) (.int _)⟩
  | _ => cases h
theorem d_len {ea : Expr} {a : Env → Option D} {p pos : Pos} (hg : glB sc "len" = true) (hm : Γ.mg "len" = none) (ha : DV Γ N sc κ1 ea a) (hs : Pl1 ea [] := by exact fun _ => rfl) : DV Γ N sc .e (.Call (.Name "len" p) [ea] [] pos) (f1 lenD a) :=
  d_b1 (fun X g => g.K ▸ call_len) PySem.boot_len (by decide) (by decide) o_len hg hm ha hs
def absD : D → Option D
  | .int i => some (.int (if i < 0 then -i else i))
  | _ => none
theorem d_abs {ea : Expr} {a : Env → Option D} {p pos : Pos} (hg : glB sc "abs" = true) (hm : Γ.mg "abs" = none) (ha : DV Γ N sc κ1 ea a) (hs : Pl1 ea [] := by exact fun _ => rfl) : DV Γ N sc .e (.Call (.Name "abs" p) [ea] [] pos) (f1 absD a) :=
  d_b1 (fun X g => call_abs) (by decide +kernel) (by decide) (by decide) (fun G H x d z s rx h Q q => by
    cases d <;> cases h
    exact ⟨_, by rw [rx.int], q G H _ (Grow.refl s) (.int _)⟩) hg hm ha hs
def max2D : D → D → Option D
  | .int i, .int j => some (.int (if j > i then j else i))
  | _, _ => none
def min2D : D → D → Option D
  | .int i, .int j => some (.int (if j < i then j else i))
  | _, _ => none
theorem d_max2 {ea eb : Expr} {a b : Env → Option D} {p pos : Pos} (hg : glB sc "max" = true) (hm : Γ.mg "max" = none) (ha : DV Γ N sc κ1 ea a) (hb : DV Γ N sc κ2 eb b) (hs : Pl1 ea [eb] := by exact fun _ => rfl) (hs2 : Pl1 eb [] := by exact fun _ => rfl) : DV Γ N sc .e (.Call (.Name "max" p) [ea, eb] [] pos) (f2 max2D a b) :=
  d_b2 (fun X g => call_max2 g.calm) (by decide +kernel) (by decide) (by decide) (fun G H x y d e z s rx ry h Q q => by
    cases d <;> cases e <;> cases h
    exact ⟨_, _, by rw [rx.int, ry.int], q G H _ (Grow.refl s) (.int _)⟩) hg hm ha hb hs hs2
theorem d_min2 {ea eb : Expr} {a b : Env → Option D} {p pos : Pos} (hg : glB sc "min" = true) (hm : Γ.mg "min" = none) (ha : DV Γ N sc κ1 ea a) (hb : DV Γ N sc κ2 eb b) (hs : Pl1 ea [eb] := by exact fun _ => rfl) (hs2 : Pl1 eb [] := by exact fun _ => rfl) : DV Γ N sc .e (.Call (.Name "min" p) [ea, eb] [] pos) (f2 min2D a b) :=
  d_b2 (fun X g => call_min2 g.calm) (by decide +kernel) (by decide) (by decide) (fun G H x y d e z s rx ry h Q q => by
    cases d <;> cases e <;> cases h
    exact ⟨_, _, by rw [rx.int, ry.int], q G H _ (Grow.refl s) (.int _)⟩) hg hm ha hb hs hs2
def sumD : D → Option D
  | .lst ds => (asInts ds).bind fun ns => some (.int ns.sum)
  | .tup ds => (asInts ds).bind fun ns => some (.int ns.sum)
  | _ => none
theorem lst_ints {x : V} {ds : List D} {ns : List Int} (s : SL G H) (rx : RepB Γ.K Γ.C G H x (.lst ds)) (e : asInts ds = some ns) : ∃ a, x = .ref a ∧ H a = some (.lst (ns.map V.int)) := by
  obtain ⟨a, vs, rfl, h1, h2⟩ := rx.lst s
  rw [asInts_eq e] at h2
  rw [RepL.ints_eq ns h2] at h1
  exact ⟨a, rfl, h1⟩
def rSumA (K : PySem.W.Frag) : List V → Hp → VK → Prop := fun vs H Q => rSum K vs H Q ∨ ∃ (a : Addr) (ns : List Int), vs = [V.ref a] ∧ SqT K H a (ns.map V.int) ∧ Q (.int ns.sum) H
theorem cr_sumA {X : Cx} (hc : X.calm = true) : CallR X (.builtin "sum") (rSumA X.K) := by
  intro pins s σ H vs us Q I r h
  rcases h with h | ⟨a, ns, e, hs, q⟩
  · exact cr_sum hc pins s σ H vs us Q I r h
  · subst e
    obtain ⟨its, rv, hl, _⟩ := I.tuple hs
    have hi : IntsAre its ns := rv.ints
    have hl : s.heap.IsTuple a its.toArray := hl
    rw [Vals.ref1 r]
    obtain ⟨xs, e⟩ := hi.allInts.items
    have hn : numsOf its.toArray.toList = ns := hi.numsOf
    rw [e] at hn hl
    rw [nums_intItems] at hn
    refine PySem.W.ktm_sumG (I.ok.hd hc) hl fun h' tk t' hk => ?_
    rw [preSum_eq, List.take_of_length_le (by simp), hn]
    exact ⟨.int _, H, I.kept hk, ⟨_, rfl⟩, q⟩
theorem tup_ints {x : V} {ds : List D} {ns : List Int} (rx : RepB Γ.K Γ.C G H x (.tup ds)) (s : SL G H) (e : asInts ds = some ns) : ∃ a, x = .ref a ∧ SqT Γ.K H a (ns.map V.int) := by
  obtain ⟨a, vs, rfl, h1, h2⟩ := rx.tup
  rw [asInts_eq e] at h2
  rw [RepL.ints_eq ns h2] at h1
  exact ⟨a, rfl, SqT.of (s.tup h1)⟩
theorem d_sum {ea : Expr} {a : Env → Option D} {p pos : Pos} (hg : glB sc "sum" = true) (hm : Γ.mg "sum" = none) (ha : DV Γ N sc κ1 ea a) (hs : Pl1 ea [] := by exact fun _ => rfl) : DV Γ N sc .e (.Call (.Name "sum" p) [ea] [] pos) (f1 sumD a) :=
  d_b1 (fun X g => g.K ▸ cr_sumA g.calm) (by decide +kernel) (by decide) (by decide) (fun G H x d z s rx h Q q => by
    cases d <;> try cases h
    · rename_i ds
      have h : ((asInts ds).bind fun ns => some (D.int ns.sum)) = some z := h
      cases e : asInts ds with
      | none => rw [e] at h; cases h
      | some ns =>
        rw [e] at h; cases h
        obtain ⟨a, rfl, h1⟩ := tup_ints rx s e
        exact .inr ⟨a, ns, rfl, h1, q G H _ (Grow.refl s) (.int _)⟩
    · rename_i ds
      have h : ((asInts ds).bind fun ns => some (D.int ns.sum)) = some z := h
      cases e : asInts ds with
      | none => rw [e] at h; cases h
      | some ns =>
        rw [e] at h; cases h
        obtain ⟨a, rfl, h1⟩ := lst_ints s rx e
        exact .inl ⟨a, ns, rfl, SqL.of h1, q G H _ (Grow.refl s) (.int _)⟩) hg hm ha hs
def maxL : List Int → Int
  | [] => 0
  | [x] => x
  | x :: xs => max x (maxL xs)
theorem maxL_mem : ∀ (ns : List Int), ns ≠ [] → maxL ns ∈ ns ∧ ∀ y ∈ ns, y ≤ maxL ns
  | [], h => absurd rfl h
  | [x], _ => ⟨List.mem_singleton.mpr rfl, fun y hy => by rw [List.mem_singleton.mp hy]; exact Int.le_refl _⟩
  | x :: y :: r, _ => by
    obtain ⟨h1, h2⟩ := maxL_mem (y :: r) (by simp)
    have e : maxL (x :: y :: r) = max x (maxL (y :: r)) := rfl
    rw [e]
    refine ⟨?_, fun z hz => ?_⟩
    · by_cases q : x ≤ maxL (y :: r)
      · rw [Int.max_eq_right q]; exact List.mem_cons_of_mem _ h1
      · rw [Int.max_eq_left (by omega)]; exact List.mem_cons_self
    · rcases List.mem_cons.mp hz with rfl | hz
      · omega
      · have := h2 z hz; omega
def maxD : D → Option D
  | .lst ds => (asInts ds).bind fun ns => if ns ≠ [] then some (.int (maxL ns)) else none
  | _ => none
theorem d_max {ea : Expr} {a : Env → Option D} {p pos : Pos} (hg : glB sc "max" = true) (hm : Γ.mg "max" = none) (ha : DV Γ N sc κ1 ea a) (hs : Pl1 ea [] := by exact fun _ => rfl) : DV Γ N sc .e (.Call (.Name "max" p) [ea] [] pos) (f1 maxD a) :=
  d_b1 (fun X g => g.K ▸ cr_max g.calm) (by decide +kernel) (by decide) (by decide) (fun G H x d z s rx h Q q => by
    cases d <;> try cases h
    rename_i ds
    have h : ((asInts ds).bind fun ns => if ns ≠ [] then some (D.int (maxL ns)) else none) = some z := h
    cases e : asInts ds with
    | none => rw [e] at h; cases h
    | some ns =>
      simp only [e, Option.bind_some] at h
      split at h
      · rename_i hne
        cases h
        obtain ⟨a, rfl, h1⟩ := lst_ints s rx e
        refine ⟨a, ns, rfl, SqL.of h1, List.length_pos_iff.mpr hne, fun m hm1 hm2 => ?_⟩
        obtain ⟨k1, k2⟩ := maxL_mem ns hne
        have : m = maxL ns := Int.le_antisymm (k2 m hm1) (hm2 _ k1)
        rw [this]
        exact q G H _ (Grow.refl s) (.int _)
      · cases h) hg hm ha hs
def anyD : D → Option D
  | .lst ds => (asBls ds).bind fun ns => some (.bl (ns.any id))
  | _ => none
def allD : D → Option D
  | .lst ds => (asBls ds).bind fun ns => some (.bl (ns.all id))
  | _ => none
theorem lst_bls {x : V} {ds : List D} {ns : List Bool} (s : SL G H) (rx : RepB Γ.K Γ.C G H x (.lst ds)) (e : asBls ds = some ns) : ∃ a, x = .ref a ∧ H a = some (.lst (ns.map V.bl)) := by
  obtain ⟨a, vs, rfl, h1, h2⟩ := rx.lst s
  rw [asBls_eq e] at h2
  rw [RepL.bls_eq ns h2] at h1
  exact ⟨a, rfl, h1⟩
theorem d_any {ea : Expr} {a : Env → Option D} {p pos : Pos} (hg : glB sc "any" = true) (hm : Γ.mg "any" = none) (ha : DV Γ N sc κ1 ea a) (hs : Pl1 ea [] := by exact fun _ => rfl) : DV Γ N sc .e (.Call (.Name "any" p) [ea] [] pos) (f1 anyD a) :=
  d_b1 (fun X g => g.K ▸ cr_any g.calm) (by decide +kernel) (by decide) (by decide) (fun G H x d z s rx h Q q => by
    cases d <;> try cases h
    rename_i ds
    have h : ((asBls ds).bind fun ns => some (D.bl (ns.any id))) = some z := h
    cases e : asBls ds with
    | none => rw [e] at h; cases h
    | some ns =>
      rw [e] at h; cases h
      obtain ⟨a, rfl, h1⟩ := lst_bls s rx e
      exact ⟨a, ns, rfl, SqL.of h1, q G H _ (Grow.refl s) (.bl _)⟩) hg hm ha hs
theorem d_all {ea : Expr} {a : Env → Option D} {p pos : Pos} (hg : glB sc "all" = true) (hm : Γ.mg "all" = none) (ha : DV Γ N sc κ1 ea a) (hs : Pl1 ea [] := by exact fun _ => rfl) : DV Γ N sc .e (.Call (.Name "all" p) [ea] [] pos) (f1 allD a) :=
  d_b1 (fun X g => g.K ▸ cr_all g.calm) (by decide +kernel) (by decide) (by decide) (fun G H x d z s rx h Q q => by
    cases d <;> try cases h
    rename_i ds
    have h : ((asBls ds).bind fun ns => some (D.bl (ns.all id))) = some z := h
    cases e : asBls ds with
    | none => rw [e] at h; cases h
    | some ns =>
      rw [e] at h; cases h
      obtain ⟨a, rfl, h1⟩ := lst_bls s rx e
      exact ⟨a, ns, rfl, SqL.of h1, q G H _ (Grow.refl s) (.bl _)⟩) hg hm ha hs
def tupleD : D → Option D
  | .lst ds => some (.tup ds)
  | .tup ds => some (.tup ds)
  | _ => none
theorem d_tuple {ea : Expr} {a : Env → Option D} {p pos : Pos} (hg : glB sc "tuple" = true) (hm : Γ.mg "tuple" = none) (ha : DV Γ N sc κ1 ea a) (hs : Pl1 ea [] := by exact fun _ => rfl) : DV Γ N sc .e (.Call (.Name "tuple" p) [ea] [] pos) (f1 tupleD a) :=
  d_t1 (r := fun xs H Q => ∃ p ys, xs = [.ref p] ∧ ((SqL Γ.K H p ys ∧ ∀ l, H l = none → Q (.ref l) (upd H l (.tup ys))) ∨ (SqT Γ.K H p ys ∧ Q (.ref p) H))) (fun X g => g.K ▸ call_tuple_of) (by decide +kernel) (by decide) (by decide) (fun G H x d z s rx h Q q => by
    cases d <;> try cases h
    · obtain ⟨a, vs, rfl, h1, h2⟩ := rx.tup
      exact ⟨a, vs, rfl, .inr ⟨SqT.of (s.tup h1), q G H _ (Grow.refl s) (.tup h1 h2)⟩⟩
    · obtain ⟨a, vs, rfl, h1, h2⟩ := rx.lst s
      exact ⟨a, vs, rfl, .inl ⟨SqL.of h1, fun l hl => q _ _ _ (Grow.new s hl) (.tup upd_same (h2.mono (SL.new (s.free hl))))⟩⟩) hg hm ha hs
def listD : D → Option D
  | .lst ds => some (.lst ds)
  | .tup ds => some (.lst ds)
  | _ => none
theorem d_list {ea : Expr} {a : Env → Option D} {p pos : Pos} (hg : glB sc "list" = true) (hm : Γ.mg "list" = none) (ha : DV Γ N sc κ1 ea a) (hs : Pl1 ea [] := by exact fun _ => rfl) : DV Γ N sc .f (.Call (.Name "list" p) [ea] [] pos) (f1 listD a) :=
  d_t1 (r := fun xs H Q => ∃ p ys, xs = [.ref p] ∧ (SqL Γ.K H p ys ∨ SqT Γ.K H p ys) ∧ ∀ l, H l = none → Q (.ref l) (upd H l (.lst ys))) (fun X g => g.K ▸ call_list_of) (by decide +kernel) (by decide) (by decide) (fun G H x d z s rx h Q q => by
    cases d <;> try cases h
    · obtain ⟨a, vs, rfl, h1, h2⟩ := rx.tup
      exact ⟨a, vs, rfl, .inr (SqT.of (s.tup h1)), fun l hl => q _ _ _ (Grow.newH s hl) ⟨l, rfl, hl, s.free hl, vs, upd_same, h2⟩⟩
    · obtain ⟨a, vs, rfl, h1, h2⟩ := rx.lst s
      exact ⟨a, vs, rfl, .inl (SqL.of h1), fun l hl => q _ _ _ (Grow.newH s hl) ⟨l, rfl, hl, s.free hl, vs, upd_same, h2⟩⟩) hg hm ha hs
def intD : D → Option D
  | .int i => some (.int i)
  | .bl k => some (.int (if k then 1 else 0))
  | _ => none
theorem d_int1 {ea : Expr} {a : Env → Option D} {p pos : Pos} (hg : glB sc "int" = true) (hm : Γ.mg "int" = none) (ha : DV Γ N sc κ1 ea a) (hs : Pl1 ea [] := by exact fun _ => rfl) : DV Γ N sc .e (.Call (.Name "int" p) [ea] [] pos) (f1 intD a) :=
  d_t1 (fun X g => call_int1) (by decide +kernel) (by decide) (by decide) (fun G H x d z s rx h Q q => by
    cases d <;> cases h
    · exact .inr ⟨_, by rw [rx.bl], q G H _ (Grow.refl s) (.int _)⟩
    · exact .inl ⟨_, by rw [rx.int], q G H _ (Grow.refl s) (.int _)⟩) hg hm ha hs
/-! ### isinstance -/
def tyD : D → Option String
  | .non => some "NoneType"
  | .bl _ => some "bool"
  | .int _ => some "int"
  | .str _ => some "str"
  | .tup _ => some "tuple"
  | .lst _ => some "list"
  | _ => none
theorem tyD_ok {t : String} {x : V} (s : SL G H) (r : RepB Γ.K Γ.C G H x d) (h : tyD d = some t) : TyX Γ.K H x (.type t) := by
  cases d <;> cases h
  · rw [r.non]; exact .base .non
  · rw [r.bl]; exact .base (.bl _)
  · rw [r.int]; exact .base (.int _)
  · rw [r.str]; exact .base (.str _)
  · obtain ⟨a, vs, rfl, h1, h2⟩ := r.tup
    exact .base (.tup (s.tup h1))
  · obtain ⟨a, vs, rfl, h1, h2⟩ := r.lst s
    exact .base (.lst h1)
/-- T one of int, bool, tuple -/
def isiB (T : String) (t : String) : Option Bool := if T = "int" then some (t == "int" || t == "bool") else if T = "bool" then some (t == "bool") else if T = "tuple" then some (t == "tuple") else none
theorem isiB_ok {T t : String} {b : Bool} (ht : t = "NoneType" ∨ t = "bool" ∨ t = "int" ∨ t = "str" ∨ t = "tuple" ∨ t = "list") (h : isiB T t = some b) : kitB t T = some b := by
  unfold isiB at h
  split at h
  · rename_i e; subst e
    rcases ht with rfl | rfl | rfl | rfl | rfl | rfl <;> cases h <;> decide +kernel
  · split at h
    · rename_i e; subst e
      rcases ht with rfl | rfl | rfl | rfl | rfl | rfl <;> cases h <;> decide +kernel
    · split at h
      · rename_i e; subst e
        rcases ht with rfl | rfl | rfl | rfl | rfl | rfl <;> cases h <;> decide +kernel
      · cases h
theorem tyD_in {t : String} (h : tyD d = some t) : t = "NoneType" ∨ t = "bool" ∨ t = "int" ∨ t = "str" ∨ t = "tuple" ∨ t = "list" := by
  cases d <;> cases h <;> simp
def isiD (T : String) (d : D) : Option D := (tyD d).bind fun t => (isiB T t).bind fun b => some (.bl b)
theorem d_isi {T : String} {tn : Str} {ea : Expr} {a : Env → Option D} {p p2 pos : Pos} (hT : bootBuiltins tn = some (.type T)) (htn : tn ≠ "__name__") (htd : (tn == ("__debug__" : Str)) = false) (hg : glB sc "isinstance" = true) (hm : Γ.mg "isinstance" = none) (hg2 : glB sc tn = true) (hm2 : Γ.mg tn = none) (ha : DV Γ N sc κ1 ea a) (hs : Pl1 ea [.Name tn p2] := by exact fun _ => rfl) :
    DV Γ N sc .e (.Call (.Name "isinstance" p) [ea, .Name tn p2] [] pos) (f1 (isiD T) a) := by
  obtain ⟨ta, pa, sa⟩ := ha.ex
  refine ⟨_, fun X gX => pe_callB (gX.K ▸ call_isi) (gl_of gX hg) (by rw [gX.mg]; exact hm) (by decide +kernel) (pa_cons (pa X gX) (pa_cons (pe_bltn (v := .ty T) (gl_of gX hg2) (by rw [gX.mg]; exact hm2) hT rfl htn htd) pa_nil) (hs _)) (by decide) (by decide) (hs _) rfl, fun H0 ρ σ G H Q z s E e q => ?_⟩
  unfold f1 at e
  cases eaa : a ρ with
  | none => rw [eaa] at e; cases e
  | some x =>
    rw [eaa] at e
    have e : isiD T x = some z := e
    unfold isiD at e
    cases et : tyD x with
    | none => rw [et] at e; cases e
    | some t =>
      simp only [et, Option.bind_some] at e
      cases eb : isiB T t with
      | none => rw [eb] at e; cases e
      | some b =>
        rw [eb] at e
        cases e
        refine sa H0 ρ σ G H _ x s E eaa fun G1 H1 v g1 o1 => ?_
        exact ⟨v, .ty T, .type t, .type T, b, rfl, .ty T, tyD_ok g1.s o1.b et, kit_ty (isiB_ok (tyD_in et) eb), q G1 H1 _ g1 (.bl b)⟩
theorem d_isInt {ea : Expr} {a : Env → Option D} {p p2 pos : Pos} (hg : glB sc "isinstance" = true) (hm : Γ.mg "isinstance" = none) (hg2 : glB sc "int" = true) (hm2 : Γ.mg "int" = none) (ha : DV Γ N sc κ1 ea a) (hs : Pl1 ea [.Name "int" p2] := by exact fun _ => rfl) :
    DV Γ N sc .e (.Call (.Name "isinstance" p) [ea, .Name "int" p2] [] pos) (f1 (isiD "int") a) := d_isi (by decide +kernel) (by decide) (by decide) hg hm hg2 hm2 ha hs
theorem d_isBool {ea : Expr} {a : Env → Option D} {p p2 pos : Pos} (hg : glB sc "isinstance" = true) (hm : Γ.mg "isinstance" = none) (hg2 : glB sc "bool" = true) (hm2 : Γ.mg "bool" = none) (ha : DV Γ N sc κ1 ea a) (hs : Pl1 ea [.Name "bool" p2] := by exact fun _ => rfl) :
    DV Γ N sc .e (.Call (.Name "isinstance" p) [ea, .Name "bool" p2] [] pos) (f1 (isiD "bool") a) := d_isi (by decide +kernel) (by decide) (by decide) hg hm hg2 hm2 ha hs
theorem d_isTuple {ea : Expr} {a : Env → Option D} {p p2 pos : Pos} (hg : glB sc "isinstance" = true) (hm : Γ.mg "isinstance" = none) (hg2 : glB sc "tuple" = true) (hm2 : Γ.mg "tuple" = none) (ha : DV Γ N sc κ1 ea a) (hs : Pl1 ea [.Name "tuple" p2] := by exact fun _ => rfl) :
    DV Γ N sc .e (.Call (.Name "isinstance" p) [ea, .Name "tuple" p2] [] pos) (f1 (isiD "tuple") a) := d_isi (by decide +kernel) (by decide) (by decide) hg hm hg2 hm2 ha hs
/-! ### one's own defs -/
structure HasD (Γ : Gam) (x : Str) (f : List D → Option D) : Prop where
  ex : ∃ (j : Nat) (a : Addr) (fd : FuncData) (ps : List Str), j ≤ Γ.k ∧ Γ.mg x = some (.ref a) ∧ PySem.W.keepIn Γ.K (.ref a) = true ∧ Binds Γ.K fd ps [] ∧ FnOk Γ.P Γ.w Γ.K Γ.mg Γ.base CX0 j a fd ps (spD Γ.K Γ.C f)
abbrev Gam.at (Γ : Gam) (k : Nat) : Gam := { Γ with k := k }
theorem HasD.up {x : Str} {f : List D → Option D} {j k : Nat} (h : HasD (Γ.at j) x f) (hk : j ≤ k) : HasD (Γ.at k) x f := by
  obtain ⟨i, a, fd, ps, h1, h2⟩ := h.ex
  exact ⟨i, a, fd, ps, Nat.le_trans h1 hk, h2⟩
theorem sem_sp {f : List D → Option D} {t : TA} {a : Env → Option (List D)} {E : XK} (sa : SemA Γ t a) : SemV Γ .e (tCall (spD Γ.K Γ.C f) [] E t) (fN f a) := fun H0 ρ σ G H Q z s Ev e q => by
  unfold fN at e
  cases ea : a ρ with
  | none => rw [ea] at e; cases e
  | some ds =>
    rw [ea] at e
    refine sa H0 ρ σ G H _ ds s Ev ea fun G1 H1 vs g1 o1 => ?_
    exact ⟨G1, ds, z, g1.s, g1.t Ev.tb, by rw [List.append_nil]; exact o1, e, fun G2 H2 v g2 o2 => q G2 H2 v (g1.trans g2) o2⟩
theorem d_call {x : Str} {f : List D → Option D} {e : Expr} {es : List Expr} {a : Env → Option (List D)} {p pos : Pos} (h : HasD Γ x f) (hg : glB sc x = true) (hdb : (x == ("__debug__" : Str)) = false) (ha : DA Γ N sc (e :: es) a)
    (hs : Pl1 e es := by exact fun _ => rfl) (hpl : ∀ env : PySem.Env, (backTo pos (starEach es env)).any (·.1) = false := by exact fun _ => rfl) : DV Γ N sc .e (.Call (.Name x p) (e :: es) [] pos) (fN f a) := by
  obtain ⟨j, fa, fd, ps, hj, hm, hk, hb, hF⟩ := h.ex
  obtain ⟨t, pa, sa⟩ := ha.ex
  refine ⟨_, fun X g => ?_, sem_sp (E := E0) sa⟩
  exact pe_call (CX := CX0) (k := j) (f := fa) (fd := fd) (ps := ps) (ds := []) (dvs := []) (by rw [g.prog, g.w, g.K, g.mg, g.base]; exact hF) (g.room.mono hj) (gl_of g hg) (by rw [g.mg]; exact hm) (by rw [g.K]; exact hk) (by rw [g.K]; exact hb) .nil pass0 (pa X g) hdb (hs _) (hpl _)
/-! ### the net's fields and methods -/
structure NetC (Γ : Gam) : Prop where
  cl : Cls Γ.K Γ.C
  nf : NoAttr Γ.K Γ.C "fars"
  nt : NoAttr Γ.K Γ.C "turns"
  ni : NoAttr Γ.K Γ.C "inside"
def farsD : D → Option D
  | .net f _ _ => some f
  | _ => none
def turnsD : D → Option D
  | .net _ t _ => some t
  | _ => none
def insideD : D → Option D
  | .net _ _ .non => none
  | .net _ _ i => some i
  | _ => none
theorem insideD_eq {f t i z : D} (h : insideD (.net f t i) = some z) : i = z ∧ i ≠ .non := by
  cases i <;> first | cases h | skip
  all_goals exact ⟨rfl, fun e => by cases e⟩
theorem RepB.net {f t i : D} {x : V} (r : RepB Γ.K Γ.C G H x (.net f t i)) : Rep Γ.K Γ.C G x (.net f t i) := by
  rcases r with r | ⟨a, rfl, r⟩
  · exact r
  · exact r.elim
theorem look_f {v1 v2 v3 : V} : ([("fars", v1), ("turns", v2), ("inside", v3)] : List (Str × V)).lookup ("fars" : Str) = some v1 := by rfl
theorem look_t {v1 v2 v3 : V} : ([("fars", v1), ("turns", v2), ("inside", v3)] : List (Str × V)).lookup ("turns" : Str) = some v2 := by rfl
theorem look_i {v1 v2 v3 : V} : ([("fars", v1), ("turns", v2), ("inside", v3)] : List (Str × V)).lookup ("inside" : Str) = some v3 := by rfl
theorem d_fars {ea : Expr} {a : Env → Option D} {pos : Pos} (C : NetC Γ) (ha : DV Γ N sc κ1 ea a) (hb : ∀ env : PySem.Env, attributeBase ea "fars" env (eval ea env) = eval ea env := by exact fun _ => rfl) : DV Γ N sc .e (.Attribute ea "fars" pos) (f1 farsD a) := by
  obtain ⟨ta, pa, sa⟩ := ha.ex
  refine ⟨_, fun X g => g.K ▸ pe_fld (pa X g) (hb _), fun H0 ρ σ G H Q z s E e q => ?_⟩
  unfold f1 at e
  cases eaa : a ρ with
  | none => rw [eaa] at e; cases e
  | some x =>
    rw [eaa] at e
    cases x <;> cases e
    refine sa H0 ρ σ G H _ _ s E eaa fun G1 H1 v g1 o1 => ?_
    cases o1.b.net with
    | net h1 r1 r2 r3 => exact ⟨_, _, _, _, _, rfl, g1.s.ins h1, C.cl, C.nf, look_f, q G1 H1 _ g1 r1⟩
    | netP h1 r1 r2 => exact ⟨_, _, _, _, _, rfl, g1.s.ins h1, C.cl, C.nf, look_f, q G1 H1 _ g1 r1⟩
theorem d_turns {ea : Expr} {a : Env → Option D} {pos : Pos} (C : NetC Γ) (ha : DV Γ N sc κ1 ea a) (hb : ∀ env : PySem.Env, attributeBase ea "turns" env (eval ea env) = eval ea env := by exact fun _ => rfl) : DV Γ N sc .e (.Attribute ea "turns" pos) (f1 turnsD a) := by
  obtain ⟨ta, pa, sa⟩ := ha.ex
  refine ⟨_, fun X g => g.K ▸ pe_fld (pa X g) (hb _), fun H0 ρ σ G H Q z s E e q => ?_⟩
  unfold f1 at e
  cases eaa : a ρ with
  | none => rw [eaa] at e; cases e
  | some x =>
    rw [eaa] at e
    cases x <;> cases e
    refine sa H0 ρ σ G H _ _ s E eaa fun G1 H1 v g1 o1 => ?_
    cases o1.b.net with
    | net h1 r1 r2 r3 => exact ⟨_, _, _, _, _, rfl, g1.s.ins h1, C.cl, C.nt, look_t, q G1 H1 _ g1 r2⟩
    | netP h1 r1 r2 => exact ⟨_, _, _, _, _, rfl, g1.s.ins h1, C.cl, C.nt, look_t, q G1 H1 _ g1 r2⟩
theorem d_inside {ea : Expr} {a : Env → Option D} {pos : Pos} (C : NetC Γ) (ha : DV Γ N sc κ1 ea a) (hb : ∀ env : PySem.Env, attributeBase ea "inside" env (eval ea env) = eval ea env := by exact fun _ => rfl) : DV Γ N sc .e (.Attribute ea "inside" pos) (f1 insideD a) := by
  obtain ⟨ta, pa, sa⟩ := ha.ex
  refine ⟨_, fun X g => g.K ▸ pe_fld (pa X g) (hb _), fun H0 ρ σ G H Q z s E e q => ?_⟩
  unfold f1 at e
  cases eaa : a ρ with
  | none => rw [eaa] at e; cases e
  | some x =>
    rw [eaa] at e
    cases x <;> try cases e
    obtain ⟨e1, e2⟩ := insideD_eq e
    subst e1
    refine sa H0 ρ σ G H _ _ s E eaa fun G1 H1 v g1 o1 => ?_
    cases o1.b.net with
    | netP h1 r1 r2 => exact absurd rfl e2
    | net h1 r1 r2 r3 => exact ⟨_, _, _, _, _, rfl, g1.s.ins h1, C.cl, C.ni, look_i, q G1 H1 _ g1 r3⟩
structure HasM (Γ : Gam) (m : Str) (f : List D → Option D) : Prop where
  no : ∀ v1 v2 v3 : V, ([("fars", v1), ("turns", v2), ("inside", v3)] : List (Str × V)).lookup m = none
  ex : ∃ (j : Nat) (a : Addr) (fd : FuncData) (ps : List Str), j ≤ Γ.k ∧ Meth Γ.K Γ.C m a ∧ Binds Γ.K fd ps [] ∧ FnOk Γ.P Γ.w Γ.K Γ.mg Γ.base CX0 j a fd ps (spD Γ.K Γ.C f)
theorem HasM.up {x : Str} {f : List D → Option D} {j k : Nat} (h : HasM (Γ.at j) x f) (hk : j ≤ k) : HasM (Γ.at k) x f := by
  obtain ⟨i, a, fd, ps, h1, h2⟩ := h.ex
  exact ⟨h.no, i, a, fd, ps, Nat.le_trans h1 hk, h2⟩
def netB : D → Bool
  | .net _ _ _ => true
  | _ => false
def fM (f : List D → Option D) (o : Env → Option D) (a : Env → Option (List D)) : Env → Option D := fun ρ => (o ρ).bind fun x => (a ρ).bind fun ds => if netB x then f (x :: ds) else none
theorem sem_meth {m : Str} {f : List D → Option D} {to : TE} {t : TA} {o : Env → Option D} {a : Env → Option (List D)} {E : XK} (no : ∀ v1 v2 v3 : V, ([("fars", v1), ("turns", v2), ("inside", v3)] : List (Str × V)).lookup m = none) (so : SemV Γ κ to o) (sa : SemA Γ t a) :
    SemV Γ .e (tMeth Γ.C m (spD Γ.K Γ.C f) [] E to t) (fM f o a) := fun H0 ρ σ G H Q z s Ev e q => by
  unfold fM at e
  cases eo : o ρ with
  | none => rw [eo] at e; cases e
  | some x =>
    cases ea : a ρ with
    | none => simp only [eo, ea, Option.bind_some] at e; cases e
    | some ds =>
      simp only [eo, ea, Option.bind_some] at e
      cases x <;> first | cases e | skip
      have e : f (_ :: ds) = some z := e
      refine so H0 ρ σ G H _ _ s Ev eo fun G1 H1 v g1 o1 => ?_
      cases o1.b.net with
      | net h1 r1 r2 r3 =>
        refine ⟨_, _, _, rfl, g1.s.ins h1, no _ _ _, ?_⟩
        refine sa H0 ρ σ G1 H1 _ ds g1.s (Ev.grow g1) ea fun G2 H2 vs g2 o2 => ?_
        refine ⟨G2, _, z, g2.s, (g1.trans g2).t Ev.tb, ?_, e, fun G3 H3 v g3 o3 => q G3 H3 v ((g1.trans g2).trans g3) o3⟩
        rw [List.append_nil]
        exact .cons ((Rep.net h1 r1 r2 r3).mono g2.g) o2
      | netP h1 r1 r2 =>
        refine ⟨_, _, _, rfl, g1.s.ins h1, no _ _ _, ?_⟩
        refine sa H0 ρ σ G1 H1 _ ds g1.s (Ev.grow g1) ea fun G2 H2 vs g2 o2 => ?_
        refine ⟨G2, _, z, g2.s, (g1.trans g2).t Ev.tb, ?_, e, fun G3 H3 v g3 o3 => q G3 H3 v ((g1.trans g2).trans g3) o3⟩
        rw [List.append_nil]
        exact .cons ((Rep.netP h1 r1 r2).mono g2.g) o2
theorem d_meth {m : Str} {f : List D → Option D} {oe e : Expr} {es : List Expr} {o : Env → Option D} {a : Env → Option (List D)} {apos pos : Pos} {pl : PySem.Env → Sem Bool} (C : NetC Γ) (h : HasM Γ m f) (ho : DV Γ N sc κ oe o) (ha : DA Γ N sc (e :: es) a)
    (hs : Pl1 e es := by exact fun _ => rfl) (hpl : ∀ env : PySem.Env, (backTo pos (starEach es env)).any (·.1) = false := by exact fun _ => rfl)
    (ht : ∀ env : PySem.Env, eval (.Call (.Attribute oe m apos) (e :: es) [] pos) env = (do
      let ov ← eval oe env
      standAt apos.atName
      let (f, first) ← holding [ov] (getMethod ov m (pl env))
      callWith pos f first (backTo pos (starEach (e :: es) env)) (backToKw pos (keywordEach [] env))) := by exact fun _ => rfl) : DV Γ N sc .e (.Call (.Attribute oe m apos) (e :: es) [] pos) (fM f o a) := by
  obtain ⟨no, j, fa, fd, ps, hj, hm, hb, hF⟩ := h
  obtain ⟨to, po, so⟩ := ho.ex
  obtain ⟨t, pa, sa⟩ := ha.ex
  refine ⟨_, fun X g => ?_, sem_meth (E := E0) no so sa⟩
  exact pe_meth (pl := pl X.env) (CX := CX0) (k := j) (f := fa) (fd := fd) (ps := ps) (ds := []) (dvs := []) (po X g) (by rw [g.K]; exact C.cl) (by rw [g.K]; exact hm) (by rw [g.prog, g.w, g.K, g.mg, g.base]; exact hF) (g.room.mono hj) (by rw [g.K]; exact hb) .nil pass0 (pa X g) (hs _) (hpl _) (ht _)
theorem d_meth0 {m : Str} {f : List D → Option D} {oe : Expr} {o : Env → Option D} {apos pos : Pos} {pl : PySem.Env → Sem Bool} (C : NetC Γ) (h : HasM Γ m f) (ho : DV Γ N sc κ oe o)
    (ht : ∀ env : PySem.Env, eval (.Call (.Attribute oe m apos) [] [] pos) env = (do
      let ov ← eval oe env
      standAt apos.atName
      let (f, first) ← holding [ov] (getMethod ov m (pl env))
      callWith pos f first (backTo pos (starEach [] env)) (backToKw pos (keywordEach [] env))) := by exact fun _ => rfl) : DV Γ N sc .e (.Call (.Attribute oe m apos) [] [] pos) (fM f o fnil) := by
  obtain ⟨no, j, fa, fd, ps, hj, hm, hb, hF⟩ := h
  obtain ⟨to, po, so⟩ := ho.ex
  obtain ⟨t, pa, sa⟩ := (a_nil (Γ := Γ) (N := N) (sc := sc)).ex
  refine ⟨_, fun X g => ?_, sem_meth (E := E0) (t := tNil) no so (fun H0 ρ σ G H Q ds s E e q => by cases e; exact q G H [] (Grow.refl s) .nil)⟩
  exact pe_meth0 (pl := pl X.env) (CX := CX0) (k := j) (f := fa) (fd := fd) (ps := ps) (ds := []) (dvs := []) (po X g) (by rw [g.K]; exact C.cl) (by rw [g.K]; exact hm) (by rw [g.prog, g.w, g.K, g.mg, g.base]; exact hF) (g.room.mono hj) (by rw [g.K]; exact hb) .nil pass0 (ht _)
/-- Net(sheet) -/
def spN (K : PySem.W.Frag) (C : Addr) (f : D → Option D) : Sp := fun vs H Q _ => ∃ G H1 x dx v d n, SL G H1 ∧ TbH H1 ∧ H1 x = none ∧ H1 dx = none ∧ dx ≠ x ∧ vs = [.ref x, v] ∧ H = upd (upd H1 dx (.own x)) x (.ins C dx []) ∧ Rep K C G v d ∧ f d = some n ∧
  ∀ G' H', Grow G H1 G' H' → Rep K C G' (.ref x) n → Q .non H'
structure HasN (Γ : Gam) (x : Str) (f : D → Option D) : Prop where
  ex : ∃ (j : Nat) (a : Addr) (fd : FuncData) (ps : List Str), j + 1 ≤ Γ.k ∧ Γ.mg x = some (.ref Γ.C) ∧ Mk Γ.K Γ.C a ∧ Binds Γ.K fd ps [] ∧ FnOk Γ.P Γ.w Γ.K Γ.mg Γ.base CX0 j a fd ps (spN Γ.K Γ.C f)
theorem HasN.up {x : Str} {f : D → Option D} {j k : Nat} (h : HasN (Γ.at j) x f) (hk : j ≤ k) : HasN (Γ.at k) x f := by
  obtain ⟨i, a, fd, ps, h1, h2⟩ := h.ex
  exact ⟨i, a, fd, ps, Nat.le_trans h1 hk, h2⟩
theorem d_make {x : Str} {f : D → Option D} {ea : Expr} {a : Env → Option D} {p pos : Pos} (h : HasN Γ x f) (hg : glB sc x = true) (hdb : (x == ("__debug__" : Str)) = false) (ha : DV Γ N sc .e ea a) (hs : Pl1 ea [] := by exact fun _ => rfl) :
    DV Γ N sc .e (.Call (.Name x p) [ea] [] pos) (f1 f a) := by
  obtain ⟨j, fa, fd, ps, hj, hm, hk, hb, hF⟩ := h.ex
  obtain ⟨t, pa, sa⟩ := ha.ex
  refine ⟨tMake Γ.C (spN Γ.K Γ.C f) [] E0 (tCons t tNil), fun X g => ?_, fun H0 ρ σ G H Q z s E e q => ?_⟩
  · exact pe_make (CX := CX0) (k := j) (f := fa) (fd := fd) (ps := ps) (ds := []) (dvs := []) (by rw [g.K]; exact hk) (by rw [g.prog, g.w, g.K, g.mg, g.base]; exact hF) (g.room.mono hj) (gl_of g hg) (by rw [g.mg]; exact hm) (by rw [g.K]; exact hb) .nil pass0 (pa_cons (pa X g) pa_nil (hs _)) hdb (hs _) rfl
  · unfold f1 at e
    cases eaa : a ρ with
    | none => rw [eaa] at e; cases e
    | some d =>
      rw [eaa] at e
      refine sa H0 ρ σ G H _ d s E eaa fun G1 H1 v g1 o1 => fun x dx hx hdx hne => ?_
      exact ⟨G1, H1, x, dx, v, d, z, g1.s, g1.t E.tb, hx, hdx, hne, rfl, rfl, o1, e, fun G2 H2 g2 o2 => ⟨rfl, q G2 H2 _ (g1.trans g2) o2⟩⟩
end
end Pv
set_option Elab.async false
set_option linter.all false
set_option maxRecDepth 100000
set_option maxHeartbeats 4000000
set_option autoImplicit false
namespace Pv
variable [TabT]
open PySem PySem.Spec PyProof.Rows L2
/-! ### what is walked: further rules over the layer -/
section
variable {X : Cx}
theorem PI.or {tg it : Expr} {w w' : TI} (h : PI X tg it w) (h' : PI X tg it w') : PI X tg it (fun σ H R => w σ H R ∨ w' σ H R) :=
  ⟨fun pins s σ H R I q => q.elim (h.run pins s σ H R I) (h'.run pins s σ H R I)⟩
/-- a dict is locked for good -/
def tFrz (td : TE) : TE := fun σ H Q => td σ H fun x H1 => (∃ d u, x = .ref d ∧ H1 d = some u ∧ Mut (some u) ∧ ∀ o, Q x (upd H1 d (.frz o u))) ∨ Q x H1
theorem pe_frz {e : Expr} {td : TE} (h : PE X e td) : PE X e (tFrz td) := by
  refine ⟨fun pins s σ H Q I q => ?_⟩
  refine thn (h.run pins s σ H _ I q) fun v s1 ⟨x, H1, I1, r1, q1⟩ => ?_
  rcases q1 with ⟨d, u, rfl, hd, mu, q1⟩ | q1
  · obtain ⟨o, I2⟩ := I1.lock hd mu
    exact ⟨_, _, I2, r1, q1 o⟩
  · exact ⟨x, H1, I1, r1, q1⟩
/-! enumerate(tuple) -/
theorem meets_enum1 {v : Value} {o : Obj} {H : Heap → Prop} (B : Begins v o H) :
    Meets (Builtin.«enumerate.__new__» ⟨[.type "enumerate", v], []⟩) (fun _ R s => H s.heap ∧
      R (.ok (.ret (.ref (s.heap.push o).objs.size))) { s with heap := (s.heap.push o).push { cls := .type "enumerate", data := .fields #[.none, .bool false, .ref s.heap.objs.size, rawInt 0, .none, .none] } }) :=
  .of_wp fun prog w A R s h => by
    obtain ⟨hp, g, d, tk, os⟩ := s; obtain ⟨h1, h⟩ := h
    have hsub := sub_enumerate
    have q1 : ∀ {A' : Around} {E : Value → Shared → Prop} {Q : Value → Shared → Prop}, Q (.ref hp.objs.size) ⟨hp.push o, g, d, tk, os⟩ → wpAny (model prog w) A' (pyIter v) Q E ⟨hp, g, d, tk, os⟩ :=
      fun q => B.iter prog w _ _ ⟨hp, g, d, tk, os⟩ _ h1 q
    wp_walk using q1
    refine wpAny_stack_any fun st => wpAny_pure ?_
    split
    · rename_i c _ _ _ _ _
      cases (c == Value.type "enumerate")
      · wp_walk using q1
        exact ⟨_, rfl, h⟩
      · wp_walk using q1
        exact ⟨_, rfl, h⟩
    · wp_walk using q1
      exact ⟨_, rfl, h⟩
theorem enum_begin1 {prog : Program} {w : World} {A : Around} {E : Value → Shared → Prop} {s : Shared} {v : Value} {o : Obj} {H : Heap → Prop} {Q : Value → Shared → Prop} (B : Begins v o H) (h1 : H s.heap)
    (h : ∀ h', IsEnum h' (s.heap.objs.size + 1) s.heap.objs.size 0 .none → h'.get? s.heap.objs.size = some o → h'.objs.size = s.heap.objs.size + 2 →
      (∀ b o, s.heap.get? b = some o → h'.get? b = some o) → Q (.ref (s.heap.objs.size + 1)) { s with heap := h' }) :
    wpAny (model prog w) A (call (.type "enumerate") [v]) Q E s := by
  refine callType_new F.called_enumerate (by decide) (F.typeCall_enumerate_1 _) (F.newCall_enumerate_1 _) (fun obj => F.args_object_init_2 obj _) F.entry_enumerate_new
    (meets_enum1 B) ⟨h1, ?_⟩
  have hz : (s.heap.push o).objs.size = s.heap.objs.size + 1 := Heap.size_push ..
  show _ ∧ _
  rw [hz]
  have he : IsEnum ((s.heap.push o).push { cls := .type "enumerate", data := .fields #[.none, .bool false, .ref s.heap.objs.size, rawInt 0, .none, .none] }) (s.heap.objs.size + 1) s.heap.objs.size 0 .none := by
    have := Heap.get?_push_size (s.heap.push o) (o := { cls := .type "enumerate", data := .fields #[.none, .bool false, .ref s.heap.objs.size, rawInt 0, .none, .none] }) rfl
    rw [hz] at this; exact this
  refine ⟨⟨_, he, rfl⟩, h _ he (Heap.get?_push_of_some _ (Heap.get?_push_size _ B.free)) (by rw [Heap.size_push, hz]) fun b o x => Heap.get?_push_of_some _ (Heap.get?_push_of_some _ x)⟩
def IteT (K : PySem.W.Frag) (a : Addr) : It :=
  ⟨fun i H => ∃ (xs : List V) (x : V), SqT K H a xs ∧ xs[i]? = some x, fun i H v H' => ∃ T x, v = .ref T ∧ H T = none ∧ H' = upd H T (.tup [.int (i : Nat), x]) ∧ ∀ xs, SqT K H a xs → xs[i]? = some x, fun i H => ∃ xs : List V, SqT K H a xs ∧ xs.length ≤ i⟩
theorem turn_enumT {P : Program} {w : World} {K : PySem.W.Frag} {elts : List Expr} {kk : Nat} {tpos : Pos} (a e it : Addr) (hai : a ≠ it) :
    Turn P w K (.Tuple elts kk tpos) (IteT K a) [e, it] e (fun i h => (∃ old, IsEnum h e it ((i : Nat) : Int) old) ∧ h.IsTupleIter it a i ∧ e ≠ it) where
  mem := by simp
  obj := fun i h st b hb => by
    obtain ⟨⟨old, he⟩, ⟨o, ho, hc, hd⟩, _⟩ := st
    have e' : b = e ∨ b = it := by simpa using hb
    rcases e' with z | z
    · rw [z]; exact ⟨_, he, fun v q => nomatch q⟩
    · rw [z]; exact ⟨o, ho, fun v q => by rw [hd] at q; cases q⟩
  keep := fun i h h' st k => let ⟨⟨old, he⟩, hi, hne⟩ := st; ⟨⟨old, k e (by simp) _ he⟩, hi.at fun o q => k it (by simp) o q, hne⟩
  item := by
    intro X hP hw hK hc i pins s σ H E I hf st hg
    subst hP hw hK
    obtain ⟨⟨old, he⟩, hit, hne⟩ := st
    obtain ⟨xs, x, hq, hx⟩ := hg
    obtain ⟨its, rv, p, hz⟩ := I.tuple hq
    obtain ⟨u, hu, ru⟩ := rv.get hx
    have hel : e < s.heap.objs.size := Heap.lt_size he
    have hil : it < s.heap.objs.size := by obtain ⟨_, q, _⟩ := hit; exact Heap.lt_size q
    have hea : e ≠ a := by
      rintro rfl
      obtain ⟨o, ho, hcl, _⟩ := p
      rw [show s.heap.get? e = some _ from he] at ho
      cases ho
      injection hcl with hh
      exact absurd hh (by decide)
    have hii : i < its.toArray.size := by
      have := (List.getElem?_eq_some_iff.mp hu).1
      simpa using this
    refine wpAny_pyNext_enum_itemD (Draws.tuple (A := X.A.in1) (I.ok.hd hc) it a hai its.toArray) he ⟨hit, p⟩ hii hne (by simp [hne, hea]) fun x' h' tk hPx ho hst' hT hsz hk => ?_
    have ex : x' = u := by
      have h1 : its.toArray[i]? = some u := by simpa using hu
      rw [h1] at hPx
      exact (Option.some.inj hPx).symm
    subst ex
    refine ⟨_, rfl, wpAny_letOwnedTupleGo_enum (s := { s with heap := h', toks := tk + 1 }) ho fun h'' he' sb => ?_⟩
    have hT2 : h''.get? s.heap.objs.size = some { cls := .type "tuple", data := .seq #[.int i tk, x'] } := (sb.2 _ (Nat.ne_of_gt hel)).trans hT
    have new : ObjOk X.prog X.w (upd H s.heap.objs.size (.tup [.int (i : Nat), x])) h'' s.heap.objs.size (.tup [.int (i : Nat), x]) :=
      ⟨by show 2 ≤ sizeLine; decide, [.int i tk, x'], .cons ⟨_, rfl⟩ (.cons ru .nil), ⟨_, hT2, rfl, _, rfl⟩⟩
    have I1 : Inv X pins σ (upd H s.heap.objs.size (.tup [.int (i : Nat), x])) { s with heap := h'', toks := tk + 1 } :=
      I.turnedNew (ch := [e, it]) (fun b ob hb q => (sb.2 b (fun z => hb (by simp [z]))).trans (hk b ob (fun z => hb (by simp [z])) (fun z => hb (by simp [z])) q)) hf (Nat.le_refl _) new
    refine ⟨.ref s.heap.objs.size, _, I1, rfl, ⟨_, x, rfl, I.hok.fresh (Nat.le_refl _), rfl, fun ys hy => by rw [I.tuple_inj hy hq]; exact hx⟩, ⟨⟨x', ?_⟩, hst'.1.at fun o q => (sb.2 it (Ne.symm hne)).trans q, hne⟩, fun b hb => ?_⟩
    · have e1 : ((i + 1 : Nat) : Int) = (i : Int) + 1 := by omega
      rw [e1]; exact he'
    · have hb' : b < s.heap.objs.size := by
        have e' : b = e ∨ b = it := by simpa using hb
        rcases e' with z | z
        · rw [z]; exact hel
        · rw [z]; exact hil
      rw [upd_ne (Nat.ne_of_lt hb')]
      exact (hf b hb).1
  done := by
    intro X hP hw hK hc i pins s σ H E I hf st hg
    subst hP hw hK
    obtain ⟨⟨old, he⟩, hit, hne⟩ := st
    obtain ⟨xs, hq, hx⟩ := hg
    obtain ⟨its, rv, p, hz⟩ := I.tuple hq
    obtain ⟨f0, f1, f2, f3, f4, f5⟩ := hf it (by simp)
    have hl := rv.length
    -- the iterator stands at i, at or behind the end
    have hT : s.TypeIs (.ref e) "enumerate" := ⟨_, he, rfl⟩
    unfold pyNext
    refine wpAny_bind (wpAny_attempt (wpAny_callSpecial?_slot (name := Str.ofString "__next__") hT F.slot_enumerate_next
      (wpAny_call_entry F.slot_enumerate_next hT F.entry_enumerate_next ?_ (F.args_enumerate_next_1 _))))
    show wpAny _ _ (field (.ref e) 2 >>= _) _ _ _
    refine wpAny_bind (wpAny_field he rfl (x := .ref it) rfl ?_)
    refine wpAny_bind (wpAny_nextOf_tuple_end (A := X.A.in1) (I.ok.hd hc) hit p (by simp; omega) fun h' x he' hx' => ?_)
    obtain ⟨o, ho, hcl⟩ := hx'
    refine wpAny_bind (wpAny_isInstance (T := "StopIteration") (b := true) ⟨o, ho, hcl⟩ isSubtype_stop ?_)
    exact wpAny_pure ⟨rfl, I.turned (t' := s.toks) (fun b o hb q => he' b o hb q) f0 f1 f3 f4 f5⟩
  self := fun A i s Q E st h => let ⟨⟨_, he⟩, _⟩ := st; wpAny_pyIter_enum he h
def iEnumT (K : PySem.W.Frag) (ta : TA) : TI := fun σ H R => ta σ H fun vs H1 => ∃ a xs, vs = [.ref a] ∧ SqT K H1 a xs ∧ R (IteT K a) H1
theorem pi_enumT {e : Expr} {ta : TA} {p pos tpos : Pos} {elts : List Expr} {kk : Nat} (hg : Gl X "enumerate") (hm : X.mg "enumerate" = none) (ha : PA X [e] ta) (hs : starEach [e] X.env = [(false, eval e X.env)] := by rfl) :
    PI X (.Tuple elts kk tpos) (.Call (.Name "enumerate" p) [e] [] pos) (iEnumT X.K ta) := by
  refine ⟨fun pins s σ H R I h => ?_⟩
  refine Call_ (ld_blt I hg hm boot_enumerate (PyProof.Rows.callWith_type1 (thn (ha.run pos pins s σ H _ I h) fun us s1 ⟨vs, H1, I1, r1, q1⟩ => ?_) hs rfl))
  obtain ⟨a, xs, ex, hq, q⟩ := q1
  subst ex
  cases r1 with
  | cons r rr =>
    cases rr
    cases r
    obtain ⟨its, rv, p', hz⟩ := I1.tuple hq
    refine enum_begin1 (begins_tuple a its.toArray) p' fun h' he hit hsz hk => wpAny_pyIter_enum he ?_
    have I2 : Inv X pins σ H1 { s1 with heap := h' } := I1.kept (t' := s1.toks) hk
    have hal : a < s1.heap.objs.size := by obtain ⟨_, ho, _⟩ := p'; exact Heap.lt_size ho
    refine ⟨s1.heap.objs.size + 1, [s1.heap.objs.size + 1, s1.heap.objs.size], _, _, H1, rfl, I2, turn_enumT a (s1.heap.objs.size + 1) s1.heap.objs.size (Nat.ne_of_lt hal), ⟨⟨.none, he⟩, ⟨_, hit, rfl, rfl⟩, Nat.succ_ne_self _⟩, fun b hb => ?_, q⟩
    have e' : b = s1.heap.objs.size + 1 ∨ b = s1.heap.objs.size := by simpa using hb
    have hle : s1.heap.objs.size ≤ b := by
      rcases e' with z | z
      · rw [z]; exact Nat.le_add_right _ _
      · rw [z]; exact Nat.le_refl _
    exact I1.fpOk hle (I1.hok.fresh hle)
theorem walk_enumT {K : PySem.W.Frag} {a : Addr} {xs : List V} : Walk (IteT K a) xs.length (fun H => SqT K H a xs) (YPair (fun i => some (.int (i : Nat))) (fun i => xs[i]?)) := by
  refine ⟨fun i _ hi q => ⟨xs, xs[i], q, by simp [hi]⟩, fun _ q => ⟨xs, q, Nat.le_refl _⟩, fun i H v H' _ q y => ?_⟩
  obtain ⟨T, x, h1, h2, h3, h4⟩ := y
  exact ⟨T, .int (i : Nat), x, h1, h2, h3, rfl, h4 xs q⟩
/-! d.items(), the keys tuples -/
def Itit (d : Addr) (o : Obj) (kvs : List (List Key × V)) : It :=
  ⟨fun i H => H d = some (.frz o (.dT kvs)) ∧ i < kvs.length, fun i H x H' => ∃ T k v q, kvs[i]? = some (k, v) ∧ x = .ref T ∧ H T = none ∧ H' = upd H T (.tup [.ref q, v]) ∧ H q = some (.tup (k.map kV)), fun i H => H d = some (.frz o (.dT kvs)) ∧ kvs.length ≤ i⟩
theorem frzT2 {pins : List (Addr × Obj)} {σ : L2.St} {H : Hp} {s : Shared} {d : Addr} {o : Obj} {kvs : List (List Key × V)} (I : Inv X pins σ H s) (h : H d = some (.frz o (.dT kvs))) :
    (d == sysModules) = false ∧ s.heap.get? d = some o ∧ o.ExactDict ∧ ∃ (es : Array DictEntry) (ep : Nat), o.data = .dict es ep ∧ es.size = kvs.length ∧
      ∀ (i : Nat) (k : List Key) (v : V), kvs[i]? = some (k, v) → ∃ (en : DictEntry) (q : Addr), es[i]? = some en ∧ en.key = .ref q ∧ H q = some (.tup (k.map kV)) ∧ RelV v en.val := by
  obtain ⟨hd, z, hs, xs, pr, o', es, ep, ho, hx, hdt, he, _⟩ := I.hok d _ h
  rw [hd] at ho
  cases ho
  refine ⟨hs, hd, hx, es, ep, hdt, ?_, fun i k v e => ?_⟩
  · have l1 : es.size = xs.length := size_of_entries he
    have l2 : kvs.length = xs.length := Paired.length pr
    omega
  · obtain ⟨b, hb, e1, e2, e3⟩ := paired_get pr e
    have q := entry_at he i
    rw [hb] at q
    exact ⟨_, b.2.1, q, rfl, e2, e3⟩
theorem turn_itemsT {P : Program} {w : World} {K : PySem.W.Frag} {kvs : List (List Key × V)} {elts : List Expr} {kk : Nat} {tpos : Pos} {d : Addr} {o : Obj} {es : Array DictEntry} {ep : Nat} (it : Addr) (hod : o.data = .dict es ep) :
    Turn P w K (.Tuple elts kk tpos) (Itit d o kvs) [it] it (fun i h => ∃ ok ov, IsItemIter h it d i kvs.length ep ok ov) where
  mem := by simp
  obj := fun i h st b hb => by
    have e : b = it := by simpa using hb
    subst e
    obtain ⟨ok, ov, e⟩ := st
    exact ⟨_, e, fun v z => nomatch z⟩
  keep := fun i h h' st k => let ⟨ok, ov, e⟩ := st; ⟨ok, ov, k it (by simp) _ e⟩
  item := by
    intro X hP hw hK hc i pins s σ H E I hf st hg
    subst hP hw hK
    obtain ⟨hd, hi⟩ := hg
    obtain ⟨hs, hgd, hx, es', ep', hdt, hsz, ent⟩ := frzT2 I hd
    obtain ⟨rfl, rfl⟩ := dict_ep hod hdt
    obtain ⟨⟨k, v⟩, hkv⟩ : ∃ p, kvs[i]? = some p := ⟨kvs[i], List.getElem?_eq_getElem hi⟩
    obtain ⟨en, q, hen, hkey, hq, rv⟩ := ent i k v hkv
    obtain ⟨ok, ov, he⟩ := st
    rw [← hsz] at he
    have hlt : it < s.heap.objs.size := Heap.lt_size he
    obtain ⟨hi', hen'⟩ := Array.getElem?_eq_some_iff.mp hen
    refine DT.nextI he ⟨o, hgd, hx, hdt⟩ hi' fun h' ho hT hz hk => ?_
    rw [hen'] at ho hT
    refine ⟨_, rfl, wpAny_letOwnedTupleGo_items (s := { s with heap := h' }) ho fun h'' he' sb => ?_⟩
    have hT2 : h''.get? s.heap.objs.size = some { cls := .type "tuple", data := .seq #[en.key, en.val] } := (sb.2 _ (Nat.ne_of_gt hlt)).trans hT
    have new : ObjOk X.prog X.w (upd H s.heap.objs.size (.tup [.ref q, v])) h'' s.heap.objs.size (.tup [.ref q, v]) :=
      ⟨by show 2 ≤ sizeLine; decide, [en.key, en.val], .cons hkey (.cons rv .nil), ⟨_, hT2, rfl, _, rfl⟩⟩
    have I1 : Inv X pins σ (upd H s.heap.objs.size (.tup [.ref q, v])) { s with heap := h'' } :=
      I.turnedNew (t' := s.toks) (ch := [it]) (fun b ob hb e => (sb.2 b (by simpa using hb)).trans (hk b ob (by simpa using hb) e)) hf (Nat.le_refl _) new
    refine ⟨.ref s.heap.objs.size, _, I1, rfl, ⟨_, k, v, q, hkv, rfl, I.hok.fresh (Nat.le_refl _), rfl, hq⟩, ⟨en.key, en.val, ?_⟩, fun b hb => ?_⟩
    · rw [← hsz]; exact he'
    · have e : b = it := by simpa using hb
      rw [e, upd_ne (Nat.ne_of_lt hlt)]
      exact (hf it (by simp)).1
  done := by
    intro X hP hw hK hc i pins s σ H E I hf st hg
    subst hP hw hK
    obtain ⟨hd, hi⟩ := hg
    obtain ⟨f0, f1, f2, f3, f4, f5⟩ := hf it (by simp)
    obtain ⟨hs, hgd, hx, es', ep', hdt, hsz, ent⟩ := frzT2 I hd
    obtain ⟨rfl, rfl⟩ := dict_ep hod hdt
    obtain ⟨ok, ov, he⟩ := st
    rw [← hsz] at he
    exact DT.endI (I.ok.hd hc) he ⟨o, hgd, hx, hdt⟩ (by omega) fun h' eb => ⟨rfl, I.turned (t' := s.toks) (fun b ob hb e => eb b ob hb e) f0 f1 f3 f4 f5⟩
  self := fun A i s Q E st h => let ⟨_, _, e⟩ := st; PySem.W.kcp_self e h
def iItemsT (td : TE) : TI := fun σ H R => td σ H fun x H1 => ∃ d o kvs, x = .ref d ∧ H1 d = some (.frz o (.dT kvs)) ∧ R (Itit d o kvs) H1
theorem pi_itemsT {e : Expr} {td : TE} {apos cpos : Pos} {elts : List Expr} {kk : Nat} {tpos : Pos} (he : PE X e td) (hbase : attributeBase e "items" X.env (eval e X.env) = eval e X.env) (hline : (apos.endLine == cpos.line) = true) :
    PI X (.Tuple elts kk tpos) (.Call (.Attribute e "items" apos) [] [] cpos) (iItemsT td) := by
  refine ⟨fun pins s σ H R I h => ?_⟩
  refine wpAny_Call_method (T := "dict") (id := "dict.items") hbase rfl hline F.plainAttrs_dict F.slot_dict_items F.type_dict_items (thn (he.run pins s σ H _ I h) fun u s1 ⟨x, H1, I1, rx, d, o, kvs, ex, hd, q⟩ => ?_)
  subst ex
  obtain rfl : u = Value.ref d := rx
  obtain ⟨hs, hgd, hx, es, ep, hdt, hsz, ent⟩ := frzT2 I1 hd
  have raw : DT.Raw s1.heap d es ep := ⟨o, hgd, hx, hdt⟩
  refine ⟨raw.typeIs, ?_, ?_⟩
  · intro a z
    cases z
    exact ⟨o, hgd, hx.2.1⟩
  have I2 : Inv X pins σ H1 { s1 with heap := s1.heap.push { cls := .type "dict_items", data := .fields #[.ref d] } } := I1.kept (t' := s1.toks) fun b ob q => Heap.get?_push_of_some _ q
  have fin : wpAny (model X.prog X.w) X.A (pyIter (.ref s1.heap.objs.size)) (PIE X pins σ (.Tuple elts kk tpos) R) X.xe { s1 with heap := s1.heap.push { cls := .type "dict_items", data := .fields #[.ref d] } } := by
    refine DT.iterI (d := d) ⟨_, Heap.get?_push_size _ rfl, rfl, rfl⟩ (raw.push _) (pi_one (tk := s1.toks) I2 _ (turn_itemsT _ hdt) ⟨.none, .none, ?_⟩ q)
    rw [← hsz]
    exact Heap.get?_push_size _ rfl
  show wpAny _ _ (callWith cpos (.builtin "dict.items") [.ref d] [] []) _ X.xe s1
  exact method_meetsIn F.slot_dict_items F.entry_dict_items rfl (PySem.evalArgs_none ⟨rfl, raw.typeIs, F.args_dict_items_1 _, _, DT.meetsItems (es := es) (ep := ep) hs, raw, fin⟩)
theorem walk_itemsT {d : Addr} {o : Obj} {kvs : List (List Key × V)} : Walk (Itit d o kvs) kvs.length (fun H => H d = some (.frz o (.dT kvs)))
    (fun i H x H' => ∃ T k v q, kvs[i]? = some (k, v) ∧ x = .ref T ∧ H T = none ∧ H' = upd H T (.tup [.ref q, v]) ∧ H q = some (.tup (k.map kV))) :=
  ⟨fun _ _ hi q => ⟨q, hi⟩, fun _ q => ⟨q, Nat.le_refl _⟩, fun _ _ _ _ _ _ y => y⟩
end
end Pv
set_option Elab.async false
set_option linter.all false
set_option maxRecDepth 100000
set_option maxHeartbeats 4000000
set_option autoImplicit false
namespace Pv
variable [TabT]
open PySem PySem.Spec PyProof.Rows L2
section
variable {Γ : Gam} {N : List Str} {sc : Scope} {κ κ1 κ2 κ3 : Kd} {G H G' H' G1 H1 : Hp} {v : V} {d : D}
/-! ### what is walked -/
def SemI (Γ : Gam) (wi : TI) (F : Env → Option (List D)) : Prop := ∀ (H0 : Hp) (ρ : Env) (σ : L2.St) (G H : Hp) (R : It → Hp → Prop) (items : List D), SL G H → EnvOk Γ H0 G H ρ σ → F ρ = some items →
  (∀ (J : It) (Gp : Hp → Prop) (Y : Nat → Hp → V → Hp → Prop) (G1 H1 : Hp), Grow G H G1 H1 → Walk J items.length Gp Y → (∀ G' H', SL G1 G' → SL G' H' → Gp H') →
    (∀ (i : Nat) (H2 : Hp) (x : V) (H3 G2 : Hp), i < items.length → SL G1 G2 → SL G2 H2 → Y i H2 x H3 → ∃ G3 d, items[i]? = some d ∧ Grow G2 H2 G3 H3 ∧ Rep Γ.K Γ.C G3 x d) → R J H1) → wi σ H R
structure DI (Γ : Gam) (N : List Str) (sc : Scope) (tg it : Expr) (F : Env → Option (List D)) : Prop where
  ex : ∃ wi, (∀ X, Good Γ N sc X → PI X tg it wi) ∧ SemI Γ wi F
theorem upd_self {H : Hp} {a : Addr} {o : HO} (h : H a = some o) : upd H a o = H := by
  funext b
  by_cases hb : b = a
  · subst hb; rw [upd_same, h]
  · rw [upd_ne hb]
theorem Grow.lock {a : Addr} {o : Obj} {u : HO} (g : Grow G H G1 H1) (hg : G1 a = some u) (du : Dct u) (hH : H1 a = some u ∨ H1 a = some (.frz o u)) : Grow G H (upd G1 a (.frz o u)) (upd H1 a (.frz o u)) := by
  have sG : SL G1 (upd G1 a (.frz o u)) := fun b w e => by
    by_cases hb : b = a
    · subst hb; rw [hg] at e; cases e; exact .inr (.inl ⟨du, o, upd_same⟩)
    · rw [upd_ne hb]; exact .inl e
  have sH : SL H1 (upd H1 a (.frz o u)) := fun b w e => by
    by_cases hb : b = a
    · subst hb
      rcases hH with hH | hH
      · rw [hH] at e; cases e; exact .inr (.inl ⟨du, o, upd_same⟩)
      · rw [hH] at e; cases e; exact .inl upd_same
    · rw [upd_ne hb]; exact .inl e
  have nt : ∀ vs, H1 a ≠ some (.tup vs) := fun vs e => by
    rcases hH with hH | hH
    · rw [hH] at e; cases e; exact du
    · rw [hH] at e; cases e
  have nb : ∀ ps, H1 a ≠ some (.tbl ps) := fun vs e => by
    rcases hH with hH | hH
    · rw [hH] at e; cases e; exact du
    · rw [hH] at e; cases e
  have nc : ∀ c q, H1 a ≠ some (LamX.CodeO c q) := fun c q e => by
    rcases hH with hH | hH
    · rw [hH] at e
      have e := Option.some.inj e
      cases u <;> first | exact du | (unfold LamX.CodeO at e; cases e)
    · rw [hH] at e; unfold LamX.CodeO at e; cases e
  have na : ∃ w, H1 a = some w := hH.elim (fun z => ⟨_, z⟩) fun z => ⟨_, z⟩
  refine ⟨g.g.trans sG, g.h.trans sH, fun b w e => ?_, fun b h1 h2 => ?_, fun b w h1 h2 h3 => ?_, fun t => (g.t t).own (na.elim fun w hw => (g.t t).ne hw fun ps z => nb ps (by rw [hw, z])) nc⟩
  · by_cases hb : b = a
    · subst hb; rw [upd_same] at e ⊢; exact .inl e
    · rw [upd_ne hb] at e ⊢; exact g.s b w e
  · by_cases hb : b = a
    · subst hb; exact g.n b h1 (by rw [hg]; exact fun z => nomatch z)
    · rw [upd_ne hb] at h2; exact g.n b h1 h2
  · by_cases hb : b = a
    · subst hb
      rcases g.n b h1 (by rw [hg]; exact fun z => nomatch z) with q | ⟨vs, q⟩ | ⟨c, q', q⟩
      · rw [h2] at q; cases q
      · exact absurd (g.x b _ h1 q fun _ z => nomatch z) (nt vs)
      · exact absurd (g.x b _ h1 q LamX.codeO_ne) (nc c q')
    · rw [upd_ne hb]; exact g.x b w h1 h2 h3
/-- a key's tuple is shared -/
theorem Grow.key {a : Addr} {vs : List V} (s : SL G H) (h : H a = some (.tup vs)) : Grow G H (upd G a (.tup vs)) H := by
  refine ⟨fun b w e => ?_, SL.refl _, fun b w e => ?_, fun b h1 h2 => ?_, fun _ _ _ h _ => h, fun t => t⟩
  · by_cases hb : b = a
    · subst hb
      rcases s b w e with q | ⟨dw, od, q⟩ | ⟨_, ps, q⟩
      · rw [h] at q; cases q; exact .inl upd_same
      · rw [h] at q; cases q
      · rw [h] at q; cases q
    · rw [upd_ne hb]; exact .inl e
  · by_cases hb : b = a
    · subst hb; rw [upd_same] at e; cases e; exact .inl h
    · rw [upd_ne hb] at e; exact s b w e
  · by_cases hb : b = a
    · subst hb; exact .inr (.inl ⟨vs, h⟩)
    · rw [upd_ne hb] at h2; exact absurd h1 h2
def seqD : D → Option (List D)
  | .lst ds => some ds
  | .tup ds => some ds
  | .dct kds => some (kds.map fun p => .tup (p.1.map D.int))
  | .dci kds => some (kds.map fun p => .int p.1)
  | .str z => some (z.cps.toList.map fun c => .str ⟨#[c]⟩)
  | _ => none
def iseq (a : Env → Option D) : Env → Option (List D) := fun ρ => (a ρ).bind seqD
theorem kk_rep (k : List Int) : RepL Γ.K Γ.C G ((kk k).map kV) (k.map D.int) := by
  rw [List.map_map]
  exact RepL.ints k
theorem map_get {α β γ : Type} {f : α → γ} {g : β → γ} {xs : List α} {ys : List β} (e : xs.map f = ys.map g) {i : Nat} {x : α} (h : xs[i]? = some x) : ∃ y, ys[i]? = some y ∧ f x = g y := by
  have h1 : (xs.map f)[i]? = some (f x) := by rw [List.getElem?_map, h]; rfl
  rw [e, List.getElem?_map] at h1
  cases q : ys[i]? with
  | none => rw [q] at h1; cases h1
  | some y => rw [q] at h1; exact ⟨y, rfl, (Option.some.inj h1).symm⟩
theorem sem_keys {kvs : List (List Key × V)} {kds : List (List Int × D)} {a : Addr} {o : Obj} {R : It → Hp → Prop} (g1 : Grow G H G1 H1) (hG : G1 a = some (.frz o (.dT kvs))) (e : kvs.map Prod.fst = kds.map fun p => kk p.1)
    (q : ∀ (J : It) (Gp : Hp → Prop) (Y : Nat → Hp → V → Hp → Prop) (G1 H1 : Hp), Grow G H G1 H1 → Walk J (kds.map fun p => D.tup (p.1.map D.int)).length Gp Y → (∀ G' H', SL G1 G' → SL G' H' → Gp H') →
      (∀ (i : Nat) (H2 : Hp) (x : V) (H3 G2 : Hp), i < (kds.map fun p => D.tup (p.1.map D.int)).length → SL G1 G2 → SL G2 H2 → Y i H2 x H3 → ∃ G3 d, (kds.map fun p => D.tup (p.1.map D.int))[i]? = some d ∧ Grow G2 H2 G3 H3 ∧ Rep Γ.K Γ.C G3 x d) → R J H1) : R (Itkt a o kvs) H1 := by
  have hl : kvs.length = (kds.map fun p => D.tup (p.1.map D.int)).length := by
    have := congrArg List.length e
    simpa using this
  refine q _ _ _ G1 H1 g1 (hl ▸ walk_keysT) (fun G' H' s1 s2 => ?_) fun i H2 x H3 G2 hi s1 s2 y => ?_
  · exact (s1.trans s2).frz hG
  · obtain ⟨rfl, k, v, qd, hk, rfl, hq⟩ := y
    obtain ⟨p, hp, ek⟩ := map_get e hk
    have ek : k = kk p.1 := ek
    subst ek
    refine ⟨upd G2 qd (.tup ((kk p.1).map kV)), .tup (p.1.map D.int), by rw [List.getElem?_map, hp]; rfl, Grow.key s2 hq, .tup upd_same (kk_rep p.1)⟩
theorem sem_keysI {kvs : List (Key × V)} {kds : List (Int × D)} {a : Addr} {o : Obj} {R : It → Hp → Prop} (g1 : Grow G H G1 H1) (hG : G1 a = some (.frz o (.dK kvs))) (e : kvs.map Prod.fst = kds.map fun p => Sum.inl p.1)
    (q : ∀ (J : It) (Gp : Hp → Prop) (Y : Nat → Hp → V → Hp → Prop) (G1 H1 : Hp), Grow G H G1 H1 → Walk J (kds.map fun p => D.int p.1).length Gp Y → (∀ G' H', SL G1 G' → SL G' H' → Gp H') →
      (∀ (i : Nat) (H2 : Hp) (x : V) (H3 G2 : Hp), i < (kds.map fun p => D.int p.1).length → SL G1 G2 → SL G2 H2 → Y i H2 x H3 → ∃ G3 d, (kds.map fun p => D.int p.1)[i]? = some d ∧ Grow G2 H2 G3 H3 ∧ Rep Γ.K Γ.C G3 x d) → R J H1) : R (Itk a o kvs) H1 := by
  have hl : kvs.length = (kds.map fun p => D.int p.1).length := by
    have := congrArg List.length e
    simpa using this
  refine q _ _ _ G1 H1 g1 (hl ▸ walk_keys) (fun G' H' s1 s2 => ?_) fun i H2 x H3 G2 hi s1 s2 y => ?_
  · exact (s1.trans s2).frz hG
  · obtain ⟨rfl, k, v, hk, rfl⟩ := y
    obtain ⟨p, hp, ek⟩ := map_get e hk
    have ek : k = Sum.inl p.1 := ek
    subst ek
    exact ⟨G2, .int p.1, by rw [List.getElem?_map, hp]; rfl, Grow.refl s2, .int p.1⟩
abbrev iAny (K : PySem.W.Frag) (t : TE) : TI := fun σ H R => (fun σ H R => (fun σ H R => iList K t σ H R ∨ iTup K t σ H R) σ H R ∨ iKeys (tFrz t) σ H R) σ H R ∨ iStr t σ H R
theorem sem_seq {t : TE} {a : Env → Option D} (sa : SemV Γ .e t a) : SemI Γ (iAny Γ.K t) (iseq a) := fun H0 ρ σ G H R items s E e q => by
  unfold iseq at e
  cases ea : a ρ with
  | none => rw [ea] at e; cases e
  | some x =>
    rw [ea] at e
    have e : seqD x = some items := e
    cases x with
    | lst ds =>
      cases e
      refine .inl (.inl (.inl (sa H0 ρ σ G H _ _ s E ea fun G1 H1 v g1 o1 => ?_)))
      have o1 : Rep Γ.K Γ.C G1 v (.lst items) := o1
      cases o1 with
      | lst h1 h2 =>
        rename_i a vs
        refine ⟨a, rfl, ⟨vs, SqL.of (g1.s.lst h1)⟩, q _ _ _ G1 H1 g1 (h2.length ▸ walk_list) (fun G' H' s1 s2 => SqL.of (s2.lst (s1.lst h1))) fun i H2 x H3 G2 hi s1 s2 y => ?_⟩
        obtain ⟨rfl, y⟩ := y
        obtain ⟨d, hd, r⟩ := h2.get' y
        exact ⟨G2, d, hd, Grow.refl s2, r.mono s1⟩
    | tup ds =>
      cases e
      refine .inl (.inl (.inr (sa H0 ρ σ G H _ _ s E ea fun G1 H1 v g1 o1 => ?_)))
      have o1 : Rep Γ.K Γ.C G1 v (.tup items) := o1
      cases o1 with
      | tup h1 h2 =>
        rename_i a vs
        refine ⟨a, rfl, ⟨vs, SqT.of (g1.s.tup h1)⟩, q _ _ _ G1 H1 g1 (h2.length ▸ walk_tup) (fun G' H' s1 s2 => SqT.of (s2.tup (s1.tup h1))) fun i H2 x H3 G2 hi s1 s2 y => ?_⟩
        obtain ⟨rfl, y⟩ := y
        obtain ⟨d, hd, r⟩ := h2.get' y
        exact ⟨G2, d, hd, Grow.refl s2, r.mono s1⟩
    | dct kds =>
      cases e
      refine .inl (.inr (sa H0 ρ σ G H _ _ s E ea fun G1 H1 v g1 o1 => ?_))
      have o1 : Rep Γ.K Γ.C G1 v (.dct kds) := o1
      cases o1 with
      | dct h1 h2 h3 =>
        rename_i a kvs
        rcases h1 with h1 | ⟨o, h1⟩
        · rcases g1.s.dctc (u := _) (by exact True.intro) h1 with h4 | ⟨od, h4⟩
          · exact .inl ⟨a, _, rfl, h4, trivial, fun o => ⟨a, o, rfl, .inr ⟨kvs, upd_same, sem_keys (g1.lock h1 trivial (.inl h4)) upd_same h2 q⟩⟩⟩
          · refine .inr ⟨a, od, rfl, .inr ⟨kvs, h4, ?_⟩⟩
            have g2 := g1.lock (o := od) h1 trivial (.inr h4)
            rw [upd_self h4] at g2
            exact sem_keys g2 upd_same h2 q
        · refine .inr ⟨a, o, rfl, .inr ⟨kvs, ?_, sem_keys g1 h1 h2 q⟩⟩
          exact g1.s.frz h1
    | dci kds =>
      cases e
      refine .inl (.inr (sa H0 ρ σ G H _ _ s E ea fun G1 H1 v g1 o1 => ?_))
      have o1 : Rep Γ.K Γ.C G1 v (.dci kds) := o1
      cases o1 with
      | dci h1 h2 h3 =>
        rename_i a kvs
        rcases h1 with h1 | ⟨o, h1⟩
        · rcases g1.s.dctc (u := _) (by exact True.intro) h1 with h4 | ⟨od, h4⟩
          · exact .inl ⟨a, _, rfl, h4, trivial, fun o => ⟨a, o, rfl, .inl ⟨kvs, upd_same, sem_keysI (g1.lock h1 trivial (.inl h4)) upd_same h2 q⟩⟩⟩
          · refine .inr ⟨a, od, rfl, .inl ⟨kvs, h4, ?_⟩⟩
            have g2 := g1.lock (o := od) h1 trivial (.inr h4)
            rw [upd_self h4] at g2
            exact sem_keysI g2 upd_same h2 q
        · refine .inr ⟨a, o, rfl, .inl ⟨kvs, ?_, sem_keysI g1 h1 h2 q⟩⟩
          exact g1.s.frz h1
    | str z =>
      cases e
      refine .inr (sa H0 ρ σ G H _ _ s E ea fun G1 H1 v g1 o1 => ?_)
      have o1 : Rep Γ.K Γ.C G1 v (.str z) := o1
      cases o1
      have hl : z.cps.size = (z.cps.toList.map fun c => D.str ⟨#[c]⟩).length := by rw [List.length_map, Array.length_toList]
      refine ⟨z, rfl, q _ _ _ G1 H1 g1 (hl ▸ walk_str) (fun G' H' s1 s2 => trivial) fun i H2 x H3 G2 hi s1 s2 y => ?_⟩
      obtain ⟨rfl, c, hc, rfl⟩ := y
      refine ⟨G2, .str ⟨#[c]⟩, ?_, Grow.refl s2, .str _⟩
      rw [List.getElem?_map, Array.getElem?_toList, hc]; rfl
    | _ => cases e
theorem i_seq {tg it : Expr} {a : Env → Option D} (ha : DV Γ N sc .e it a) : DI Γ N sc tg it (iseq a) := by
  obtain ⟨t, p, sa⟩ := ha.ex
  exact ⟨iAny Γ.K t, fun X g => g.K ▸ PI.or (PI.or (PI.or (pi_list (p X g)) (pi_tup (p X g))) (pi_keys (pe_frz (p X g)))) (pi_str (p X g)), sem_seq sa⟩
/-- d.items() -/
def itemsD : D → Option (List D)
  | .dct kds => some (kds.map fun p => .tup [.tup (p.1.map D.int), p.2])
  | _ => none
def iitems (a : Env → Option D) : Env → Option (List D) := fun ρ => (a ρ).bind itemsD
theorem sem_items1 {kvs : List (List Key × V)} {kds : List (List Int × D)} {a : Addr} {o : Obj} {R : It → Hp → Prop} (g1 : Grow G H G1 H1) (hG : G1 a = some (.frz o (.dT kvs))) (e : kvs.map Prod.fst = kds.map fun p => kk p.1)
    (r : RepL Γ.K Γ.C G1 (kvs.map Prod.snd) (kds.map Prod.snd))
    (q : ∀ (J : It) (Gp : Hp → Prop) (Y : Nat → Hp → V → Hp → Prop) (G1 H1 : Hp), Grow G H G1 H1 → Walk J (kds.map fun p => D.tup [.tup (p.1.map D.int), p.2]).length Gp Y → (∀ G' H', SL G1 G' → SL G' H' → Gp H') →
      (∀ (i : Nat) (H2 : Hp) (x : V) (H3 G2 : Hp), i < (kds.map fun p => D.tup [.tup (p.1.map D.int), p.2]).length → SL G1 G2 → SL G2 H2 → Y i H2 x H3 → ∃ G3 d, (kds.map fun p => D.tup [.tup (p.1.map D.int), p.2])[i]? = some d ∧ Grow G2 H2 G3 H3 ∧ Rep Γ.K Γ.C G3 x d) → R J H1) : R (Itit a o kvs) H1 := by
  have hl : kvs.length = (kds.map fun p => D.tup [.tup (p.1.map D.int), p.2]).length := by
    have := congrArg List.length e
    simpa using this
  refine q _ _ _ G1 H1 g1 (hl ▸ walk_itemsT) (fun G' H' s1 s2 => ?_) fun i H2 x H3 G2 hi s1 s2 y => ?_
  · exact (s1.trans s2).frz hG
  · obtain ⟨T, k, v, qd, hk, rfl, hT, rfl, hq⟩ := y
    obtain ⟨p, hp, ek⟩ := map_get e hk
    have ek : k = kk p.1 := ek
    subst ek
    have hv : (kvs.map Prod.snd)[i]? = some v := by rw [List.getElem?_map, hk]; rfl
    obtain ⟨d, hd, rd⟩ := r.get' hv
    rw [List.getElem?_map, hp] at hd
    cases hd
    have g3 : Grow G2 H2 (upd G2 qd (.tup ((kk p.1).map kV))) H2 := Grow.key s2 hq
    have g4 := g3.trans (Grow.new (o := .tup [.ref qd, v]) g3.s hT)
    have hTG : (upd G2 qd (.tup ((kk p.1).map kV))) T = none := g3.s.free hT
    refine ⟨_, .tup [.tup (p.1.map D.int), p.2], by rw [List.getElem?_map, hp]; rfl, g4, .tup upd_same (.cons ?_ (.cons ?_ .nil))⟩
    · exact (Rep.tup (K := Γ.K) (C := Γ.C) (G := upd G2 qd (.tup ((kk p.1).map kV))) upd_same (kk_rep p.1)).mono (SL.new hTG)
    · exact rd.mono (s1.trans g4.g)
theorem sem_items {t : TE} {a : Env → Option D} (sa : SemV Γ .e t a) : SemI Γ (iItemsT (tFrz t)) (iitems a) := fun H0 ρ σ G H R items s E e q => by
  unfold iitems at e
  cases ea : a ρ with
  | none => rw [ea] at e; cases e
  | some x =>
    rw [ea] at e
    have e : itemsD x = some items := e
    cases x with
    | dct kds =>
      cases e
      refine sa H0 ρ σ G H _ _ s E ea fun G1 H1 v g1 o1 => ?_
      have o1 : Rep Γ.K Γ.C G1 v (.dct kds) := o1
      cases o1 with
      | dct h1 h2 h3 =>
        rename_i a kvs
        rcases h1 with h1 | ⟨o, h1⟩
        · rcases g1.s.dctc (u := _) (by exact True.intro) h1 with h4 | ⟨od, h4⟩
          · refine .inl ⟨a, _, rfl, h4, trivial, fun o => ⟨a, o, kvs, rfl, upd_same, ?_⟩⟩
            have g2 := g1.lock (o := o) h1 trivial (.inl h4)
            have sG : SL G1 (upd G1 a (.frz o (.dT kvs))) := ((Grow.refl g1.s).lock (o := o) h1 trivial (.inl h4)).g
            exact sem_items1 g2 upd_same h2 (h3.mono sG) q
          · refine .inr ⟨a, od, kvs, rfl, h4, ?_⟩
            have g2 := g1.lock (o := od) h1 trivial (.inr h4)
            have sG : SL G1 (upd G1 a (.frz od (.dT kvs))) := ((Grow.refl g1.s).lock (o := od) h1 trivial (.inr h4)).g
            rw [upd_self h4] at g2
            exact sem_items1 g2 upd_same h2 (h3.mono sG) q
        · refine .inr ⟨a, o, kvs, rfl, ?_, sem_items1 g1 h1 h2 h3 q⟩
          exact g1.s.frz h1
    | _ => cases e
theorem i_items {e : Expr} {a : Env → Option D} {apos cpos : Pos} {elts : List Expr} {k1 : Nat} {tpos : Pos} (ha : DV Γ N sc .e e a) (hb : ∀ env : PySem.Env, attributeBase e "items" env (eval e env) = eval e env := by exact fun _ => rfl) (hl : (apos.endLine == cpos.line) = true := by rfl) :
    DI Γ N sc (.Tuple elts k1 tpos) (.Call (.Attribute e "items" apos) [] [] cpos) (iitems a) := by
  obtain ⟨t, p, sa⟩ := ha.ex
  exact ⟨_, fun X g => pi_itemsT (pe_frz (p X g)) (hb _) hl, sem_items sa⟩
/-- range -/
def rangeL (lo hi : Int) : List D := (List.range (hi - lo).toNat).map fun i => .int (lo + (i : Nat))
def irange1 (a : Env → Option D) : Env → Option (List D) := fun ρ => (a ρ).bind fun x => match x with
  | .int j => if -(2 ^ 40) ≤ j ∧ j < 2 ^ 40 then some (rangeL 0 j) else none
  | _ => none
def irange2 (a b : Env → Option D) : Env → Option (List D) := fun ρ => (a ρ).bind fun x => (b ρ).bind fun y => match x, y with
  | .int i, .int j => if -(2 ^ 40) ≤ i ∧ i < 2 ^ 40 ∧ -(2 ^ 40) ≤ j ∧ j < 2 ^ 40 then some (rangeL i j) else none
  | _, _ => none
theorem sem_range {lo : Int} {n : Nat} {R : It → Hp → Prop} {items : List D} (g1 : Grow G H G1 H1) (hl : items = (List.range n).map fun i => D.int (lo + (i : Nat)))
    (q : ∀ (J : It) (Gp : Hp → Prop) (Y : Nat → Hp → V → Hp → Prop) (G1 H1 : Hp), Grow G H G1 H1 → Walk J items.length Gp Y → (∀ G' H', SL G1 G' → SL G' H' → Gp H') →
      (∀ (i : Nat) (H2 : Hp) (x : V) (H3 G2 : Hp), i < items.length → SL G1 G2 → SL G2 H2 → Y i H2 x H3 → ∃ G3 d, items[i]? = some d ∧ Grow G2 H2 G3 H3 ∧ Rep Γ.K Γ.C G3 x d) → R J H1) : R (Itr lo n) H1 := by
  subst hl
  have hn : n = ((List.range n).map fun i => D.int (lo + (i : Nat))).length := by rw [List.length_map, List.length_range]
  have w : Walk (Itr lo n) ((List.range n).map fun i => D.int (lo + (i : Nat))).length (fun _ => True) (YFn fun i => .int (lo + (i : Nat))) := by
    have := walk_range (lo := lo) (n := n)
    rwa [← hn]
  refine q _ _ _ G1 H1 g1 w (fun G' H' s1 s2 => trivial) fun i H2 x H3 G2 hi s1 s2 y => ?_
  obtain ⟨rfl, rfl⟩ := y
  refine ⟨G2, .int (lo + (i : Nat)), ?_, Grow.refl s2, .int _⟩
  rw [← hn] at hi
  rw [List.getElem?_map, List.getElem?_range hi]; rfl
theorem i_range1 {tg e : Expr} {a : Env → Option D} {p pos : Pos} (hg : glB sc "range" = true) (hm : Γ.mg "range" = none) (ha : DV Γ N sc κ e a) (hs : Pl1 e [] := by exact fun _ => rfl) : DI Γ N sc tg (.Call (.Name "range" p) [e] [] pos) (irange1 a) := by
  obtain ⟨t, pt, sa⟩ := ha.ex
  refine ⟨_, fun X g => pi_range1 (gl_of g hg) (by rw [g.mg]; exact hm) (pa_cons (pt X g) pa_nil (hs _)) (hs _), fun H0 ρ σ G H R items s E e q => ?_⟩
  unfold irange1 at e
  cases ea : a ρ with
  | none => rw [ea] at e; cases e
  | some x =>
    rw [ea] at e
    cases x <;> try cases e
    rename_i j
    have e : (if -(2 ^ 40) ≤ j ∧ j < 2 ^ 40 then some (rangeL 0 j) else none) = some items := e
    split at e
    · rename_i hc
      cases e
      refine sa H0 ρ σ G H _ _ s E ea fun G1 H1 v g1 o1 => ⟨j, by rw [o1.b.int], by omega, by omega, sem_range g1 (by unfold rangeL; rw [Int.sub_zero]) q⟩
    · cases e
theorem i_range2 {tg e e2 : Expr} {a b : Env → Option D} {p pos : Pos} (hg : glB sc "range" = true) (hm : Γ.mg "range" = none) (ha : DV Γ N sc κ1 e a) (hb : DV Γ N sc κ2 e2 b) (hs : Pl1 e [e2] := by exact fun _ => rfl) (hs2 : Pl1 e2 [] := by exact fun _ => rfl) : DI Γ N sc tg (.Call (.Name "range" p) [e, e2] [] pos) (irange2 a b) := by
  obtain ⟨t, pt, sa⟩ := ha.ex
  obtain ⟨t2, pt2, sb⟩ := hb.ex
  refine ⟨_, fun X g => pi_range2 (gl_of g hg) (by rw [g.mg]; exact hm) (pa_cons (pt X g) (pa_cons (pt2 X g) pa_nil (hs2 _)) (hs _)) (by rw [hs, hs2]; rfl) (hs2 _), fun H0 ρ σ G H R items s E e q => ?_⟩
  unfold irange2 at e
  cases ea : a ρ with
  | none => rw [ea] at e; cases e
  | some x =>
    cases eb : b ρ with
    | none => simp only [ea, eb, Option.bind_some] at e; cases e
    | some y =>
      simp only [ea, eb, Option.bind_some] at e
      split at e
      · rename_i i j
        split at e
        · rename_i hc
          cases e
          refine sa H0 ρ σ G H _ _ s E ea fun G1 H1 v g1 o1 => ?_
          refine sb H0 ρ σ G1 H1 _ _ g1.s (E.grow g1) eb fun G2 H2 w g2 o2 => ?_
          exact ⟨i, j, by rw [o1.b.int, o2.b.int], by omega, sem_range (g1.trans g2) rfl q⟩
        · cases e
      · cases e
/-- enumerate, zip -/
def numL (ds : List D) (k : Nat) : List D := match ds with
  | [] => []
  | d :: r => .tup [.int (k : Int), d] :: numL r (k + 1)
theorem numL_length : ∀ (ds : List D) (k : Nat), (numL ds k).length = ds.length
  | [], _ => rfl
  | _ :: r, k => congrArg (· + 1) (numL_length r (k + 1))
theorem numL_get : ∀ (ds : List D) (k i : Nat), (numL ds k)[i]? = (ds[i]?).map fun d => D.tup [.int ((k + i : Nat) : Int), d]
  | [], _, _ => by simp [numL]
  | d :: r, k, 0 => by simp [numL]
  | d :: r, k, i + 1 => by
    show (numL r (k + 1))[i]? = _
    rw [numL_get r (k + 1) i, show k + 1 + i = k + (i + 1) by omega]
    rfl
def enumD : D → Option (List D)
  | .lst ds => some (numL ds 0)
  | .tup ds => some (numL ds 0)
  | _ => none
def ienum (a : Env → Option D) : Env → Option (List D) := fun ρ => (a ρ).bind enumD
theorem pair_step {G2 H2 : Hp} {T : Addr} {x y : V} {dx dy : D} (s2 : SL G2 H2) (hT : H2 T = none) (r1 : Rep Γ.K Γ.C G2 x dx) (r2 : Rep Γ.K Γ.C G2 y dy) : Grow G2 H2 (upd G2 T (.tup [x, y])) (upd H2 T (.tup [x, y])) ∧ Rep Γ.K Γ.C (upd G2 T (.tup [x, y])) (.ref T) (.tup [dx, dy]) :=
  ⟨Grow.new s2 hT, .tup upd_same (.cons (r1.mono (SL.new (s2.free hT))) (.cons (r2.mono (SL.new (s2.free hT))) .nil))⟩
theorem i_enum {e : Expr} {a : Env → Option D} {p pos : Pos} {elts : List Expr} {k1 : Nat} {tpos : Pos} (hg : glB sc "enumerate" = true) (hm : Γ.mg "enumerate" = none) (ha : DV Γ N sc .e e a) (hs : Pl1 e [] := by exact fun _ => rfl) :
    DI Γ N sc (.Tuple elts k1 tpos) (.Call (.Name "enumerate" p) [e] [] pos) (ienum a) := by
  obtain ⟨t, pt, sa⟩ := ha.ex
  refine ⟨fun σ H R => iEnum Γ.K (tCons t tNil) σ H R ∨ iEnumT Γ.K (tCons t tNil) σ H R, fun X g => g.K ▸ PI.or (pi_enum (gl_of g hg) (by rw [g.mg]; exact hm) (pa_cons (pt X g) pa_nil (hs _)) (hs _)) (pi_enumT (gl_of g hg) (by rw [g.mg]; exact hm) (pa_cons (pt X g) pa_nil (hs _)) (hs _)), fun H0 ρ σ G H R items s E e q => ?_⟩
  unfold ienum at e
  cases ea : a ρ with
  | none => rw [ea] at e; cases e
  | some x =>
    rw [ea] at e
    cases x <;> try cases e
    · rename_i ds
      refine .inr (sa H0 ρ σ G H _ _ s E ea fun G1 H1 v g1 o1 => ?_)
      have o1 : Rep Γ.K Γ.C G1 v (.tup ds) := o1
      cases o1 with
      | tup h1 h2 =>
        rename_i a vs
        refine ⟨a, vs, rfl, SqT.of (g1.s.tup h1), q _ _ _ G1 H1 g1 (by rw [numL_length, ← h2.length]; exact walk_enumT) (fun G' H' s1 s2 => SqT.of (s2.tup (s1.tup h1))) fun i H2 x H3 G2 hi s1 s2 y => ?_⟩
        obtain ⟨T, x1, x2, rfl, hT, rfl, e1, e2⟩ := y
        cases e1
        obtain ⟨d, hd, r⟩ := h2.get' e2
        obtain ⟨g3, r3⟩ := pair_step s2 hT (.int (i : Nat)) (r.mono s1)
        exact ⟨_, _, by rw [numL_get, hd, Nat.zero_add]; rfl, g3, r3⟩
    · rename_i ds
      refine .inl (sa H0 ρ σ G H _ _ s E ea fun G1 H1 v g1 o1 => ?_)
      have o1 : Rep Γ.K Γ.C G1 v (.lst ds) := o1
      cases o1 with
      | lst h1 h2 =>
        rename_i a vs
        refine ⟨a, vs, rfl, SqL.of (g1.s.lst h1), q _ _ _ G1 H1 g1 (by rw [numL_length, ← h2.length]; exact walk_enum) (fun G' H' s1 s2 => SqL.of (s2.lst (s1.lst h1))) fun i H2 x H3 G2 hi s1 s2 y => ?_⟩
        obtain ⟨T, x1, x2, rfl, hT, rfl, e1, e2⟩ := y
        cases e1
        obtain ⟨d, hd, r⟩ := h2.get' e2
        obtain ⟨g3, r3⟩ := pair_step s2 hT (.int (i : Nat)) (r.mono s1)
        exact ⟨_, _, by rw [numL_get, hd, Nat.zero_add]; rfl, g3, r3⟩
def zipL : List D → List D → List D
  | x :: xs, y :: ys => .tup [x, y] :: zipL xs ys
  | _, _ => []
theorem zipL_length : ∀ (xs ys : List D), (zipL xs ys).length = min xs.length ys.length
  | [], _ => by simp [zipL]
  | _ :: _, [] => by simp [zipL]
  | x :: xs, y :: ys => by simp [zipL, zipL_length xs ys]
theorem zipL_get : ∀ {xs ys : List D} {i : Nat} {x y : D}, xs[i]? = some x → ys[i]? = some y → (zipL xs ys)[i]? = some (.tup [x, y])
  | [], _, _, _, _, h, _ => by simp at h
  | _ :: _, [], _, _, _, _, h => by simp at h
  | a :: xs, b :: ys, 0, x, y, h1, h2 => by simp at h1 h2; subst h1; subst h2; rfl
  | a :: xs, b :: ys, i + 1, x, y, h1, h2 => zipL_get (xs := xs) (ys := ys) (by simpa using h1) (by simpa using h2)
def izip (a b : Env → Option D) : Env → Option (List D) := fun ρ => (a ρ).bind fun x => (b ρ).bind fun y => match x, y with
  | .lst xs, .lst ys => some (zipL xs ys)
  | _, _ => none
theorem i_zip {e e2 : Expr} {a b : Env → Option D} {p pos : Pos} {elts : List Expr} {k1 : Nat} {tpos : Pos} (hg : glB sc "zip" = true) (hm : Γ.mg "zip" = none) (ha : DV Γ N sc .e e a) (hb : DV Γ N sc .e e2 b) (hs : Pl1 e [e2] := by exact fun _ => rfl) (hs2 : Pl1 e2 [] := by exact fun _ => rfl) :
    DI Γ N sc (.Tuple elts k1 tpos) (.Call (.Name "zip" p) [e, e2] [] pos) (izip a b) := by
  obtain ⟨t, pt, sa⟩ := ha.ex
  obtain ⟨t2, pt2, sb⟩ := hb.ex
  refine ⟨iZip Γ.K (tCons t (tCons t2 tNil)), fun X g => g.K ▸ pi_zip (gl_of g hg) (by rw [g.mg]; exact hm) (pa_cons (pt X g) (pa_cons (pt2 X g) pa_nil (hs2 _)) (hs _)) (hs _) (by rw [hs2]; rfl), fun H0 ρ σ G H R items s E e q => ?_⟩
  unfold izip at e
  cases ea : a ρ with
  | none => rw [ea] at e; cases e
  | some x =>
    cases eb : b ρ with
    | none => simp only [ea, eb, Option.bind_some] at e; cases e
    | some y =>
      simp only [ea, eb, Option.bind_some] at e
      split at e
      case h_2 => cases e
      rename_i xs ys
      cases e
      refine sa H0 ρ σ G H _ _ s E ea fun G1 H1 v g1 o1 => ?_
      have o1 : Rep Γ.K Γ.C G1 v (.lst xs) := o1
      cases o1 with
      | lst h1 h2 =>
        rename_i a vs
        refine sb H0 ρ σ G1 H1 _ _ g1.s (E.grow g1) eb fun G2 H2 w g2 o2 => ?_
        have o2 : Rep Γ.K Γ.C G2 w (.lst ys) := o2
        cases o2 with
        | lst h3 h4 =>
          rename_i b ws
          have h1' := g2.g.lst h1
          have h2' := h2.mono g2.g
          refine ⟨a, b, vs, ws, rfl, SqL.of (g2.s.lst h1'), SqL.of (g2.s.lst h3), q _ _ _ G2 H2 (g1.trans g2) (walk_zip (by rw [zipL_length, h2'.length, h4.length])) (fun G' H' s1 s2 => ⟨SqL.of (s2.lst (s1.lst h1')), SqL.of (s2.lst (s1.lst h3))⟩) fun i H3 x H4 G3 hi s1 s2 y => ?_⟩
          obtain ⟨T, x1, x2, rfl, hT, rfl, e1, e2⟩ := y
          obtain ⟨d1, hd1, r1⟩ := h2'.get' e1
          obtain ⟨d2, hd2, r2⟩ := h4.get' e2
          obtain ⟨g5, r5⟩ := pair_step s2 hT (r1.mono s1) (r2.mono s1)
          exact ⟨_, _, zipL_get hd1 hd2, g5, r5⟩
end
end Pv
set_option Elab.async false
set_option linter.all false
set_option maxRecDepth 100000
set_option maxHeartbeats 4000000
set_option autoImplicit false
namespace Pv
variable [TabT]
open PySem PySem.Spec PyProof.Rows L2
section
variable {Γ : Gam} {N : List Str} {sc : Scope} {κ κ1 κ2 κ3 : Kd} {G H G' H' G1 H1 : Hp} {v : V} {d : D}
/-! ### targets -/
def setL (σ : L2.St) : List Nat → List V → L2.St
  | i :: is, v :: vs => setL (σ.set i (some v)) is vs
  | _, _ => σ
def setE (ρ : Env) : List Nat → List D → Env
  | i :: is, d :: ds => setE (ρ.set i (.sh d)) is ds
  | _, _ => ρ
/-- one name, or as many as a tuple has items -/
inductive Pat where
  | one (i : Nat)
  | tup (is : List Nat)
def Pat.is : Pat → List Nat
  | .one i => [i]
  | .tup is => is
def bindP (p : Pat) (d : D) (ρ : Env) : Option Env := match p, d with
  | .one i, d => some (ρ.set i (.sh d))
  | .tup is, .tup ds => if ds.length = is.length then some (setE ρ is ds) else none
  | _, _ => none
def SemG (Γ : Gam) (g : TG) (p : Pat) : Prop := ∀ (H0 : Hp) (ρ ρ' : Env) (σ : L2.St) (G H : Hp) (v : V) (d : D) (Q : L2.St → Hp → Prop), SL G H → EnvOk Γ H0 G H ρ σ → bindP p d ρ = some ρ' → Rep Γ.K Γ.C G v d →
  (∀ vs, EnvOk Γ H0 G H ρ' (setL σ p.is vs) → Q (setL σ p.is vs) H) → g v σ H Q
structure DG (Γ : Gam) (N : List Str) (sc : Scope) (top : Bool) (tg : Expr) (p : Pat) : Prop where
  ex : ∃ g, (∀ X, Good Γ N sc X → (top = true → ∀ x, X.fn x = true) → PG X tg g) ∧ SemG Γ g p
structure DGs (Γ : Gam) (N : List Str) (sc : Scope) (top : Bool) (tgs : List Expr) (is : List Nat) : Prop where
  ex : ∃ g, (∀ X, Good Γ N sc X → (top = true → ∀ x, X.fn x = true) → PGs X tgs g) ∧ ∀ (H0 : Hp) (ρ : Env) (σ : L2.St) (G H : Hp) (vs : List V) (ds : List D) (Q : L2.St → Hp → Prop), SL G H → EnvOk Γ H0 G H ρ σ → ds.length = is.length → RepL Γ.K Γ.C G vs ds →
    (EnvOk Γ H0 G H (setE ρ is ds) (setL σ is vs) → Q (setL σ is vs) H) → g vs σ H Q
/-- top: in a def's own block any name; else a plain local -/
def bndB (sc : Scope) (top : Bool) (x : Str) : Bool := if top then locB sc x else lclB sc x
theorem pg_nm {top : Bool} {X : Cx} {i : Nat} {x : Str} {pos : Pos} (g : Good Γ N sc X) (nd : N.Nodup) (hN : N[i]? = some x) (hb : bndB sc top x = true) (ht : top = true → ∀ x, X.fn x = true) : PG X (.Name x pos) (gName i) := by
  cases top with
  | true =>
    have hb : locB sc x = true := hb
    exact pg_name (by rw [g.N]; exact nd) (by rw [g.N]; exact hN) (by rw [g.sc]; exact loc_of hb) (.inl (ht rfl x))
  | false =>
    have hb : lclB sc x = true := hb
    have hl := lcl_of hb
    exact pg_name (by rw [g.N]; exact nd) (by rw [g.N]; exact hN) (by rw [g.sc]; exact .inl hl) (.inr (by rw [g.sc]; exact hl))
theorem g_one {top : Bool} {i : Nat} {x : Str} {pos : Pos} (nd : N.Nodup) (hN : N[i]? = some x) (hb : bndB sc top x = true) : DG Γ N sc top (.Name x pos) (.one i) := by
  refine ⟨gName i, fun X g ht => pg_nm g nd hN hb ht, fun H0 ρ ρ' σ G H v d Q s E e r q => ?_⟩
  cases e
  exact q [v] (E.setSh r)
theorem gs_nil {top : Bool} : DGs Γ N sc top [] [] := ⟨gNil, fun X _ _ => pgs_nil, fun H0 ρ σ G H vs ds Q s E hl r q => by
  cases ds with
  | nil => cases r; exact ⟨rfl, q E⟩
  | cons _ _ => cases hl⟩
theorem gs_cons {top : Bool} {i : Nat} {is : List Nat} {x : Str} {pos : Pos} {tgs : List Expr} (nd : N.Nodup) (hN : N[i]? = some x) (hb : bndB sc top x = true) (h : DGs Γ N sc top tgs is)
    (hs : ∀ env : PySem.Env, (assignEach (.Name x pos :: tgs) env).map (·.2) = assign (.Name x pos) env :: (assignEach tgs env).map (·.2) := by exact fun _ => rfl) : DGs Γ N sc top (.Name x pos :: tgs) (i :: is) := by
  obtain ⟨g, p, sm⟩ := h.ex
  refine ⟨gCons (gName i) g, fun X gX ht => pgs_cons (pg_nm gX nd hN hb ht) (p X gX ht) (hs _), fun H0 ρ σ G H vs ds Q s E hl r q => ?_⟩
  cases r with
  | nil => cases hl
  | cons r1 r2 => exact ⟨_, _, rfl, sm H0 _ _ G H _ _ Q s (E.setSh r1) (Nat.succ.inj hl) r2 q⟩
theorem g_tup {top : Bool} {is : List Nat} {es : List Expr} {k : Nat} {pos : Pos} (h : DGs Γ N sc top es is) (hn : ∀ env : PySem.Env, (assignEach es env).length = is.length := by exact fun _ => rfl) (hst : ∀ env : PySem.Env, (assignEach es env).findIdx? (·.1) = none := by exact fun _ => rfl) :
    DG Γ N sc top (.Tuple es k pos) (.tup is) := by
  obtain ⟨g, p, sm⟩ := h.ex
  refine ⟨gTup Γ.K is.length g, fun X gX ht => gX.K ▸ pg_tup gX.calm (p X gX ht) (hn _) (hst _), fun H0 ρ ρ' σ G H v d Q s E e r q => ?_⟩
  cases d <;> try cases e
  rename_i ds
  have e : (if ds.length = is.length then some (setE ρ is ds) else none) = some ρ' := e
  split at e
  · rename_i hl
    cases e
    cases r with
    | tup h1 h2 => exact ⟨_, _, rfl, SqT.of (s.tup h1), h2.length.trans hl, sm H0 ρ σ G H _ ds Q s E hl h2 fun E' => q _ E'⟩
  · cases e
/-! ### comprehensions -/
def wipeE (ρ : Env) : List Nat → Env
  | [] => ρ
  | v :: vs => (wipeE ρ vs).set v .no
theorem EnvOk.setNo {H0 : Hp} {ρ : Env} {σ : L2.St} (E : EnvOk Γ H0 G H ρ σ) (i : Nat) : EnvOk Γ H0 G H (ρ.set i .no) (σ.set i none) := by
  have hget : ∀ {j s}, (ρ.set i .no)[j]? = some s → s = .no ∨ (j ≠ i ∧ ρ[j]? = some s) := fun {j s} h => by
    by_cases hj : i = j
    · subst hj
      by_cases hl : i < ρ.length
      · rw [List.getElem?_set_self hl] at h; cases h; exact .inl rfl
      · rw [List.getElem?_eq_none (by simpa using hl)] at h; cases h
    · rw [List.getElem?_set_ne hj] at h
      exact .inr ⟨Ne.symm hj, h⟩
  refine ⟨by rw [List.length_set, List.length_set]; exact E.len, fun j s h => ?_, fun j k d1 d2 a h1 h2 h3 h4 h5 => ?_, E.tb⟩
  · rcases hget h with rfl | ⟨hj, h⟩
    · trivial
    · rw [List.getElem?_set_ne (Ne.symm hj)]; exact E.sl j s h
  · rcases hget h2 with e | ⟨hj, h2'⟩
    · cases e
    · rcases hget h3 with e | ⟨hk, h3'⟩
      · cases e
      · rw [List.getElem?_set_ne (Ne.symm hj)] at h4
        rw [List.getElem?_set_ne (Ne.symm hk)] at h5
        exact E.ne j k d1 d2 a h1 h2' h3' h4 h5
theorem EnvOk.wipe {H0 : Hp} {ρ : Env} {σ : L2.St} (E : EnvOk Γ H0 G H ρ σ) : ∀ vs : List Nat, EnvOk Γ H0 G H (wipeE ρ vs) (wipe σ vs)
  | [] => E
  | v :: vs => (E.wipe vs).setNo v
theorem wipe_set {x : Option V} : ∀ (vs : List Nat) (σ : L2.St) (i : Nat), i ∈ vs → wipe (σ.set i x) vs = wipe σ vs
  | [], _, _, h => by cases h
  | v :: vs, σ, i, h => by
    show (wipe (σ.set i x) vs).set v none = (wipe σ vs).set v none
    by_cases hi : i ∈ vs
    · rw [wipe_set vs σ i hi]
    · have e : i = v := by
        rcases List.mem_cons.mp h with e | e
        · exact e
        · exact absurd e hi
      subst e
      have go : ∀ (us : List Nat) (τ : L2.St), i ∉ us → wipe (τ.set i x) us = (wipe τ us).set i x := fun us => by
        induction us with
        | nil => intro τ _; rfl
        | cons u us ih =>
          intro τ hn
          show (wipe (τ.set i x) us).set u none = ((wipe τ us).set u none).set i x
          rw [ih τ fun z => hn (List.mem_cons_of_mem _ z), List.set_comm _ _ (show i ≠ u from fun z => hn (by rw [z]; exact List.mem_cons_self))]
      rw [go vs σ hi, List.set_set]
theorem wipe_setL : ∀ (is : List Nat) (xs : List V) (σ : L2.St) (vs : List Nat), (∀ i ∈ is, i ∈ vs) → wipe (setL σ is xs) vs = wipe σ vs
  | [], _, _, _, _ => rfl
  | _ :: _, [], _, _, _ => rfl
  | i :: is, x :: xs, σ, vs, h => by
    show wipe (setL (σ.set i (some x)) is xs) vs = _
    rw [wipe_setL is xs _ vs fun j hj => h j (List.mem_cons_of_mem _ hj), wipe_set vs σ i (h i List.mem_cons_self)]
theorem wipe_wipe (σ : L2.St) (vs : List Nat) : ∀ us : List Nat, (∀ i ∈ us, i ∈ vs) → wipe (wipe σ us) vs = wipe σ vs
  | [], _ => rfl
  | u :: us, h => by
    show wipe ((wipe σ us).set u none) vs = _
    rw [wipe_set vs _ u (h u List.mem_cons_self), wipe_wipe σ vs us fun j hj => h j (List.mem_cons_of_mem _ hj)]
structure DTs (Γ : Gam) (N : List Str) (sc : Scope) (es : List Expr) (F : Env → Option Bool) : Prop where
  ex : ∃ t, (∀ X, Good Γ N sc X → PTs X es t) ∧ SemT Γ t F
def tyes : Env → Option Bool := fun _ => some true
theorem ts_nil : DTs Γ N sc [] tyes := ⟨tYes, fun X _ => pts_nil, fun H0 ρ σ G H Q c s E e q => by cases e; exact q G H (Grow.refl s)⟩
theorem ts_one {e : Expr} {a : Env → Option Bool} (h : DT Γ N sc e a) : DTs Γ N sc [e] a := let ⟨t, p, s⟩ := h.ex; ⟨t, fun X g => pts_one (p X g), s⟩
def lcGo (p : Pat) (T : Env → Option Bool) (E : Env → Option D) (ρ : Env) : List D → Option (List D)
  | [] => some []
  | x :: xs => (bindP p x ρ).bind fun ρ1 => (T ρ1).bind fun c => if c then (E ρ1).bind fun y => (lcGo p T E ρ xs).bind fun ys => some (y :: ys) else lcGo p T E ρ xs
def lcF (vs : List Nat) (I : Env → Option (List D)) (p : Pat) (T : Env → Option Bool) (E : Env → Option D) : Env → Option D := fun ρ => (I ρ).bind fun items => (lcGo p T E (wipeE ρ vs) items).bind fun out => if items.length < big then some (.lst out) else none
theorem Grow.updH {a : Addr} {o : HO} (g : Grow G H G' H') (g0 : G' a = none) (h0 : H a = none) (hc : ∀ c q, H' a ≠ some (LamX.CodeO c q)) : Grow G H G' (upd H' a o) := by
  refine ⟨g.g, fun b w e => ?_, fun b w e => ?_, g.n, fun b w h1 h2 h3 => ?_, fun t => (g.t t).own (fun p hp z => by obtain ⟨ps, e, _⟩ := t p hp; rw [z, h0] at e; cases e) hc⟩
  · rw [upd_ne (ne_of_none e h0)]; exact g.h b w e
  · rw [upd_ne (ne_of_none e g0)]; exact g.s b w e
  · rw [upd_ne (ne_of_none h2 h0)]; exact g.x b w h1 h2 h3
theorem Grow.keep {a : Addr} {vs : List V} (g : Grow G H G' H') (h : H a = some (.lst vs)) (h0 : G a = none) : G' a = none := by
  by_cases q : G' a = none
  · exact q
  · rcases g.n a h0 q with e | ⟨ws, e⟩ | ⟨c, q', e⟩
    · rw [h] at e; cases e
    · rw [h] at e; cases e
    · exact absurd e (noC_lst h c q')
structure DL (Γ : Gam) (N : List Str) (sc : Scope) (e : Expr) (F : Env → Option D) : Prop where
  ex : ∃ t, (∀ X, Good Γ N sc X → PE X e t ∧ ∀ (i : Nat) (y : Str) (py : Pos) (spos : Pos), N[i]? = some y → X.env.scope.names.lookup y = some .local → swapsWith e (some (.Name y py)) spos.line X.env = pure true → PS X (.Assign [.Name y py] e spos) (tAsg t (gName i))) ∧ SemV Γ .f t F
theorem DL.f {e : Expr} {F : Env → Option D} (h : DL Γ N sc e F) : DV Γ N sc .f e F := let ⟨t, p, s⟩ := h.ex; ⟨t, fun X g => (p X g).1, s⟩
theorem sem_lc {wi : TI} {I : Env → Option (List D)} {g : TG} {p : Pat} {tt : TT} {T : Env → Option Bool} {te : TE} {E : Env → Option D} {vs : List Nat} (si : SemI Γ wi I) (sg : SemG Γ g p) (hp : ∀ i ∈ p.is, i ∈ vs) (st : SemT Γ tt T) (se : SemV Γ .e te E) :
    SemV Γ .f (tLc wi g tt te vs) (lcF vs I p T E) := fun H0 ρ σ G H Q d s Ev e q => by
  unfold lcF at e
  cases ei : I ρ with
  | none => rw [ei] at e; cases e
  | some items =>
    simp only [ei, Option.bind_some] at e
    cases eo : lcGo p T E (wipeE ρ vs) items with
    | none => rw [eo] at e; cases e
    | some out =>
      simp only [eo, Option.bind_some] at e
      split at e
      · rename_i hbig
        cases e
        refine si H0 ρ σ G H _ items s Ev ei fun J Gp Y G1 H1 g1 wk hGp hY => fun Dl hD => ?_
        have hDH : H Dl = none := g1.h.free hD
        refine lc_it wk (fun i H' => ∃ G' acc o1 o2, lcGo p T E (wipeE ρ vs) (items.drop i) = some o2 ∧ o1 ++ o2 = out ∧ o1.length ≤ i ∧ Grow G H G' H' ∧ SL G1 G' ∧ G' Dl = none ∧ H' Dl = some (.lst acc) ∧ RepL Γ.K Γ.C G' acc o1)
          ⟨G1, [], [], out, by rw [List.drop_zero]; exact eo, rfl, Nat.zero_le _, g1.updH (g1.s.free hD) hDH (noC_n hD), SL.refl _, g1.s.free hD, upd_same, .nil⟩ (fun i H' _ h => ?_) (fun i x H2 H3 hi h y => ?_) fun H' h => ?_
        · obtain ⟨G', acc, o1, o2, _, _, _, g2, s1, _⟩ := h
          exact hGp G' H' s1 g2.s
        · obtain ⟨G2, acc, o1, o2, h1, h2, h3, g2, s2, hG2, hH2, r2⟩ := h
          obtain ⟨G3, d, hd, g3, r3⟩ := hY i H2 x H3 G2 hi s2 g2.s y
          have hG3 : G3 Dl = none := g3.keep hH2 hG2
          have hH3 : H3 Dl = some (.lst acc) := g3.x _ _ hG2 hH2 fun _ z => nomatch z
          have g23 := g2.trans g3
          have hdrop : items.drop i = d :: items.drop (i + 1) := by
            obtain ⟨hl, e1⟩ := List.getElem?_eq_some_iff.mp hd
            rw [List.drop_eq_getElem_cons hl, e1]
          rw [hdrop] at h1
          have h1 : ((bindP p d (wipeE ρ vs)).bind fun ρ1 => (T ρ1).bind fun c => if c then (E ρ1).bind fun y => (lcGo p T E (wipeE ρ vs) (items.drop (i + 1))).bind fun ys => some (y :: ys) else lcGo p T E (wipeE ρ vs) (items.drop (i + 1))) = some o2 := h1
          cases eb : bindP p d (wipeE ρ vs) with
          | none => rw [eb] at h1; cases h1
          | some ρ1 =>
            simp only [eb, Option.bind_some] at h1
            cases et : T ρ1 with
            | none => rw [et] at h1; cases h1
            | some c =>
              simp only [et, Option.bind_some] at h1
              refine sg H0 _ ρ1 (wipe σ vs) G3 H3 x d _ g3.s ((Ev.wipe vs).grow g23) eb r3 fun xs E1 => ⟨?_, ?_⟩
              · rw [wipe_setL _ _ _ _ hp, wipe_wipe σ vs vs fun _ h => h]
              · refine st H0 ρ1 _ G3 H3 _ c g3.s E1 et fun G4 H4 g4 => ?_
                have hG4 : G4 Dl = none := g4.keep hH3 hG3
                have hH4 : H4 Dl = some (.lst acc) := g4.x _ _ hG3 hH3 fun _ z => nomatch z
                cases c with
                | false =>
                  rw [if_neg Bool.false_ne_true]
                  exact ⟨G4, acc, o1, o2, h1, h2, Nat.le_succ_of_le h3, g23.trans g4, s2.trans (g3.g.trans g4.g), hG4, hH4, r2.mono (g3.g.trans g4.g)⟩
                | true =>
                  rw [if_pos rfl]
                  rw [if_pos rfl] at h1
                  cases ey : E ρ1 with
                  | none => rw [ey] at h1; cases h1
                  | some y =>
                    simp only [ey, Option.bind_some] at h1
                    cases er : lcGo p T E (wipeE ρ vs) (items.drop (i + 1)) with
                    | none => rw [er] at h1; cases h1
                    | some ys =>
                      rw [er] at h1
                      cases h1
                      refine se H0 ρ1 _ G4 H4 _ y g4.s (E1.grow g4) ey fun G5 H5 yv g5 o5 => ?_
                      have hG5 : G5 Dl = none := g5.keep hH4 hG4
                      have hH5 : H5 Dl = some (.lst acc) := g5.x _ _ hG4 hH4 fun _ z => nomatch z
                      have s25 : SL G2 G5 := (g3.g.trans g4.g).trans g5.g
                      refine ⟨acc, hH5, ?_, G5, acc ++ [yv], o1 ++ [y], ys, rfl, by rw [← h2, List.append_assoc]; rfl, by rw [List.length_append]; show o1.length + 1 ≤ i + 1; omega, ((g23.trans g4).trans g5).updH hG5 hDH (noC_lst hH5), s2.trans s25, hG5, upd_same, (r2.mono s25).app (.cons o5 .nil)⟩
                      rw [r2.length]
                      exact big_lt (by omega)
        · obtain ⟨G2, acc, o1, o2, h1, h2, h3, g2, s2, hG2, hH2, r2⟩ := h
          rw [List.drop_length] at h1
          cases h1
          rw [List.append_nil] at h2
          subst h2
          exact q G2 H' _ g2 ⟨Dl, rfl, hDH, hG2, acc, hH2, r2⟩
      · cases e
theorem d_lc {own : List (Str × Nat)} {elt tg iter : Expr} {ifs : List Expr} {scope : Scope} {pos : Pos} {I : Env → Option (List D)} {p : Pat} {T : Env → Option Bool} {E : Env → Option D} (nd : N.Nodup) (ok : blkC N sc scope own = true) (hi : DI Γ N sc tg iter I)
    (hg : DG Γ N (relS scope sc) false tg p) (hp : p.is.all (fun i => (own.map (·.2)).contains i) = true) (ht : DTs Γ N (relS scope sc) ifs T) (he : DV Γ N (relS scope sc) .e elt E) (hs : ∀ (env : PySem.Env) x, foldedSetIterable iter env x = pure x := by exact fun _ _ => rfl) :
    DL Γ N sc (.ListComp elt [⟨tg, iter, ifs, 0⟩] scope pos) (lcF (own.map (·.2)) I p T E) := by
  obtain ⟨wi, pi, si⟩ := hi.ex
  obtain ⟨g, pg, sg⟩ := hg.ex
  obtain ⟨tt, pt, st⟩ := ht.ex
  obtain ⟨te, pe, se⟩ := he.ex
  have hp' : ∀ i ∈ p.is, i ∈ own.map (·.2) := fun i h => by
    have := List.all_eq_true.mp hp i h
    simpa using this
  refine ⟨tLc wi g tt te (own.map (·.2)), fun X gX => ?_, sem_lc si sg hp' st se⟩
  have ok' : BlkOk X.N X.env.scope scope own := by rw [gX.N, gX.sc]; exact blkOk_by ok
  have gB : ∀ (s : Shared) (H : Hp) (C : Addr) (cl : List (Str × Addr)) (fp : List Addr), Good Γ N (relS scope sc) (X.blk s H scope (compEnvC scope cl C X.env) fp) := fun s H C cl fp =>
    ⟨gX.prog, gX.w, gX.K, gX.mg, gX.base, gX.calm, rfl, gX.room, gX.N, by rw [← gX.sc]; rfl⟩
  have nd' : X.N.Nodup := by rw [gX.N]; exact nd
  have hg' := fun s H C cl fp => pg _ (gB s H C cl fp) (fun z => nomatch z)
  have ht' := fun s H C cl fp => pt _ (gB s H C cl fp)
  have he' := fun s H C cl fp => pe _ (gB s H C cl fp)
  exact ⟨pe_lc gX.calm nd' (pi X gX) ok' hg' ht' he' (hs _), fun i y py spos hy hyl hsw => ps_setLc gX.calm nd' (by rw [gX.N]; exact hy) hyl hsw (pi X gX) ok' hg' ht' he' (hs _)⟩
end
end Pv
set_option Elab.async false
set_option linter.all false
set_option maxRecDepth 100000
set_option maxHeartbeats 4000000
set_option autoImplicit false
namespace Pv
variable [TabT]
open PySem PySem.Spec PyProof.Rows L2
inductive Res where
  | nx (ρ : Env)
  | rt (d : D)
def SemS (Γ : Gam) (t : TS) (F : Env → Option Res) : Prop := ∀ (G0 H0 : Hp) (ρ : Env) (σ : L2.St) (G H : Hp) (De : Ends) (r : Res), Grow G0 H0 G H → EnvOk Γ H0 G H ρ σ → F ρ = some r →
  (∀ (ρ' : Env) (G' H' : Hp) (σ' : L2.St), r = .nx ρ' → Grow G0 H0 G' H' → SL G G' → EnvOk Γ H0 G' H' ρ' σ' → De.nx σ' H') →
  (∀ (d : D) (G' H' : Hp) (v : V), r = .rt d → Grow G0 H0 G' H' → Rep Γ.K Γ.C G' v d → De.rt v H') → t De σ H
structure DS (Γ : Gam) (N : List Str) (sc : Scope) (st : Stmt) (F : Env → Option Res) : Prop where
  ex : ∃ t, (∀ X, Good Γ N sc X → (∀ x, X.fn x = true) → PS X st t) ∧ SemS Γ t F
structure DSs (Γ : Gam) (N : List Str) (sc : Scope) (sts : List Stmt) (F : Env → Option Res) : Prop where
  ex : ∃ t, (∀ X, Good Γ N sc X → (∀ x, X.fn x = true) → PSs X sts t) ∧ SemS Γ t F
def snx : Env → Option Res := fun ρ => some (.nx ρ)
def sseq (f g : Env → Option Res) : Env → Option Res := fun ρ => (f ρ).bind fun r => match r with
  | .nx ρ' => g ρ'
  | .rt d => some (.rt d)
def frzE (i : Nat) (ρ : Env) : Option Env := match ρ[i]? with
  | some (.ow d) => some (ρ.set i (.sh d))
  | some (.sh _) => some ρ
  | _ => none
def sfrz (i : Nat) (f : Env → Option Res) : Env → Option Res := fun ρ => (frzE i ρ).bind f
def sset (i : Nat) (a : Env → Option D) : Env → Option Res := fun ρ => (a ρ).bind fun d => some (.nx (ρ.set i (.sh d)))
def sown (i : Nat) (a : Env → Option D) : Env → Option Res := fun ρ => (a ρ).bind fun d => some (.nx (ρ.set i (.ow d)))
def sbind (p : Pat) (a : Env → Option D) : Env → Option Res := fun ρ => (a ρ).bind fun d => (bindP p d ρ).bind fun ρ' => some (.nx ρ')
def spar (i j : Nat) (a b : Env → Option D) : Env → Option Res := fun ρ => (a ρ).bind fun x => (b ρ).bind fun y => some (.nx ((ρ.set i (.sh x)).set j (.sh y)))
def sif (c : Env → Option Bool) (a b : Env → Option Res) : Env → Option Res := fun ρ => (c ρ).bind fun k => if k then a ρ else b ρ
def sret (a : Env → Option D) : Env → Option Res := fun ρ => (a ρ).bind fun d => some (.rt d)
def sdrop (a : Env → Option D) : Env → Option Res := fun ρ => (a ρ).bind fun _ => some (.nx ρ)
def forD (p : Pat) (b : Env → Option Res) : List D → Env → Option Res
  | [], ρ => some (.nx ρ)
  | x :: xs, ρ => (bindP p x ρ).bind fun ρ1 => (b ρ1).bind fun r => match r with
    | .nx ρ' => forD p b xs ρ'
    | .rt d => some (.rt d)
def sfor (I : Env → Option (List D)) (p : Pat) (b : Env → Option Res) : Env → Option Res := fun ρ => (I ρ).bind fun items => forD p b items ρ
def whileD (c : Env → Option Bool) (b : Env → Option Res) : Nat → Env → Option Res
  | 0, _ => none
  | n + 1, ρ => (c ρ).bind fun k => if k then (b ρ).bind fun r => match r with
    | .nx ρ' => whileD c b n ρ'
    | .rt d => some (.rt d)
    else some (.nx ρ)
def fuel : Nat := 1000000000
def swhile (c : Env → Option Bool) (b : Env → Option Res) : Env → Option Res := fun ρ => whileD c b fuel ρ
def sapp (i : Nat) (a : Env → Option D) : Env → Option Res := fun ρ => (a ρ).bind fun d => match ρ[i]? with
  | some (.ow (.lst ds)) => if ds.length < big then some (.nx (ρ.set i (.ow (.lst (ds ++ [d]))))) else none
  | _ => none
def sext (i : Nat) (a : Env → Option D) : Env → Option Res := fun ρ => (a ρ).bind fun d => match ρ[i]?, d with
  | some (.ow (.lst ds)), .lst es => if ds.length + es.length < big then some (.nx (ρ.set i (.ow (.lst (ds ++ es))))) else none
  | _, _ => none
def sput (i : Nat) (k a : Env → Option D) : Env → Option Res := fun ρ => (a ρ).bind fun d => (k ρ).bind fun kd => match ρ[i]?, kd with
  | some (.ow (.lst ds)), .int n => (ixN ds.length n).bind fun j => some (.nx (ρ.set i (.ow (.lst (ds.set j d)))))
  | some (.ow (.dct kds)), .tup ks => (asInts ks).bind fun ns => if kds.length < big then some (.nx (ρ.set i (.ow (.dct (putD kds ns d))))) else none
  | _, _ => none
section
variable {Γ : Gam} {N : List Str} {sc : Scope} {κ κ1 κ2 κ3 : Kd} {G H G' H' G1 H1 : Hp} {v : V} {d : D}
theorem ss_nil : DSs Γ N sc [] snx := ⟨tNext, fun X _ _ => pss_nil, fun G0 H0 ρ σ G H De r g E e q1 q2 => by cases e; exact q1 ρ G H σ rfl g (SL.refl _) E⟩
theorem ss_one {st : Stmt} {F : Env → Option Res} (h : DS Γ N sc st F) : DSs Γ N sc [st] F := let ⟨t, p, s⟩ := h.ex; ⟨t, fun X g f => pss_one (p X g f), s⟩
theorem ss_cons {st : Stmt} {rest : List Stmt} {F K : Env → Option Res} (h1 : DS Γ N sc st F) (h2 : DSs Γ N sc rest K) : DSs Γ N sc (st :: rest) (sseq F K) := by
  obtain ⟨t1, p1, s1⟩ := h1.ex
  obtain ⟨t2, p2, s2⟩ := h2.ex
  refine ⟨tSeq t1 t2, fun X g f => pss_cons (p1 X g f) (p2 X g f), fun G0 H0 ρ σ G H De r g E e q1 q2 => ?_⟩
  unfold sseq at e
  cases ef : F ρ with
  | none => rw [ef] at e; cases e
  | some r1 =>
    rw [ef] at e
    refine s1 G0 H0 ρ σ G H _ r1 g E ef (fun ρ' G' H' σ' er g' sl E' => ?_) fun d G' H' v er g' rr => ?_
    · subst er
      exact s2 G0 H0 ρ' σ' G' H' De r g' E' e (fun ρ2 G2 H2 σ2 e2 g2 sl2 E2 => q1 ρ2 G2 H2 σ2 e2 g2 (sl.trans sl2) E2) q2
    · subst er
      cases e
      exact q2 d G' H' v rfl g' rr
/-- from here on the i-th is shared -/
theorem ss_frz (i : Nat) {sts : List Stmt} {F : Env → Option Res} (h : DSs Γ N sc sts F) : DSs Γ N sc sts (sfrz i F) := by
  obtain ⟨t, p, s1⟩ := h.ex
  refine ⟨t, p, fun G0 H0 ρ σ G H De r g E e q1 q2 => ?_⟩
  unfold sfrz frzE at e
  cases ei : ρ[i]? with
  | none => rw [ei] at e; cases e
  | some sl =>
    rw [ei] at e
    cases sl with
    | no => cases e
    | sh d => exact s1 G0 H0 ρ σ G H De r g E e q1 q2
    | ow d =>
      obtain ⟨a, h1, h2, h3, h4⟩ := E.sl i _ ei
      obtain ⟨o, h5, h6⟩ := h4.shared h3
      have g' : Grow G0 H0 (upd G a o) H := g.share g.s h5 h3 h2
      exact s1 G0 H0 _ σ _ H De r g' (E.share ei h1 h5 h3 h6) e (fun ρ2 G2 H2 σ2 e2 g2 sl2 E2 => q1 ρ2 G2 H2 σ2 e2 g2 ((SL.new h3).trans sl2) E2) q2
/-- a value that is stored takes no swap of places -/
abbrev NoSw (e : Expr) (x : Str) (px : Pos) (l : Nat) : Prop := ∀ env : PySem.Env, swapsWith e (some (.Name x px)) l env = pure false
theorem sem_set {t : TE} {i : Nat} {a : Env → Option D} (sa : SemV Γ .e t a) : SemS Γ (tAsg t (gName i)) (sset i a) := fun G0 H0 ρ σ G H De r g E e q1 q2 => by
  unfold sset at e
  cases ea : a ρ with
  | none => rw [ea] at e; cases e
  | some d =>
    rw [ea] at e
    cases e
    exact sa H0 ρ σ G H _ d g.s E ea fun G1 H1 v g1 o1 => q1 _ G1 H1 _ rfl (g.trans g1) g1.g ((E.grow g1).setSh o1)
theorem sem_own {t : TE} {i : Nat} {a : Env → Option D} (sa : SemV Γ .f t a) : SemS Γ (tAsg t (gName i)) (sown i a) := fun G0 H0 ρ σ G H De r g E e q1 q2 => by
  unfold sown at e
  cases ea : a ρ with
  | none => rw [ea] at e; cases e
  | some d =>
    rw [ea] at e
    cases e
    refine sa H0 ρ σ G H _ d g.s E ea fun G1 H1 v g1 o1 => ?_
    obtain ⟨b, rfl, h1, h2, h3⟩ := o1
    refine q1 _ G1 H1 _ rfl (g.trans g1) g1.g ((E.grow g1).setOw (g.h.free h1) h2 h3 fun j f hj h4 h5 => ?_)
    obtain ⟨c, h6, _, _, h7⟩ := E.sl j _ h4
    rw [h5] at h6
    cases h6
    obtain ⟨o, h8, _⟩ := h7.there
    rw [h1] at h8; cases h8
theorem s_set {i : Nat} {x : Str} {px pos : Pos} {e : Expr} {a : Env → Option D} (nd : N.Nodup) (hN : N[i]? = some x) (hb : bndB sc true x = true) (he : DV Γ N sc .e e a) (hs : NoSw e x px pos.line := by exact fun _ => rfl) : DS Γ N sc (.Assign [.Name x px] e pos) (sset i a) := by
  obtain ⟨t, p, sa⟩ := he.ex
  have hb : locB sc x = true := hb
  exact ⟨_, fun X g f => ps_set (by rw [g.N]; exact nd) (by rw [g.N]; exact hN) (by rw [g.sc]; exact loc_of hb) (p X g) (hs _) (.inl (f x)), sem_set sa⟩
theorem s_own {i : Nat} {x : Str} {px pos : Pos} {e : Expr} {a : Env → Option D} (nd : N.Nodup) (hN : N[i]? = some x) (hb : bndB sc true x = true) (he : DV Γ N sc .f e a) (hs : NoSw e x px pos.line := by exact fun _ => rfl) : DS Γ N sc (.Assign [.Name x px] e pos) (sown i a) := by
  obtain ⟨t, p, sa⟩ := he.ex
  have hb : locB sc x = true := hb
  exact ⟨_, fun X g f => ps_set (by rw [g.N]; exact nd) (by rw [g.N]; exact hN) (by rw [g.sc]; exact loc_of hb) (p X g) (hs _) (.inl (f x)), sem_own sa⟩
/-- x = [..]: the comprehension -/
def swC (sc scope : Scope) (x : Str) (px pe : Pos) : Bool := (match sc.names.lookup x with | some .local => true | _ => false) && (px.line == pe.line) && !(scope.names.any fun (n, k) => n == x && (k == .local || k == .cell))
theorem sw_eq {X : Cx} {scope : Scope} {x : Str} {px pe : Pos} {l : Nat} {elt : Expr} {gs : List Comprehension} (h : X.env.scope.kind = .function) : swapsWith (.ListComp elt gs scope pe) (some (.Name x px)) l X.env = pure (swC X.env.scope scope x px pe) := by
  have hb : X.env.blockKind = .function := by unfold Env.blockKind; rw [h]; rfl
  unfold swapsWith swC
  simp only [hb, Expr.pos]
  have hk : X.env.kindOf x = X.env.scope.names.lookup x := rfl
  rw [hk]
  cases X.env.scope.names.lookup x with
  | none => rfl
  | some k => cases k <;> rfl
theorem lc_ps {i : Nat} {x : Str} {px pos pe : Pos} {elt : Expr} {gs : List Comprehension} {scope : Scope} {t : TE} {X : Cx} (g : Good Γ N sc X) (f : ∀ x, X.fn x = true) (nd : N.Nodup) (hk : sc.kind = .function) (hN : N[i]? = some x) (hb : bndB sc true x = true)
    (p : PE X (.ListComp elt gs scope pe) t ∧ ∀ (i : Nat) (y : Str) (py : Pos) (spos : Pos), N[i]? = some y → X.env.scope.names.lookup y = some .local → swapsWith (.ListComp elt gs scope pe) (some (.Name y py)) spos.line X.env = pure true → PS X (.Assign [.Name y py] (.ListComp elt gs scope pe) spos) (tAsg t (gName i))) :
    PS X (.Assign [.Name x px] (.ListComp elt gs scope pe) pos) (tAsg t (gName i)) := by
  have hb : locB sc x = true := hb
  have e := sw_eq (X := X) (scope := scope) (x := x) (px := px) (pe := pe) (l := pos.line) (elt := elt) (gs := gs) (by rw [g.sc]; exact hk)
  cases hc : swC X.env.scope scope x px pe with
  | true =>
    rw [hc] at e
    refine p.2 i x px pos hN ?_ e
    unfold swC at hc
    simp only [Bool.and_eq_true] at hc
    have := hc.1.1
    split at this
    · assumption
    · cases this
  | false =>
    rw [hc] at e
    exact ps_set (by rw [g.N]; exact nd) (by rw [g.N]; exact hN) (by rw [g.sc]; exact loc_of hb) p.1 e (.inl (f x))
theorem s_setL {i : Nat} {x : Str} {px pos pe : Pos} {elt : Expr} {gs : List Comprehension} {scope : Scope} {a : Env → Option D} (nd : N.Nodup) (hk : sc.kind = .function) (hN : N[i]? = some x) (hb : bndB sc true x = true) (he : DL Γ N sc (.ListComp elt gs scope pe) a) :
    DS Γ N sc (.Assign [.Name x px] (.ListComp elt gs scope pe) pos) (sset i a) := by
  obtain ⟨t, p, sa⟩ := he.ex
  exact ⟨_, fun X g f => lc_ps g f nd hk hN hb (p X g), sem_set sa.toE⟩
theorem s_ownL {i : Nat} {x : Str} {px pos pe : Pos} {elt : Expr} {gs : List Comprehension} {scope : Scope} {a : Env → Option D} (nd : N.Nodup) (hk : sc.kind = .function) (hN : N[i]? = some x) (hb : bndB sc true x = true) (he : DL Γ N sc (.ListComp elt gs scope pe) a) :
    DS Γ N sc (.Assign [.Name x px] (.ListComp elt gs scope pe) pos) (sown i a) := by
  obtain ⟨t, p, sa⟩ := he.ex
  exact ⟨_, fun X g f => lc_ps g f nd hk hN hb (p X g), sem_own sa⟩
/-- a, b, .. = a tuple -/
theorem s_bind {tg e : Expr} {pos : Pos} {p : Pat} {a : Env → Option D} (he : DV Γ N sc .e e a) (hg : DG Γ N sc true tg p) (hs : ∀ env : PySem.Env, swapsWithSole [tg] e pos.line env = pure false := by exact fun _ => rfl) (hw : ∀ env : PySem.Env, swappedStores [tg] e env = pure none := by exact fun _ => rfl)
    (h1 : ∀ env : PySem.Env, (assignEach [tg] env).map (·.2) = [assign tg env] := by exact fun _ => rfl) : DS Γ N sc (.Assign [tg] e pos) (sbind p a) := by
  obtain ⟨t, pe, sa⟩ := he.ex
  obtain ⟨g, pg, sg⟩ := hg.ex
  refine ⟨_, fun X gX f => ps_asg (pe X gX) (pg X gX fun _ => f) (hs _) (hw _) (h1 _), fun G0 H0 ρ σ G H De r gr E e q1 q2 => ?_⟩
  unfold sbind at e
  cases ea : a ρ with
  | none => rw [ea] at e; cases e
  | some d =>
    simp only [ea, Option.bind_some] at e
    cases eb : bindP p d ρ with
    | none => rw [eb] at e; cases e
    | some ρ' =>
      rw [eb] at e
      cases e
      refine sa H0 ρ σ G H _ d gr.s E ea fun G1 H1 v g1 o1 => ?_
      exact sg H0 ρ ρ' σ G1 H1 v d _ g1.s (E.grow g1) eb o1 fun vs E' => q1 ρ' G1 H1 _ rfl (gr.trans g1) g1.g E'
/-- a, b = x, y -/
theorem s_par {i j : Nat} {x y : Str} {ea eb : Expr} {px py pt pos : Pos} {kt k2 : Nat} {pt2 : Pos} {a b : Env → Option D} (nd : N.Nodup) (hi : N[i]? = some x) (hj : N[j]? = some y) (hij : i ≠ j) (hx : lclB sc x = true) (hy : lclB sc y = true) (ha : DV Γ N sc .e ea a) (hb : DV Γ N sc .e eb b)
    (hw : ∀ env : PySem.Env, env.scope = sc → swappedStores [.Tuple [.Name x px, .Name y py] kt pt] (.Tuple [ea, eb] k2 pt2) env = pure (some [x, y]))
    (h1 : Pl1 ea [eb] := by exact fun _ => rfl) (h2 : Pl1 eb [] := by exact fun _ => rfl)
    (hs : ∀ env : PySem.Env, swapsWithSole [.Tuple [.Name x px, .Name y py] kt pt] (.Tuple [ea, eb] k2 pt2) pos.line env = pure false := by exact fun _ => rfl) :
    DS Γ N sc (.Assign [.Tuple [.Name x px, .Name y py] kt pt] (.Tuple [ea, eb] k2 pt2) pos) (spar i j a b) := by
  obtain ⟨ta, pa, sa⟩ := ha.ex
  obtain ⟨tb, pb, sb⟩ := hb.ex
  refine ⟨_, fun X g f => ps_par g.calm (by rw [g.N]; exact nd) (by rw [g.N]; exact hi) (by rw [g.N]; exact hj) hij (by rw [g.sc]; exact lcl_of hx) (by rw [g.sc]; exact lcl_of hy) (pa_cons (pa X g) (pa_cons (pb X g) pa_nil (h2 _)) (h1 _)) (hw _ g.sc) (hs _), fun G0 H0 ρ σ G H De r g E e q1 q2 => ?_⟩
  unfold spar at e
  cases ea : a ρ with
  | none => rw [ea] at e; cases e
  | some d1 =>
    cases eb : b ρ with
    | none => simp only [ea, eb, Option.bind_some] at e; cases e
    | some d2 =>
      simp only [ea, eb, Option.bind_some] at e
      cases e
      refine sa H0 ρ σ G H _ d1 g.s E ea fun G1 H1 v g1 o1 => ?_
      refine sb H0 ρ σ G1 H1 _ d2 g1.s (E.grow g1) eb fun G2 H2 w g2 o2 => ?_
      have g12 := g1.trans g2
      exact ⟨v, w, rfl, q1 _ G2 H2 _ rfl (g.trans g12) g12.g (((E.grow g12).setSh (Rep.mono g2.g o1)).setSh o2)⟩
theorem s_if {c : Expr} {a b : List Stmt} {pos : Pos} {fc : Env → Option Bool} {fa fb : Env → Option Res} (hc : DT Γ N sc c fc) (ha : DSs Γ N sc a fa) (hb : DSs Γ N sc b fb) : DS Γ N sc (.If c a b pos) (sif fc fa fb) := by
  obtain ⟨tc, pc, sc1⟩ := hc.ex
  obtain ⟨ta, pa, sa⟩ := ha.ex
  obtain ⟨tb, pb, sb⟩ := hb.ex
  refine ⟨_, fun X g f => ps_if (pc X g) (pa X g f) (pb X g f), fun G0 H0 ρ σ G H De r g E e q1 q2 => ?_⟩
  unfold sif at e
  cases ec : fc ρ with
  | none => rw [ec] at e; cases e
  | some k =>
    rw [ec] at e
    refine sc1 H0 ρ σ G H _ k g.s E ec fun G1 H1 g1 => ?_
    cases k with
    | true => rw [if_pos rfl]; exact sa G0 H0 ρ σ G1 H1 De r (g.trans g1) (E.grow g1) e (fun ρ2 G2 H2 σ2 e2 g2 sl2 E2 => q1 ρ2 G2 H2 σ2 e2 g2 (g1.g.trans sl2) E2) q2
    | false => rw [if_neg Bool.false_ne_true]; exact sb G0 H0 ρ σ G1 H1 De r (g.trans g1) (E.grow g1) e (fun ρ2 G2 H2 σ2 e2 g2 sl2 E2 => q1 ρ2 G2 H2 σ2 e2 g2 (g1.g.trans sl2) E2) q2
theorem s_ret {e : Expr} {pos : Pos} {a : Env → Option D} (he : DV Γ N sc .e e a) : DS Γ N sc (.Return (some e) pos) (sret a) := by
  obtain ⟨t, p, sa⟩ := he.ex
  refine ⟨_, fun X g f => ps_ret (p X g), fun G0 H0 ρ σ G H De r g E e q1 q2 => ?_⟩
  unfold sret at e
  cases ea : a ρ with
  | none => rw [ea] at e; cases e
  | some d =>
    rw [ea] at e
    cases e
    exact sa H0 ρ σ G H _ d g.s E ea fun G1 H1 v g1 o1 => q2 d G1 H1 v rfl (g.trans g1) o1
theorem s_drop {e : Expr} {pos : Pos} {a : Env → Option D} (he : DV Γ N sc κ e a) (hs : ∀ env : PySem.Env, swapsWith e none pos.line env = pure false := by exact fun _ => rfl) : DS Γ N sc (.Expr e pos) (sdrop a) := by
  obtain ⟨t, p, sa⟩ := he.ex
  refine ⟨_, fun X g f => ps_expr (p X g) (hs _), fun G0 H0 ρ σ G H De r g E e q1 q2 => ?_⟩
  unfold sdrop at e
  cases ea : a ρ with
  | none => rw [ea] at e; cases e
  | some d =>
    rw [ea] at e
    cases e
    exact sa H0 ρ σ G H _ d g.s E ea fun G1 H1 v g1 o1 => q1 ρ G1 H1 σ rfl (g.trans g1) g1.g (E.grow g1)
theorem s_for {tg it : Expr} {body : List Stmt} {pos : Pos} {I : Env → Option (List D)} {p : Pat} {b : Env → Option Res} (hi : DI Γ N sc tg it I) (hg : DG Γ N sc true tg p) (hb : DSs Γ N sc body b) (hs : ∀ (env : PySem.Env) x, foldedSetIterable it env x = pure x := by exact fun _ _ => rfl) :
    DS Γ N sc (.For tg it body [] pos) (sfor I p b) := by
  obtain ⟨wi, pi, si⟩ := hi.ex
  obtain ⟨gt, pg, sg⟩ := hg.ex
  obtain ⟨tb, pb, sb⟩ := hb.ex
  refine ⟨_, fun X g f => ps_for (by rw [g.xe]; exact PassesOwn.never) g.calm (pi X g) (pg X g fun _ => f) (pb X g f) (hs _), fun G0 H0 ρ σ G H De r g E e q1 q2 => ?_⟩
  unfold sfor at e
  cases ei : I ρ with
  | none => rw [ei] at e; cases e
  | some items =>
    rw [ei] at e
    have e : forD p b items ρ = some r := e
    refine si H0 ρ σ G H _ items g.s E ei fun J Gp Y G1 H1 g1 wk hGp hY => ?_
    refine for_it wk (fun i σ' H' => ∃ G' ρ', Grow G0 H0 G' H' ∧ SL G1 G' ∧ EnvOk Γ H0 G' H' ρ' σ' ∧ forD p b (items.drop i) ρ' = some r) ⟨G1, ρ, g.trans g1, SL.refl _, E.grow g1, by rw [List.drop_zero]; exact e⟩ (fun i σ' H' _ h => ?_) (fun i x σ2 H2 H3 hlt h y => ?_) fun σ' H' h => ?_
    · obtain ⟨G', ρ', g2, s1, _⟩ := h
      exact hGp G' H' s1 g2.s
    · obtain ⟨G2, ρ2, g2, s2, E2, h2⟩ := h
      obtain ⟨G3, d, hd, g3, r3⟩ := hY i H2 x H3 G2 hlt s2 g2.s y
      have hdrop : items.drop i = d :: items.drop (i + 1) := by
        obtain ⟨hl, e1⟩ := List.getElem?_eq_some_iff.mp hd
        rw [List.drop_eq_getElem_cons hl, e1]
      rw [hdrop] at h2
      have h2 : ((bindP p d ρ2).bind fun ρ1 => (b ρ1).bind fun r => match r with
        | .nx ρ' => forD p b (items.drop (i + 1)) ρ'
        | .rt d => some (.rt d)) = some r := h2
      cases eb : bindP p d ρ2 with
      | none => rw [eb] at h2; cases h2
      | some ρ3 =>
        simp only [eb, Option.bind_some] at h2
        cases er : b ρ3 with
        | none => rw [er] at h2; cases h2
        | some r3' =>
          simp only [er, Option.bind_some] at h2
          refine sg H0 ρ2 ρ3 σ2 G3 H3 x d _ g3.s (E2.grow g3) eb r3 fun vs E3 => ?_
          refine sb G0 H0 ρ3 _ G3 H3 _ r3' (g2.trans g3) E3 er (fun ρ4 G4 H4 σ4 e4 g4 s4 E4 => ?_) fun d' G4 H4 v4 e4 g4 r4 => ?_
          · subst e4
            exact ⟨G4, ρ4, g4, (s2.trans g3.g).trans s4, E4, h2⟩
          · subst e4
            cases h2
            exact q2 d' G4 H4 v4 rfl g4 r4
    · obtain ⟨G2, ρ2, g2, s2, E2, h2⟩ := h
      rw [List.drop_length] at h2
      cases h2
      exact q1 ρ2 G2 H' σ' rfl g2 (g1.g.trans s2) E2
theorem s_while {c : Expr} {body : List Stmt} {pos : Pos} {fc : Env → Option Bool} {b : Env → Option Res} (hc : DT Γ N sc c fc) (hb : DSs Γ N sc body b) : DS Γ N sc (.While c body [] pos) (swhile fc b) := by
  obtain ⟨tc, pc, sc1⟩ := hc.ex
  obtain ⟨tb, pb, sb⟩ := hb.ex
  refine ⟨_, fun X g f => ps_while (by rw [g.xe]; exact PassesOwn.never) (pc X g) (pb X g f), fun G0 H0 ρ σ G H De r g E e q1 q2 => ?_⟩
  have e : whileD fc b fuel ρ = some r := e
  refine ⟨fun n σ' H' => ∃ G' ρ', Grow G0 H0 G' H' ∧ SL G G' ∧ EnvOk Γ H0 G' H' ρ' σ' ∧ whileD fc b n ρ' = some r, ⟨fuel, G, ρ, g, SL.refl _, E, e⟩, fun n σ1 H1 h => ?_⟩
  obtain ⟨G1, ρ1, g1, s1, E1, h1⟩ := h
  cases n with
  | zero => cases h1
  | succ n =>
    have h1 : ((fc ρ1).bind fun k => if k then (b ρ1).bind fun r => match r with
      | .nx ρ' => whileD fc b n ρ'
      | .rt d => some (.rt d)
      else some (.nx ρ1)) = some r := h1
    cases ec : fc ρ1 with
    | none => rw [ec] at h1; cases h1
    | some k =>
      simp only [ec, Option.bind_some] at h1
      refine sc1 H0 ρ1 σ1 G1 H1 _ k g1.s E1 ec fun G2 H2 g2 => ?_
      cases k with
      | true =>
        rw [if_pos rfl]
        rw [if_pos rfl] at h1
        cases eb : b ρ1 with
        | none => rw [eb] at h1; cases h1
        | some rb =>
          simp only [eb, Option.bind_some] at h1
          refine ⟨_, fun σ' H' hN => ⟨n, Nat.lt_succ_self n, hN⟩, ?_⟩
          refine sb G0 H0 ρ1 σ1 G2 H2 _ rb (g1.trans g2) (E1.grow g2) eb (fun ρ4 G4 H4 σ4 e4 g4 s4 E4 => ?_) fun d' G4 H4 v4 e4 g4 r4 => ?_
          · subst e4
            exact ⟨G4, ρ4, g4, (s1.trans g2.g).trans s4, E4, h1⟩
          · subst e4
            cases h1
            exact q2 d' G4 H4 v4 rfl g4 r4
      | false =>
        rw [if_neg Bool.false_ne_true]
        rw [if_neg Bool.false_ne_true] at h1
        cases h1
        exact q1 ρ1 G2 H2 σ1 rfl (g1.trans g2) (s1.trans g2.g) (E1.grow g2)
/-- x.append(e) -/
theorem Own.upd_lst {H0 : Hp} {ρ : Env} {σ : L2.St} {i : Nat} {ds es : List D} {vs : List V} {a : Addr} (E : EnvOk Γ H0 G H ρ σ) (hi : ρ[i]? = some (.ow (.lst ds))) (hσ : σ[i]? = some (some (.ref a))) (h0 : H0 a = none) (g : G a = none) (r : RepL Γ.K Γ.C G vs es) :
    EnvOk Γ H0 G (L2.upd H a (.lst vs)) (ρ.set i (.ow (.lst es))) σ := E.upd hi hσ h0 g ⟨vs, upd_same, r⟩
theorem s_app {i : Nat} {x : Str} {px apos cpos pos : Pos} {e : Expr} {a : Env → Option D} (hN : N[i]? = some x) (hv : visB sc x = true) (hd : (x == ("__debug__" : Str)) = false) (hcd : (x == ("__classdict__" : Str)) = false) (ha : DV Γ N sc .e e a)
    (hbase : ∀ env : PySem.Env, attributeBase (.Name x px) "append" env (eval (.Name x px) env) = eval (.Name x px) env := by exact fun _ => rfl)
    (hfew : ∀ env : PySem.Env, ((backTo cpos (starEach [e] env)).all (fun x => !x.1) && (backToKw cpos (keywordEach [] env)).all (fun x => x.1.isSome)
      && decide (([e] : List Expr).length + ([] : List Keyword).length + (if ([] : List Keyword).isEmpty then 0 else 1) < 30)) = true := by exact fun _ => rfl)
    (hline : (apos.endLine == cpos.line) = true := by rfl) (hs : Pl1 e [] := by exact fun _ => rfl) :
    DS Γ N sc (.Expr (.Call (.Attribute (.Name x px) "append" apos) [e] [] cpos) pos) (sapp i a) := by
  obtain ⟨t, p, sa⟩ := ha.ex
  refine ⟨tDrop (tBM Γ.K "list" rAppend (tVar i) (tCons t tNil)), fun X g f => g.K ▸ ps_expr (pe_bm F.plainAttrs_list F.slot_list_append F.type_list_append mt_append (pe_var (by rw [g.N]; exact hN) (by rw [g.sc]; exact vis_of hv) hd hcd) (pa_cons (p X g) pa_nil (hs _)) (hbase _) (hfew _) hline (hs _) rfl) rfl, fun G0 H0 ρ σ G H De r g E e q1 q2 => ?_⟩
  unfold sapp at e
  cases ea : a ρ with
  | none => rw [ea] at e; cases e
  | some d =>
    simp only [ea, Option.bind_some] at e
    split at e
    · rename_i ds hi
      split at e
      · rename_i hl
        cases e
        obtain ⟨b, h1, h2, h3, vs, h4, h5⟩ := E.sl i _ hi
        refine ⟨.ref b, h1, .inl ⟨rfl, vs, SqL.of h4⟩, sa H0 ρ σ G H _ d g.s E ea fun G1 H1 v g1 o1 => ?_⟩
        have h4' : H1 b = some (.lst vs) := g1.x _ _ h3 h4 fun _ z => nomatch z
        have h3' : G1 b = none := g1.keep h4 h3
        have g01 := g.trans g1
        refine ⟨b, vs, v, rfl, rfl, h4', by rw [h5.length]; exact big_lt hl, ?_⟩
        exact q1 _ G1 _ σ rfl (g01.updH h3' h2 (noC_lst h4')) g1.g (Own.upd_lst (E.grow g1) hi h1 h2 h3' ((h5.mono g1.g).app (.cons o1 .nil)))
      · cases e
    · cases e
theorem s_ext {i : Nat} {x : Str} {px apos cpos pos : Pos} {e : Expr} {a : Env → Option D} (hN : N[i]? = some x) (hv : visB sc x = true) (hd : (x == ("__debug__" : Str)) = false) (hcd : (x == ("__classdict__" : Str)) = false) (ha : DV Γ N sc .e e a)
    (hbase : ∀ env : PySem.Env, attributeBase (.Name x px) "extend" env (eval (.Name x px) env) = eval (.Name x px) env := by exact fun _ => rfl)
    (hfew : ∀ env : PySem.Env, ((backTo cpos (starEach [e] env)).all (fun x => !x.1) && (backToKw cpos (keywordEach [] env)).all (fun x => x.1.isSome)
      && decide (([e] : List Expr).length + ([] : List Keyword).length + (if ([] : List Keyword).isEmpty then 0 else 1) < 30)) = true := by exact fun _ => rfl)
    (hline : (apos.endLine == cpos.line) = true := by rfl) (hs : Pl1 e [] := by exact fun _ => rfl) :
    DS Γ N sc (.Expr (.Call (.Attribute (.Name x px) "extend" apos) [e] [] cpos) pos) (sext i a) := by
  obtain ⟨t, p, sa⟩ := ha.ex
  refine ⟨tDrop (tBM Γ.K "list" rExtend (tVar i) (tCons t tNil)), fun X g f => g.K ▸ ps_expr (pe_bm F.plainAttrs_list F.slot_list_extend F.type_list_extend mt_extend (pe_var (by rw [g.N]; exact hN) (by rw [g.sc]; exact vis_of hv) hd hcd) (pa_cons (p X g) pa_nil (hs _)) (hbase _) (hfew _) hline (hs _) rfl) rfl, fun G0 H0 ρ σ G H De r g E e q1 q2 => ?_⟩
  unfold sext at e
  cases ea : a ρ with
  | none => rw [ea] at e; cases e
  | some d =>
    simp only [ea, Option.bind_some] at e
    split at e
    · rename_i ds es hi
      split at e
      · rename_i hl
        cases e
        obtain ⟨b, h1, h2, h3, vs, h4, h5⟩ := E.sl i _ hi
        refine ⟨.ref b, h1, .inl ⟨rfl, vs, SqL.of h4⟩, sa H0 ρ σ G H _ _ g.s E ea fun G1 H1 v g1 o1 => ?_⟩
        have o1 : Rep Γ.K Γ.C G1 v (.lst es) := o1
        cases o1 with
        | lst h6 h7 =>
          have h4' : H1 b = some (.lst vs) := g1.x _ _ h3 h4 fun _ z => nomatch z
          have h3' : G1 b = none := g1.keep h4 h3
          have g01 := g.trans g1
          refine ⟨b, _, vs, _, rfl, rfl, h4', g1.s.lst h6, by rw [h5.length, h7.length]; exact Nat.le_of_lt (big_lt hl), ?_⟩
          exact q1 _ G1 _ σ rfl (g01.updH h3' h2 (noC_lst h4')) g1.g (Own.upd_lst (E.grow g1) hi h1 h2 h3' ((h5.mono g1.g).app h7))
      · cases e
    · cases e
/-- x[k] = e: a list's place, a dict's key -/
theorem PS.or {X : Cx} {st : Stmt} {t t' : TS} (h : PS X st t) (h' : PS X st t') : PS X st (fun De σ H => t De σ H ∨ t' De σ H) :=
  ⟨fun pins s σ H De I q => q.elim (h.run pins s σ H De I) (h'.run pins s σ H De I)⟩
theorem putK_map {kvs : List (List Key × V)} {kds : List (List Int × D)} {ns : List Int} {v : V} {d : D} (e : kvs.map Prod.fst = kds.map fun p => kk p.1) (r : RepL Γ.K Γ.C G (kvs.map Prod.snd) (kds.map Prod.snd)) (rv : Rep Γ.K Γ.C G v d) :
    (putK kvs (kk ns) v).map Prod.fst = (putD kds ns d).map (fun p => kk p.1) ∧ RepL Γ.K Γ.C G ((putK kvs (kk ns) v).map Prod.snd) ((putD kds ns d).map Prod.snd) := by
  have hany : ∀ {kvs : List (List Key × V)} {kds : List (List Int × D)}, kvs.map Prod.fst = kds.map (fun p => kk p.1) → kvs.any (fun p => decide (p.1 = kk ns)) = kds.any fun p => decide (p.1 = ns) := by
    intro kvs
    induction kvs with
    | nil => intro kds e; cases kds with
      | nil => rfl
      | cons _ _ => cases e
    | cons p kvs ih =>
      intro kds e
      cases kds with
      | nil => cases e
      | cons q kds =>
        have e1 : p.1 = kk q.1 := (List.cons.inj e).1
        rw [List.any_cons, List.any_cons, ih (List.cons.inj e).2]
        have : decide (p.1 = kk ns) = decide (q.1 = ns) := by
          rw [e1]
          by_cases h : q.1 = ns
          · rw [h, decide_eq_true rfl, decide_eq_true rfl]
          · rw [decide_eq_false h, decide_eq_false fun z => h (kk_inj _ _ z)]
        rw [this]
  unfold putK putD
  rw [hany e]
  by_cases hc : (kds.any fun p => decide (p.1 = ns)) = true
  · rw [if_pos hc, if_pos hc]
    have go : ∀ {kvs : List (List Key × V)} {kds : List (List Int × D)}, kvs.map Prod.fst = kds.map (fun p => kk p.1) → RepL Γ.K Γ.C G (kvs.map Prod.snd) (kds.map Prod.snd) →
        (kvs.map fun kv => if kv.1 = kk ns then (kv.1, v) else kv).map Prod.fst = (kds.map fun p => if p.1 = ns then (ns, d) else p).map (fun p => kk p.1) ∧ RepL Γ.K Γ.C G ((kvs.map fun kv => if kv.1 = kk ns then (kv.1, v) else kv).map Prod.snd) ((kds.map fun p => if p.1 = ns then (ns, d) else p).map Prod.snd) := by
      intro kvs
      induction kvs with
      | nil => intro kds e r; cases kds with
        | nil => exact ⟨rfl, .nil⟩
        | cons _ _ => cases e
      | cons p kvs ih =>
        intro kds e r
        cases kds with
        | nil => cases e
        | cons q kds =>
          have e1 : p.1 = kk q.1 := (List.cons.inj e).1
          cases r with
          | cons r1 r2 =>
            obtain ⟨i1, i2⟩ := ih (List.cons.inj e).2 r2
            by_cases h : q.1 = ns
            · have h' : p.1 = kk ns := by rw [e1, h]
              simp only [List.map_cons, if_pos h, if_pos h']
              exact ⟨by rw [h', i1], .cons rv i2⟩
            · have h' : ¬ p.1 = kk ns := fun z => h (kk_inj _ _ (e1.symm.trans z))
              simp only [List.map_cons, if_neg h, if_neg h']
              refine ⟨?_, .cons r1 i2⟩
              rw [e1]
              exact congrArg _ i1
    exact go e r
  · rw [if_neg hc, if_neg hc, List.map_append, List.map_append, List.map_append, List.map_append, e]
    exact ⟨rfl, r.app (.cons rv .nil)⟩
theorem s_put {i : Nat} {x : Str} {px sp pos : Pos} {ek e : Expr} {k a : Env → Option D} (hN : N[i]? = some x) (hv : visB sc x = true) (hd : (x == ("__debug__" : Str)) = false) (hcd : (x == ("__classdict__" : Str)) = false) (hk : DV Γ N sc .e ek k) (ha : DV Γ N sc .e e a)
    (hs1 : ∀ env : PySem.Env, swapsWith e (some (.Subscript (.Name x px) ek sp)) pos.line env = pure false := by exact fun _ => rfl)
    (hs : ∀ env : PySem.Env, swapsWithSole [.Subscript (.Name x px) ek sp] e pos.line env = pure false := by exact fun _ => rfl) (hw : ∀ env : PySem.Env, swappedStores [.Subscript (.Name x px) ek sp] e env = pure none := by exact fun _ => rfl)
    (h1 : ∀ env : PySem.Env, (assignEach [.Subscript (.Name x px) ek sp] env).map (·.2) = [assign (.Subscript (.Name x px) ek sp) env] := by exact fun _ => rfl)
    (h2 : ∀ (env : PySem.Env) v, assign (.Subscript (.Name x px) ek sp) env v = (do
      let ov ← holding [v] (eval (.Name x px) env)
      let iv ← holding [v, ov] (eval ek env)
      standAt sp
      holding [v, ov, iv] (setItem ov iv v)
      release [v, ov, iv] []) := by exact fun _ _ => rfl) :
    DS Γ N sc (.Assign [.Subscript (.Name x px) ek sp] e pos) (sput i k a) := by
  obtain ⟨tk, pk, sk⟩ := hk.ex
  obtain ⟨ta, pa, sa⟩ := ha.ex
  refine ⟨fun De σ H => tAsg ta (gSub (tVar i) tk rSetL) De σ H ∨ sDPut (tVar i) tk ta De σ H, fun X g f => ?_, fun G0 H0 ρ σ G H De r g E e q1 q2 => ?_⟩
  · have pv : PE X (.Name x px) (tVar i) := pe_var (by rw [g.N]; exact hN) (by rw [g.sc]; exact vis_of hv) hd hcd
    exact PS.or (ps_asg (pa X g) (pg_sub pv (pk X g) set_list (h2 _)) (hs _) (hw _) (h1 _)) (ps_dput (hu_of g.room) pv (pk X g) (pa X g) (hs1 _))
  · unfold sput at e
    cases ea : a ρ with
    | none => rw [ea] at e; cases e
    | some d =>
      cases ek' : k ρ with
      | none => simp only [ea, ek', Option.bind_some] at e; cases e
      | some kd =>
        simp only [ea, ek', Option.bind_some] at e
        split at e
        · rename_i ds n hi
          cases ej : ixN ds.length n with
          | none => rw [ej] at e; cases e
          | some j =>
            rw [ej] at e
            cases e
            obtain ⟨b, h1, h2, h3, vs, h4, h5⟩ := E.sl i _ hi
            refine .inl (sa H0 ρ σ G H _ d g.s E ea fun G1 H1 v g1 o1 => ⟨.ref b, h1, sk H0 ρ σ G1 H1 _ _ g1.s (E.grow g1) ek' fun G2 H2 w g2 o2 => ?_⟩)
            have o2 : Rep Γ.K Γ.C G2 w (.int n) := o2
            cases o2
            have g12 := g1.trans g2
            have h4' : H2 b = some (.lst vs) := g12.x _ _ h3 h4 fun _ z => nomatch z
            have h3' : G2 b = none := g12.keep h4 h3
            refine ⟨b, vs, n, j, rfl, rfl, h4', by rw [h5.length]; exact ej, ?_⟩
            exact q1 _ G2 _ σ rfl ((g.trans g12).updH h3' h2 (noC_lst h4')) g12.g (Own.upd_lst (E.grow g12) hi h1 h2 h3' (RepL.set (Rep.mono g2.g o1) j (h5.mono g12.g)))
        · rename_i kds ks hi
          cases en : asInts ks with
          | none => rw [en] at e; cases e
          | some ns =>
            simp only [en, Option.bind_some] at e
            split at e
            · rename_i hl
              cases e
              obtain ⟨b, h1, h2, h3, kvs, h4, h5, h6⟩ := E.sl i _ hi
              refine .inr (sa H0 ρ σ G H _ d g.s E ea fun G1 H1 v g1 o1 => ⟨.ref b, h1, sk H0 ρ σ G1 H1 _ _ g1.s (E.grow g1) ek' fun G2 H2 w g2 o2 => ?_⟩)
              have o2 : Rep Γ.K Γ.C G2 w (.tup ks) := o2
              cases o2 with
              | tup h7 h8 =>
                rw [asInts_eq en] at h8
                have e8 := kk_tup h8
                subst e8
                have g12 := g1.trans g2
                have h4' : H2 b = some (.dT kvs) := g12.x _ _ h3 h4 fun _ z => nomatch z
                have h3' : G2 b = none := by
                  by_cases q : G2 b = none
                  · exact q
                  · rcases g12.n b h3 q with e | ⟨ws, e⟩ | ⟨c, q', e⟩
                    · rw [h4] at e; cases e
                    · rw [h4] at e; cases e
                    · exact absurd e (noC_dT h4 c q')
                have hlen : kvs.length = kds.length := by
                  have := congrArg List.length h5
                  simpa using this
                obtain ⟨m1, m2⟩ := putK_map (ns := ns) h5 (h6.mono g12.g) (Rep.mono g2.g o1)
                refine ⟨b, _, rfl, .inr ⟨kvs, kk ns, _, h4', rfl, g2.s.tup h7, by rw [hlen]; exact big_lt hl, rfl⟩, ?_⟩
                exact q1 _ G2 _ σ rfl ((g.trans g12).updH h3' h2 (noC_dT h4')) g12.g ((E.grow g12).upd hi h1 h2 h3' ⟨_, upd_same, m1, m2⟩)
            · cases e
        · cases e
/-- {} whose keys are tuples -/
theorem d_dnew {pos : Pos} : DV Γ N sc .f (.Dict [] [] pos) (kc (.dct [])) := by
  refine ⟨tDNewT, fun X g => pe_dnewT, fun H0 ρ σ G H Q d s E e q => ?_⟩
  cases e
  exact fun p hp => q _ _ _ (Grow.newH s hp) ⟨p, rfl, hp, s.free hp, [], upd_same, rfl, .nil⟩
/-! ### a def -/
def startE (N : List Str) (ds : List D) : Env := ds.map Sl.sh ++ List.replicate (N.length - ds.length) Sl.no
def callD (N : List Str) (n : Nat) (F : Env → Option Res) (ds : List D) : Option D := if ds.length = n then (match F (startE N ds) with
  | some (.rt d) => some d
  | some (.nx _) => some .non
  | none => none) else none
theorem env_start {H0 : Hp} {vs : List V} {ds : List D} (N : List Str) (tb : TbH H) (r : RepL Γ.K Γ.C G vs ds) : EnvOk Γ H0 G H (startE N ds) (L2.start N vs) := by
  have hl := r.length
  unfold startE L2.start
  refine ⟨by simp [hl], fun i s h => ?_, fun i j d e a hij h1 h2 _ => ?_, tb⟩
  · by_cases hi : i < ds.length
    · rw [List.getElem?_append_left (by simpa using hi), List.getElem?_map] at h
      rw [List.getElem?_append_left (by simp; omega), List.getElem?_map]
      obtain ⟨d, hd⟩ : ∃ d, ds[i]? = some d := ⟨ds[i], List.getElem?_eq_getElem hi⟩
      rw [hd] at h
      cases h
      obtain ⟨v, hv, rv⟩ := r.get hd
      exact ⟨v, by rw [hv]; rfl, rv⟩
    · rw [List.getElem?_append_right (by simp; omega), List.getElem?_replicate] at h
      split at h
      · cases h; trivial
      · cases h
  · have no : ∀ k f, (ds.map Sl.sh ++ List.replicate (N.length - ds.length) Sl.no)[k]? ≠ some (Sl.ow f) := fun k f h => by
      by_cases hk : k < ds.length
      · rw [List.getElem?_append_left (by simpa using hk), List.getElem?_map, List.getElem?_eq_getElem hk] at h
        cases h
      · rw [List.getElem?_append_right (by simp; omega), List.getElem?_replicate] at h
        split at h <;> cases h
    exact absurd h1 (no i d)
theorem fnD {x qual : Str} {st : Stmt} {f : Addr} {fd : FuncData} {ps : List Str} {k : Nat} {F : Env → Option Res} (Fn : Fun Γ.K x qual st f fd) (S : FnScope N ps (defScope st)) (h : DSs (Γ.at k) N (defScope st) (defBody st) F) : FnOk Γ.P Γ.w Γ.K Γ.mg Γ.base CX0 (k + 1) f fd ps (spD Γ.K Γ.C (callD N ps.length F)) := by
  refine Fn.ok S (fun vs H Q E h => ?_) (fun cdv A outer s H vs Q E hr hsp => ?_)
  · obtain ⟨G, ds, d, _, _, r, e, _⟩ := h
    unfold callD at e
    split at e
    · rename_i hl; rw [r.length]; exact hl
    · cases e
  · obtain ⟨G, ds, d, s1, tb, r, e, q⟩ := hsp
    obtain ⟨t, p, sm⟩ := h.ex
    refine ⟨t, p _ ⟨rfl, rfl, rfl, rfl, rfl, rfl, rfl, hr, rfl, rfl⟩ (fun _ => rfl), ?_⟩
    unfold callD at e
    split at e
    · split at e
      · rename_i d' eF
        cases e
        exact sm G H (startE N ds) (L2.start N vs) G H _ _ (Grow.refl s1) (env_start N tb r) eF (fun ρ' G' H' σ' er => by cases er) fun d2 G' H' v er g' rr => by cases er; exact q G' H' v g' rr
      · rename_i ρ' eF
        cases e
        exact sm G H (startE N ds) (L2.start N vs) G H _ _ (Grow.refl s1) (env_start N tb r) eF (fun ρ2 G' H' σ' er g' _ _ => q G' H' .non g' .non) fun d2 G' H' v er => by cases er
      · cases e
    · cases e
theorem hasD {x qual : Str} {st : Stmt} {f : Addr} {fd : FuncData} {ps : List Str} {k : Nat} {F : Env → Option Res} (Fn : Fun Γ.K x qual st f fd) (hm : Γ.mg x = some (.ref f)) (hb : Binds Γ.K fd ps []) (S : FnScope N ps (defScope st)) (h : DSs (Γ.at k) N (defScope st) (defBody st) F) : HasD (Γ.at (k + 1)) x (callD N ps.length F) :=
  ⟨k + 1, f, fd, ps, Nat.le_refl _, hm, Fn.kp, hb, fnD Fn S h⟩
end
end Pv
set_option Elab.async false
set_option linter.all false
set_option maxRecDepth 100000
set_option maxHeartbeats 4000000
set_option autoImplicit false
namespace Pv
variable [TabT]
open PySem PySem.Spec PyProof.Rows L2
/-! ### evaluating what the defs do: rows for simp -/
theorem mulD_l {i j : Int} (h : i.natAbs < 2 ^ 64) : mulD (.int i) (.int j) = some (.int (i * j)) := if_pos (.inl h)
theorem mulD_r {i j : Int} (h : j.natAbs < 2 ^ 64) : mulD (.int i) (.int j) = some (.int (i * j)) := if_pos (.inr h)
theorem addD_i {i j : Int} : addD (.int i) (.int j) = some (.int (i + j)) := (rfl)
theorem addD_t {xs ys : List D} (h : xs.length + ys.length < big) : addD (.tup xs) (.tup ys) = some (.tup (xs ++ ys)) := if_pos h
theorem addD_l {xs ys : List D} (h : xs.length + ys.length < big) : addD (.lst xs) (.lst ys) = some (.lst (xs ++ ys)) := if_pos h
theorem subD_i {i j : Int} : subD (.int i) (.int j) = some (.int (i - j)) := (rfl)
theorem negD_i {i : Int} : negD (.int i) = some (.int (-i)) := (rfl)
theorem absD_i {i : Int} : absD (.int i) = some (.int (if i < 0 then -i else i)) := (rfl)
theorem ltD_i {i j : Int} : ltD (.int i) (.int j) = some (.bl (decide (i < j))) := (rfl)
theorem leD_i {i j : Int} : leD (.int i) (.int j) = some (.bl (decide (i ≤ j))) := (rfl)
theorem gtD_i {i j : Int} : gtD (.int i) (.int j) = some (.bl (decide (j < i))) := (rfl)
theorem geD_i {i j : Int} : geD (.int i) (.int j) = some (.bl (decide (j ≤ i))) := (rfl)
theorem eqD_i {i j : Int} : eqD (.int i) (.int j) = some (.bl (i == j)) := (rfl)
theorem neD_i {i j : Int} : neD (.int i) (.int j) = some (.bl (!(i == j))) := (rfl)
theorem eqD_b {i j : Bool} : eqD (.bl i) (.bl j) = some (.bl (i == j)) := (rfl)
theorem neD_b {i j : Bool} : neD (.bl i) (.bl j) = some (.bl (!(i == j))) := (rfl)
theorem isD_b {i j : Bool} : isD (.bl i) (.bl j) = some (.bl (decide (i = j))) := (rfl)
theorem isntD_b {i j : Bool} : isntD (.bl i) (.bl j) = some (.bl (!decide (i = j))) := (rfl)
theorem modD_i {i j : Int} (h : 0 < j) : modD (.int i) (.int j) = some (.int (i % j)) := if_pos h
theorem fdivD_i {i j : Int} (h : 0 < j) (h2 : j < 2 ^ 64) : fdivD (.int i) (.int j) = some (.int (i / j)) := if_pos ⟨h, h2⟩
theorem ixT0 {x : D} {xs : List D} : ixD (.tup (x :: xs)) (.int 0) = some x := atI_nat (xs := x :: xs) (j := 0) rfl
theorem ixT1 {x y : D} {xs : List D} : ixD (.tup (x :: y :: xs)) (.int 1) = some y := atI_nat (xs := x :: y :: xs) (j := 1) rfl
theorem ixT2 {x y z : D} {xs : List D} : ixD (.tup (x :: y :: z :: xs)) (.int 2) = some z := atI_nat (xs := x :: y :: z :: xs) (j := 2) rfl
theorem ixT3 {x y z u : D} {xs : List D} : ixD (.tup (x :: y :: z :: u :: xs)) (.int 3) = some u := atI_nat (xs := x :: y :: z :: u :: xs) (j := 3) rfl
theorem tupD_s {xs : List D} (h : xs.length < big) : tupD xs = some (.tup xs) := if_pos h
theorem lstD_s {xs : List D} (h : xs.length < big) : lstD xs = some (.lst xs) := if_pos h
theorem tup0 : tupD [] = some (.tup []) := (rfl)
theorem tup1 {a : D} : tupD [a] = some (.tup [a]) := (rfl)
theorem tup2 {a b : D} : tupD [a, b] = some (.tup [a, b]) := (rfl)
theorem tup3 {a b c : D} : tupD [a, b, c] = some (.tup [a, b, c]) := (rfl)
theorem tup4 {a b c d : D} : tupD [a, b, c, d] = some (.tup [a, b, c, d]) := (rfl)
theorem lst0 : lstD [] = some (.lst []) := (rfl)
theorem lst1 {a : D} : lstD [a] = some (.lst [a]) := (rfl)
theorem lst2 {a b : D} : lstD [a, b] = some (.lst [a, b]) := (rfl)
theorem lst3 {a b c : D} : lstD [a, b, c] = some (.lst [a, b, c]) := (rfl)
theorem lst4 {a b c d : D} : lstD [a, b, c, d] = some (.lst [a, b, c, d]) := (rfl)
theorem lst5 {a b c d e : D} : lstD [a, b, c, d, e] = some (.lst [a, b, c, d, e]) := (rfl)
theorem lst7 {a b c d e f g : D} : lstD [a, b, c, d, e, f, g] = some (.lst [a, b, c, d, e, f, g]) := (rfl)
theorem lst8 {a b c d e f g h : D} : lstD [a, b, c, d, e, f, g, h] = some (.lst [a, b, c, d, e, f, g, h]) := (rfl)
theorem bindT1 {i : Nat} {a : D} {ρ : Env} : bindP (.tup [i]) (.tup [a]) ρ = some (ρ.set i (.sh a)) := (rfl)
theorem bindT2 {i j : Nat} {a b : D} {ρ : Env} : bindP (.tup [i, j]) (.tup [a, b]) ρ = some ((ρ.set i (.sh a)).set j (.sh b)) := (rfl)
theorem bindT3 {i j k : Nat} {a b c : D} {ρ : Env} : bindP (.tup [i, j, k]) (.tup [a, b, c]) ρ = some (((ρ.set i (.sh a)).set j (.sh b)).set k (.sh c)) := (rfl)
theorem bindT4 {i j k l : Nat} {a b c d : D} {ρ : Env} : bindP (.tup [i, j, k, l]) (.tup [a, b, c, d]) ρ = some ((((ρ.set i (.sh a)).set j (.sh b)).set k (.sh c)).set l (.sh d)) := (rfl)
theorem isiD_i {i : Int} : isiD "int" (.int i) = some (.bl true) := (rfl)
theorem isiD_ib {i : Bool} : isiD "int" (.bl i) = some (.bl true) := (rfl)
theorem isiD_is {i : Str} : isiD "int" (.str i) = some (.bl false) := (rfl)
theorem isiD_in : isiD "int" .non = some (.bl false) := (rfl)
theorem isiD_it {i : List D} : isiD "int" (.tup i) = some (.bl false) := (rfl)
theorem isiD_il {i : List D} : isiD "int" (.lst i) = some (.bl false) := (rfl)
theorem isiB_i {i : Int} : isiD "bool" (.int i) = some (.bl false) := (rfl)
theorem isiB_b {i : Bool} : isiD "bool" (.bl i) = some (.bl true) := (rfl)
theorem isiB_s {i : Str} : isiD "bool" (.str i) = some (.bl false) := (rfl)
theorem isiT_i {i : Int} : isiD "tuple" (.int i) = some (.bl false) := (rfl)
theorem isiT_b {i : Bool} : isiD "tuple" (.bl i) = some (.bl false) := (rfl)
theorem isiT_s {i : Str} : isiD "tuple" (.str i) = some (.bl false) := (rfl)
theorem isiT_n : isiD "tuple" .non = some (.bl false) := (rfl)
theorem isiT_t {i : List D} : isiD "tuple" (.tup i) = some (.bl true) := (rfl)
theorem isiT_l {i : List D} : isiD "tuple" (.lst i) = some (.bl false) := (rfl)
theorem truD_b {b : Bool} : truD (.bl b) = some b := (rfl)
theorem truD_t {xs : List D} : truD (.tup xs) = some (!xs.isEmpty) := (rfl)
theorem truD_l {xs : List D} : truD (.lst xs) = some (!xs.isEmpty) := (rfl)
theorem lenD_t {xs : List D} : lenD (.tup xs) = some (.int xs.length) := (rfl)
theorem lenD_l {xs : List D} : lenD (.lst xs) = some (.int xs.length) := (rfl)
theorem notD_b {b : Bool} : notD (.bl b) = some (.bl (!b)) := (rfl)
theorem tupleD_l {xs : List D} : tupleD (.lst xs) = some (.tup xs) := (rfl)
theorem tupleD_t {xs : List D} : tupleD (.tup xs) = some (.tup xs) := (rfl)
theorem allD_b (bs : List Bool) : allD (.lst (bs.map D.bl)) = some (.bl (bs.all id)) := by
  show (asBls (bs.map D.bl)).bind _ = _
  rw [asBls_map]; rfl
theorem anyD_b (bs : List Bool) : anyD (.lst (bs.map D.bl)) = some (.bl (bs.any id)) := by
  show (asBls (bs.map D.bl)).bind _ = _
  rw [asBls_map]; rfl
theorem sumD_i (ns : List Int) : sumD (.lst (ns.map D.int)) = some (.int ns.sum) := by
  show (asInts (ns.map D.int)).bind _ = _
  rw [asInts_map]; rfl
theorem sumD_t (ns : List Int) : sumD (.tup (ns.map D.int)) = some (.int ns.sum) := by
  show (asInts (ns.map D.int)).bind _ = _
  rw [asInts_map]; rfl
theorem bindP1 {i : Nat} {d : D} {ρ : Env} : bindP (.one i) d ρ = some (ρ.set i (.sh d)) := (rfl)
theorem bindPt {is : List Nat} {ds : List D} {ρ : Env} (h : ds.length = is.length) : bindP (.tup is) (.tup ds) ρ = some (setE ρ is ds) := if_pos h
theorem nm_at {i : Nat} {ρ : Env} {d : D} (h : ρ[i]? = some (.sh d)) : nm i ρ = some d := by unfold nm; rw [h]
theorem nb_at {i : Nat} {ρ : Env} {d : D} (h : ρ[i]? = some (.sh d)) : nb i ρ = some d := by unfold nb; rw [h]
theorem nb_ow {i : Nat} {ρ : Env} {d : D} (h : ρ[i]? = some (.ow d)) : nb i ρ = some d := by unfold nb; rw [h]
theorem nm_0 {d : D} {ρ : Env} : nm 0 (.sh d :: ρ) = some d := (rfl)
theorem nb_0 {d : D} {ρ : Env} : nb 0 (.sh d :: ρ) = some d := (rfl)
theorem nbo_0 {d : D} {ρ : Env} : nb 0 (.ow d :: ρ) = some d := (rfl)
theorem nm_s {i : Nat} {s : Sl} {ρ : Env} : nm (i + 1) (s :: ρ) = nm i ρ := by unfold nm; rw [List.getElem?_cons_succ]
theorem nb_s {i : Nat} {s : Sl} {ρ : Env} : nb (i + 1) (s :: ρ) = nb i ρ := by unfold nb; rw [List.getElem?_cons_succ]
/-- a def's end -/
def endD : Option Res → Option D
  | some (.rt d) => some d
  | some (.nx _) => some .non
  | none => none
theorem callD_eq {N : List Str} {n : Nat} {F : Env → Option Res} {ds : List D} (h : ds.length = n) : callD N n F ds = endD (F (startE N ds)) := by
  unfold callD
  rw [if_pos h]
  cases F (startE N ds) with
  | none => rfl
  | some r => cases r <;> rfl
theorem endD_ret {x : Option D} : endD (x.bind fun d => some (.rt d)) = x := by cases x <;> rfl
theorem endD_rt {d : D} : endD (some (.rt d)) = some d := (rfl)
def seqR (r : Option Res) (g : Env → Option Res) : Option Res := r.bind fun r => match r with
  | .nx ρ' => g ρ'
  | .rt d => some (.rt d)
theorem sseq_eq {f g : Env → Option Res} {ρ : Env} : sseq f g ρ = seqR (f ρ) g := (rfl)
theorem seqR_nx {ρ : Env} {g : Env → Option Res} : seqR (some (.nx ρ)) g = g ρ := (rfl)
theorem seqR_rt {d : D} {g : Env → Option Res} : seqR (some (.rt d)) g = some (.rt d) := (rfl)
theorem seqR_ite {c : Prop} [Decidable c] {a b : Option Res} {g : Env → Option Res} : seqR (if c then a else b) g = if c then seqR a g else seqR b g := by split <;> rfl
theorem endD_ite {c : Prop} [Decidable c] {a b : Option Res} : endD (if c then a else b) = if c then endD a else endD b := by split <;> rfl
theorem bind_ite {α β : Type} {c : Prop} [Decidable c] {a b : Option α} {g : α → Option β} : (if c then a else b).bind g = if c then a.bind g else b.bind g := by split <;> rfl
theorem ite_some {α : Type} {c : Prop} [Decidable c] {a b : α} : (if c then some a else some b) = some (if c then a else b) := by split <;> rfl
theorem mulD_lit {n : Nat} {j : Int} (h : (OfNat.ofNat n : Int).natAbs < 2 ^ 64) : mulD (.int (OfNat.ofNat n)) (.int j) = some (.int (OfNat.ofNat n * j)) := mulD_l h
theorem sret_eq {a : Env → Option D} {ρ : Env} : sret a ρ = (a ρ).bind fun d => some (.rt d) := (rfl)
theorem sset_eq {i : Nat} {a : Env → Option D} {ρ : Env} : sset i a ρ = (a ρ).bind fun d => some (.nx (ρ.set i (.sh d))) := (rfl)
theorem sown_eq {i : Nat} {a : Env → Option D} {ρ : Env} : sown i a ρ = (a ρ).bind fun d => some (.nx (ρ.set i (.ow d))) := (rfl)
theorem sbind_eq {p : Pat} {a : Env → Option D} {ρ : Env} : sbind p a ρ = (a ρ).bind fun d => (bindP p d ρ).bind fun ρ' => some (.nx ρ') := (rfl)
theorem snx_eq {ρ : Env} : snx ρ = some (.nx ρ) := (rfl)
theorem sif_eq {c : Env → Option Bool} {a b : Env → Option Res} {ρ : Env} : sif c a b ρ = (c ρ).bind fun k => if k = true then a ρ else b ρ := (rfl)
theorem f1_eq {g : D → Option D} {a : Env → Option D} {ρ : Env} : f1 g a ρ = (a ρ).bind g := (rfl)
theorem f2_eq {g : D → D → Option D} {a b : Env → Option D} {ρ : Env} : f2 g a b ρ = (a ρ).bind fun x => (b ρ).bind fun y => g x y := (rfl)
theorem fN_eq {g : List D → Option D} {a : Env → Option (List D)} {ρ : Env} : fN g a ρ = (a ρ).bind g := (rfl)
theorem fcons_eq {a : Env → Option D} {r : Env → Option (List D)} {ρ : Env} : fcons a r ρ = (a ρ).bind fun x => (r ρ).bind fun xs => some (x :: xs) := (rfl)
theorem fnil_eq {ρ : Env} : fnil ρ = some [] := (rfl)
theorem kc_eq {d : D} {ρ : Env} : kc d ρ = some d := (rfl)
theorem tv_eq {a : Env → Option D} {ρ : Env} : tv a ρ = (a ρ).bind truD := (rfl)
def boolD : D → Option Bool
  | .bl c => some c
  | _ => none
theorem boolD_b {b : Bool} : boolD (.bl b) = some b := (rfl)
theorem tb_eq {a : Env → Option D} {ρ : Env} : tb a ρ = (a ρ).bind boolD := by
  unfold tb boolD
  cases a ρ with
  | none => rfl
  | some d => cases d <;> rfl
theorem tor_eq {a b : Env → Option Bool} {ρ : Env} : tor a b ρ = (a ρ).bind fun c => if c = true then some true else b ρ := (rfl)
theorem tand_eq {a b : Env → Option Bool} {ρ : Env} : tand a b ρ = (a ρ).bind fun c => if c = true then b ρ else some false := (rfl)
theorem tnot_eq {a : Env → Option Bool} {ρ : Env} : tnot a ρ = (a ρ).bind fun c => some (!c) := (rfl)
theorem vand_eq {a b : Env → Option D} {ρ : Env} : vand a b ρ = (a ρ).bind fun x => (truD x).bind fun c => if c = true then b ρ else some x := (rfl)
theorem vor_eq {a b : Env → Option D} {ρ : Env} : vor a b ρ = (a ρ).bind fun x => (truD x).bind fun c => if c = true then some x else b ρ := (rfl)
theorem spar_eq {i j : Nat} {a b : Env → Option D} {ρ : Env} : spar i j a b ρ = (a ρ).bind fun x => (b ρ).bind fun y => some (.nx ((ρ.set i (.sh x)).set j (.sh y))) := (rfl)
theorem sfor_eq {I : Env → Option (List D)} {p : Pat} {b : Env → Option Res} {ρ : Env} : sfor I p b ρ = (I ρ).bind fun items => forD p b items ρ := (rfl)
theorem iseq_eq {a : Env → Option D} {ρ : Env} : iseq a ρ = (a ρ).bind seqD := (rfl)
theorem seqD_l {xs : List D} : seqD (.lst xs) = some xs := (rfl)
theorem seqD_t {xs : List D} : seqD (.tup xs) = some xs := (rfl)
theorem ienum_eq {a : Env → Option D} {ρ : Env} : ienum a ρ = (a ρ).bind enumD := (rfl)
theorem enumD_l {xs : List D} : enumD (.lst xs) = some (numL xs 0) := (rfl)
theorem enumD_t {xs : List D} : enumD (.tup xs) = some (numL xs 0) := (rfl)
def inR (j : Int) : Prop := -(2 ^ 40) ≤ j ∧ j < 2 ^ 40
noncomputable def gdR {α : Type} (p : Prop) (x : α) : Option α := @ite _ p (Classical.propDecidable p) (some x) none
theorem gdR_t {α : Type} {p : Prop} {x : α} (h : p) : gdR p x = some x := if_pos h
theorem gdR_e {α : Type} {p : Prop} [Decidable p] {x : α} : (if p then some x else none) = gdR p x := by
  by_cases h : p
  · rw [if_pos h, gdR_t h]
  · rw [if_neg h]; exact (if_neg h).symm
noncomputable def rng1D : D → Option (List D)
  | .int j => gdR (-(2 ^ 40) ≤ j ∧ j < 2 ^ 40) (rangeL 0 j)
  | _ => none
theorem rng1D_i {j : Int} (h : -(2 ^ 40) ≤ j ∧ j < 2 ^ 40) : rng1D (.int j) = some (rangeL 0 j) := gdR_t h
theorem irange1_eq {a : Env → Option D} {ρ : Env} : irange1 a ρ = (a ρ).bind rng1D := by
  unfold irange1
  cases a ρ with
  | none => rfl
  | some d => cases d <;> first | rfl | exact gdR_e
noncomputable def rng2D : D → D → Option (List D)
  | .int i, .int j => gdR (-(2 ^ 40) ≤ i ∧ i < 2 ^ 40 ∧ -(2 ^ 40) ≤ j ∧ j < 2 ^ 40) (rangeL i j)
  | _, _ => none
theorem rng2D_i {i j : Int} (h : -(2 ^ 40) ≤ i ∧ i < 2 ^ 40 ∧ -(2 ^ 40) ≤ j ∧ j < 2 ^ 40) : rng2D (.int i) (.int j) = some (rangeL i j) := gdR_t h
theorem irange2_eq {a b : Env → Option D} {ρ : Env} : irange2 a b ρ = (a ρ).bind fun x => (b ρ).bind fun y => rng2D x y := by
  unfold irange2
  cases a ρ with
  | none => rfl
  | some d => cases b ρ with
    | none => cases d <;> rfl
    | some e => cases d <;> cases e <;> first | rfl | exact gdR_e
theorem lcF_eq {vs : List Nat} {I : Env → Option (List D)} {p : Pat} {T : Env → Option Bool} {E : Env → Option D} {ρ : Env} : lcF vs I p T E ρ = (I ρ).bind fun items => (lcGo p T E (wipeE ρ vs) items).bind fun out => if items.length < big then some (.lst out) else none := (rfl)
def chL (g' : D → D → Option D) (y : D) (c : Option D) : D → Option D
  | .bl true => c.bind fun w => g' y w
  | .bl false => some (.bl false)
  | _ => none
theorem chL_t {g' : D → D → Option D} {y : D} {c : Option D} : chL g' y c (.bl true) = c.bind fun w => g' y w := (rfl)
theorem chL_f {g' : D → D → Option D} {y : D} {c : Option D} : chL g' y c (.bl false) = some (.bl false) := (rfl)
theorem fch_eq {g g' : D → D → Option D} {a b c : Env → Option D} {ρ : Env} : fch g g' a b c ρ = (a ρ).bind fun x => (b ρ).bind fun y => (g x y).bind (chL g' y (c ρ)) := by
  unfold fch
  have e : ∀ (y z : D), (match z with
    | .bl true => (c ρ).bind fun w => g' y w
    | .bl false => some (.bl false)
    | _ => none) = chL g' y (c ρ) z := fun y z => by
      cases z <;> first | rfl | (rename_i b; cases b <;> rfl)
  cases a ρ with
  | none => rfl
  | some x =>
    cases b ρ with
    | none => rfl
    | some y =>
      show (g x y).bind _ = (g x y).bind _
      cases g x y with
      | none => rfl
      | some z => exact e y z
theorem onone_eq {ρ : Env} : onone ρ = some none := (rfl)
def intO : D → Option (Option Int)
  | .int i => some (some i)
  | _ => none
theorem intO_i {i : Int} : intO (.int i) = some (some i) := (rfl)
theorem osome_eq {a : Env → Option D} {ρ : Env} : osome a ρ = (a ρ).bind intO := by
  unfold osome intO
  cases a ρ with
  | none => rfl
  | some d => cases d <;> rfl
theorem fsl_eq {a : Env → Option D} {l h : Env → Option (Option Int)} {ρ : Env} : fsl a l h ρ = (a ρ).bind fun x => (l ρ).bind fun lo => (h ρ).bind fun hi => slD x lo hi := (rfl)
theorem sdrop_eq {a : Env → Option D} {ρ : Env} : sdrop a ρ = (a ρ).bind fun _ => some (.nx ρ) := (rfl)
/-! ### loops and comprehensions over data -/
theorem lcGo_map {α : Type} {p : Pat} {T : Env → Option Bool} {E : Env → Option D} {ρ : Env} (enc : α → D) (t : α → Bool) (g : α → D) : ∀ (xs : List α), (∀ x ∈ xs, ∃ ρ1, bindP p (enc x) ρ = some ρ1 ∧ T ρ1 = some (t x) ∧ (t x = true → E ρ1 = some (g x))) → lcGo p T E ρ (xs.map enc) = some ((xs.filter t).map g)
  | [], _ => rfl
  | x :: xs, h => by
    obtain ⟨ρ1, h1, h2, h3⟩ := h x List.mem_cons_self
    have ih := lcGo_map enc t g xs fun y hy => h y (List.mem_cons_of_mem _ hy)
    rw [List.map_cons]
    unfold lcGo
    rw [h1, Option.bind_some, h2, Option.bind_some, ih]
    cases ht : t x with
    | true => rw [if_pos rfl, h3 ht, List.filter_cons_of_pos ht]; rfl
    | false => rw [if_neg Bool.false_ne_true, List.filter_cons_of_neg (by rw [ht]; exact Bool.false_ne_true)]
theorem lcGo_all {α : Type} {p : Pat} {E : Env → Option D} {ρ : Env} (enc : α → D) (g : α → D) (xs : List α) (h : ∀ x ∈ xs, ∃ ρ1, bindP p (enc x) ρ = some ρ1 ∧ E ρ1 = some (g x)) : lcGo p tyes E ρ (xs.map enc) = some (xs.map g) := by
  rw [lcGo_map enc (fun _ => true) g xs fun x hx => ?_]
  · rw [List.filter_eq_self.mpr fun _ _ => rfl]
  · obtain ⟨ρ1, h1, h2⟩ := h x hx
    exact ⟨ρ1, h1, rfl, fun _ => h2⟩
theorem forD_nx {α : Type} {p : Pat} {b : Env → Option Res} (enc : α → D) (I : Env → Prop) : ∀ (xs : List α), (∀ x ∈ xs, ∀ ρ, I ρ → ∃ ρ1 ρ2, bindP p (enc x) ρ = some ρ1 ∧ b ρ1 = some (.nx ρ2) ∧ I ρ2) → ∀ ρ, I ρ → ∃ ρ', forD p b (xs.map enc) ρ = some (.nx ρ') ∧ I ρ'
  | [], _, ρ, h0 => ⟨ρ, rfl, h0⟩
  | x :: xs, h, ρ, h0 => by
    obtain ⟨ρ1, ρ2, h1, h2, h3⟩ := h x List.mem_cons_self ρ h0
    obtain ⟨ρ', h4, h5⟩ := forD_nx enc I xs (fun y hy => h y (List.mem_cons_of_mem _ hy)) ρ2 h3
    refine ⟨ρ', ?_, h5⟩
    rw [List.map_cons]
    unfold forD
    rw [h1, Option.bind_some, h2, Option.bind_some]
    exact h4
/-- a loop that carries a state: st is told by the turn's items so far -/
theorem forD_fold {α β : Type} {p : Pat} {b : Env → Option Res} (enc : α → D) (f : β → α → β) (I : β → Env → Prop) : ∀ (xs : List α) (s : β), (∀ x ∈ xs, ∀ s ρ, I s ρ → ∃ ρ1 ρ2, bindP p (enc x) ρ = some ρ1 ∧ b ρ1 = some (.nx ρ2) ∧ I (f s x) ρ2) → ∀ ρ, I s ρ → ∃ ρ', forD p b (xs.map enc) ρ = some (.nx ρ') ∧ I (xs.foldl f s) ρ'
  | [], s, _, ρ, h0 => ⟨ρ, rfl, h0⟩
  | x :: xs, s, h, ρ, h0 => by
    obtain ⟨ρ1, ρ2, h1, h2, h3⟩ := h x List.mem_cons_self s ρ h0
    obtain ⟨ρ', h4, h5⟩ := forD_fold enc f I xs (f s x) (fun y hy => h y (List.mem_cons_of_mem _ hy)) ρ2 h3
    refine ⟨ρ', ?_, h5⟩
    rw [List.map_cons]
    unfold forD
    rw [h1, Option.bind_some, h2, Option.bind_some]
    exact h4
theorem numL_map {α : Type} (enc : α → D) : ∀ (xs : List α) (k : Nat), numL (xs.map enc) k = (xs.zipIdx k).map fun p => D.tup [.int (p.2 : Int), enc p.1]
  | [], _ => rfl
  | x :: xs, k => by
    rw [List.map_cons, List.zipIdx_cons, List.map_cons]
    show _ :: numL (xs.map enc) (k + 1) = _
    rw [numL_map enc xs (k + 1)]
theorem whileD_t {c : Env → Option Bool} {b : Env → Option Res} {n : Nat} {ρ ρ' : Env} (hc : c ρ = some true) (hb : b ρ = some (.nx ρ')) : whileD c b (n + 1) ρ = whileD c b n ρ' := by
  show (c ρ).bind _ = _
  rw [hc, Option.bind_some, if_pos rfl, hb]; rfl
theorem whileD_f {c : Env → Option Bool} {b : Env → Option Res} {n : Nat} {ρ : Env} (hc : c ρ = some false) : whileD c b (n + 1) ρ = some (.nx ρ) := by
  show (c ρ).bind _ = _
  rw [hc, Option.bind_some, if_neg Bool.false_ne_true]
end Pv
set_option Elab.async false
set_option linter.all false
set_option maxRecDepth 100000
set_option maxHeartbeats 4000000
set_option autoImplicit false
namespace Pv
variable [TabT]
open PySem PySem.Spec PyProof.Rows L2
/-! ### slices, wipes, loops: more rows -/
theorem cutL_take {α : Type} (xs : List α) (k : Nat) : cutL xs none (some (k : Int)) = xs.take k := by
  unfold cutL
  rw [HT.sIx_none, HT.sIx_nat, List.drop_zero, Nat.sub_zero]
  by_cases h : k ≤ xs.length
  · rw [Nat.min_eq_left h]
  · rw [Nat.min_eq_right (by omega), List.take_length, List.take_of_length_le (by omega)]
theorem slT {xs : List D} {k : Nat} : slD (.tup xs) none (some (OfNat.ofNat k)) = some (.tup (xs.take k)) := congrArg (fun z : List D => some (D.tup z)) (cutL_take xs k)
theorem slL {xs : List D} {k : Nat} : slD (.lst xs) none (some (OfNat.ofNat k)) = some (.lst (xs.take k)) := congrArg (fun z : List D => some (D.lst z)) (cutL_take xs k)
theorem slS {xs : List Int} {k : Nat} : slD (.scr xs) none (some (OfNat.ofNat k)) = some (.lst ((xs.take k).map D.int)) := congrArg (fun z : List Int => some (D.lst (z.map D.int))) (cutL_take xs k)
theorem slT_1 {xs : List D} : slD (.tup xs) none (some 1) = some (.tup (xs.take 1)) := slT
theorem slL_1 {xs : List D} : slD (.lst xs) none (some 1) = some (.lst (xs.take 1)) := slL
theorem slS_1 {xs : List Int} : slD (.scr xs) none (some 1) = some (.lst ((xs.take 1).map D.int)) := slS
theorem slT_2 {xs : List D} : slD (.tup xs) none (some 2) = some (.tup (xs.take 2)) := slT
theorem slL_2 {xs : List D} : slD (.lst xs) none (some 2) = some (.lst (xs.take 2)) := slL
theorem slS_2 {xs : List Int} : slD (.scr xs) none (some 2) = some (.lst ((xs.take 2).map D.int)) := slS
theorem slT_3 {xs : List D} : slD (.tup xs) none (some 3) = some (.tup (xs.take 3)) := slT
theorem slL_3 {xs : List D} : slD (.lst xs) none (some 3) = some (.lst (xs.take 3)) := slL
theorem slS_3 {xs : List Int} : slD (.scr xs) none (some 3) = some (.lst ((xs.take 3).map D.int)) := slS
theorem slT_4 {xs : List D} : slD (.tup xs) none (some 4) = some (.tup (xs.take 4)) := slT
theorem slL_4 {xs : List D} : slD (.lst xs) none (some 4) = some (.lst (xs.take 4)) := slL
theorem slS_4 {xs : List Int} : slD (.scr xs) none (some 4) = some (.lst ((xs.take 4).map D.int)) := slS
theorem slT_5 {xs : List D} : slD (.tup xs) none (some 5) = some (.tup (xs.take 5)) := slT
theorem slL_5 {xs : List D} : slD (.lst xs) none (some 5) = some (.lst (xs.take 5)) := slL
theorem slS_5 {xs : List Int} : slD (.scr xs) none (some 5) = some (.lst ((xs.take 5).map D.int)) := slS
theorem slT_6 {xs : List D} : slD (.tup xs) none (some 6) = some (.tup (xs.take 6)) := slT
theorem slL_6 {xs : List D} : slD (.lst xs) none (some 6) = some (.lst (xs.take 6)) := slL
theorem slS_6 {xs : List Int} : slD (.scr xs) none (some 6) = some (.lst ((xs.take 6).map D.int)) := slS
theorem slT_7 {xs : List D} : slD (.tup xs) none (some 7) = some (.tup (xs.take 7)) := slT
theorem slL_7 {xs : List D} : slD (.lst xs) none (some 7) = some (.lst (xs.take 7)) := slL
theorem slS_7 {xs : List Int} : slD (.scr xs) none (some 7) = some (.lst ((xs.take 7).map D.int)) := slS
theorem slT_8 {xs : List D} : slD (.tup xs) none (some 8) = some (.tup (xs.take 8)) := slT
theorem slL_8 {xs : List D} : slD (.lst xs) none (some 8) = some (.lst (xs.take 8)) := slL
theorem slS_8 {xs : List Int} : slD (.scr xs) none (some 8) = some (.lst ((xs.take 8).map D.int)) := slS
theorem slT_9 {xs : List D} : slD (.tup xs) none (some 9) = some (.tup (xs.take 9)) := slT
theorem slL_9 {xs : List D} : slD (.lst xs) none (some 9) = some (.lst (xs.take 9)) := slL
theorem slS_9 {xs : List Int} : slD (.scr xs) none (some 9) = some (.lst ((xs.take 9).map D.int)) := slS
theorem slT_10 {xs : List D} : slD (.tup xs) none (some 10) = some (.tup (xs.take 10)) := slT
theorem slL_10 {xs : List D} : slD (.lst xs) none (some 10) = some (.lst (xs.take 10)) := slL
theorem slS_10 {xs : List Int} : slD (.scr xs) none (some 10) = some (.lst ((xs.take 10).map D.int)) := slS
theorem slT_12 {xs : List D} : slD (.tup xs) none (some 12) = some (.tup (xs.take 12)) := slT
theorem slL_12 {xs : List D} : slD (.lst xs) none (some 12) = some (.lst (xs.take 12)) := slL
theorem slS_12 {xs : List Int} : slD (.scr xs) none (some 12) = some (.lst ((xs.take 12).map D.int)) := slS
theorem slT_16 {xs : List D} : slD (.tup xs) none (some 16) = some (.tup (xs.take 16)) := slT
theorem slL_16 {xs : List D} : slD (.lst xs) none (some 16) = some (.lst (xs.take 16)) := slL
theorem slS_16 {xs : List Int} : slD (.scr xs) none (some 16) = some (.lst ((xs.take 16).map D.int)) := slS
theorem addD_L {xs ys : List D} (n : Nat) (h : xs.length + ys.length = n) (h2 : n < big) : addD (.lst xs) (.lst ys) = some (.lst (xs ++ ys)) := addD_l (by omega)
theorem addD_T {xs ys : List D} (n : Nat) (h : xs.length + ys.length = n) (h2 : n < big) : addD (.tup xs) (.tup ys) = some (.tup (xs ++ ys)) := addD_t (by omega)
theorem lstD_n {xs : List D} (n : Nat) (h : xs.length = n) (h2 : n < big) : lstD xs = some (.lst xs) := lstD_s (by omega)
theorem tupD_n {xs : List D} (n : Nat) (h : xs.length = n) (h2 : n < big) : tupD xs = some (.tup xs) := tupD_s (by omega)
theorem obs {α β : Type} {a : α} {f : α → Option β} : (some a).bind f = f a := (rfl)
theorem obn {α β : Type} {f : α → Option β} : (none : Option α).bind f = none := (rfl)
theorem ls0 {α : Type} {x y : α} {xs : List α} : (x :: xs).set 0 y = y :: xs := (rfl)
theorem lsS {α : Type} {x y : α} {n : Nat} {xs : List α} : (x :: xs).set (n + 1) y = x :: xs.set n y := (rfl)
theorem wipe_nil {ρ : Env} : wipeE ρ [] = ρ := (rfl)
theorem wipe_cons {ρ : Env} {v : Nat} {vs : List Nat} : wipeE ρ (v :: vs) = (wipeE ρ vs).set v .no := (rfl)
theorem swhile_eq {c : Env → Option Bool} {b : Env → Option Res} {ρ : Env} : swhile c b ρ = whileD c b fuel ρ := (rfl)
/-- it ends with a state that keeps I -/
def nxP (r : Option Res) (I : Env → Prop) : Prop := ∃ ρ', r = some (.nx ρ') ∧ I ρ'
theorem nxP_nx {I : Env → Prop} {ρ : Env} (h : I ρ) : nxP (some (.nx ρ)) I := ⟨ρ, rfl, h⟩
theorem nxP_seq {I J : Env → Prop} {r : Option Res} {g : Env → Option Res} (h : nxP r I) (hg : ∀ ρ, I ρ → nxP (g ρ) J) : nxP (seqR r g) J := by
  obtain ⟨ρ, rfl, h1⟩ := h
  exact hg ρ h1
theorem nxP_mono {I J : Env → Prop} {r : Option Res} (h : nxP r I) (hg : ∀ ρ, I ρ → J ρ) : nxP r J := by
  obtain ⟨ρ, rfl, h1⟩ := h
  exact ⟨ρ, rfl, hg ρ h1⟩
theorem endP_seq {I : Env → Prop} {r : Option Res} {g : Env → Option Res} {d : Option D} (h : nxP r I) (hg : ∀ ρ, I ρ → endD (g ρ) = d) : endD (seqR r g) = d := by
  obtain ⟨ρ, rfl, h1⟩ := h
  exact hg ρ h1
theorem nxP_for {α : Type} {p : Pat} {b : Env → Option Res} (enc : α → D) {I : Env → Prop} (xs : List α) (h : ∀ x ∈ xs, ∀ ρ, I ρ → ∃ ρ1, bindP p (enc x) ρ = some ρ1 ∧ nxP (b ρ1) I) {ρ : Env} (h0 : I ρ) : nxP (forD p b (xs.map enc) ρ) I := by
  obtain ⟨ρ', h1, h2⟩ := forD_nx enc I xs (fun x hx ρ hρ => by
    obtain ⟨ρ1, e1, ρ2, e2, i2⟩ := h x hx ρ hρ
    exact ⟨ρ1, ρ2, e1, e2, i2⟩) ρ h0
  exact ⟨ρ', h1, h2⟩
theorem nxP_forI {p : Pat} {b : Env → Option Res} {I : Env → Prop} (xs : List D) (h : ∀ x ∈ xs, ∀ ρ, I ρ → ∃ ρ1, bindP p x ρ = some ρ1 ∧ nxP (b ρ1) I) {ρ : Env} (h0 : I ρ) : nxP (forD p b xs ρ) I := by
  have := nxP_for (p := p) (b := b) (id : D → D) xs h h0
  rwa [List.map_id] at this
theorem nxP_fold {α β : Type} {p : Pat} {b : Env → Option Res} (enc : α → D) (f : β → α → β) (I : β → Env → Prop) (xs : List α) (s : β) (h : ∀ x ∈ xs, ∀ s ρ, I s ρ → ∃ ρ1, bindP p (enc x) ρ = some ρ1 ∧ nxP (b ρ1) (I (f s x))) {ρ : Env} (h0 : I s ρ) : nxP (forD p b (xs.map enc) ρ) (I (xs.foldl f s)) := by
  obtain ⟨ρ', h1, h2⟩ := forD_fold enc f I xs s (fun x hx s ρ hρ => by
    obtain ⟨ρ1, e1, ρ2, e2, i2⟩ := h x hx s ρ hρ
    exact ⟨ρ1, ρ2, e1, e2, i2⟩) ρ h0
  exact ⟨ρ', h1, h2⟩
theorem lcF_map {α : Type} {vs : List Nat} {Is : Env → Option (List D)} {p : Pat} {T : Env → Option Bool} {E : Env → Option D} {ρ : Env} (enc : α → D) (t : α → Bool) (g : α → D) (xs : List α) (hI : Is ρ = some (xs.map enc)) (hl : xs.length < big) (h : ∀ x ∈ xs, ∃ ρ1, bindP p (enc x) (wipeE ρ vs) = some ρ1 ∧ T ρ1 = some (t x) ∧ (t x = true → E ρ1 = some (g x))) : lcF vs Is p T E ρ = some (.lst ((xs.filter t).map g)) := by
  rw [lcF_eq, hI, Option.bind_some, lcGo_map enc t g xs h, Option.bind_some, List.length_map, if_pos hl]
theorem lcF_all {α : Type} {vs : List Nat} {Is : Env → Option (List D)} {p : Pat} {E : Env → Option D} {ρ : Env} (enc : α → D) (g : α → D) (xs : List α) (hI : Is ρ = some (xs.map enc)) (hl : xs.length < big) (h : ∀ x ∈ xs, ∃ ρ1, bindP p (enc x) (wipeE ρ vs) = some ρ1 ∧ E ρ1 = some (g x)) : lcF vs Is p tyes E ρ = some (.lst (xs.map g)) := by
  rw [lcF_eq, hI, Option.bind_some, lcGo_all enc g xs h, Option.bind_some, List.length_map, if_pos hl]
theorem rangeL_nat (n : Nat) : rangeL 0 (n : Int) = (List.range n).map fun i => D.int (i : Nat) := by
  unfold rangeL
  rw [Int.sub_zero, Int.toNat_natCast]
  exact List.map_congr_left fun i _ => by rw [Int.zero_add]
theorem Int.ex_nat {a : Int} (h : 0 ≤ a) : ∃ n : Nat, a = (n : Int) := ⟨a.toNat, (Int.toNat_of_nonneg h).symm⟩
theorem k24 : (24 : Int).natAbs < 2 ^ 64 := by decide
theorem k1 : (1 : Int).natAbs < 2 ^ 64 := by decide
/-- a while loop that a measure ends -/
theorem whileD_ind {c : Env → Option Bool} {b : Env → Option Res} {α : Type} (st : α → Env) (ok : α → Prop) (go : α → Bool) (nx : α → α) (m : α → Nat) (hc : ∀ a, ok a → c (st a) = some (go a)) (hb : ∀ a, ok a → go a = true → b (st a) = some (.nx (st (nx a))) ∧ ok (nx a) ∧ m (nx a) < m a) (J : α → Prop) (hJ : ∀ a, ok a → go a = true → J a → J (nx a)) : ∀ (n : Nat) (a : α), ok a → J a → m a < n → ∃ z, whileD c b n (st a) = some (.nx (st z)) ∧ ok z ∧ go z = false ∧ J z
  | 0, _, _, _, h => absurd h (Nat.not_lt_zero _)
  | n + 1, a, h1, hj, h => by
    cases g : go a with
    | false => exact ⟨a, whileD_f (by rw [hc a h1, g]), h1, g, hj⟩
    | true =>
      obtain ⟨e1, e2, e3⟩ := hb a h1 g
      rw [whileD_t (by rw [hc a h1, g]) e1]
      exact whileD_ind st ok go nx m hc hb J hJ n (nx a) e2 (hJ a h1 g hj) (by omega)
theorem listD_t {xs : List D} : listD (.tup xs) = some (.lst xs) := (rfl)
theorem listD_l {xs : List D} : listD (.lst xs) = some (.lst xs) := (rfl)
theorem eqL_refl {f : D → D → Bool} : ∀ (xs : List D), (∀ x ∈ xs, f x x = true) → eqL f xs xs = true
  | [], _ => rfl
  | x :: xs, h => by
    show (f x x && eqL f xs xs) = true
    rw [h x List.mem_cons_self, eqL_refl xs fun y hy => h y (List.mem_cons_of_mem _ hy)]; rfl
theorem eqN_refl : ∀ (n : Nat) (d : D), okD n d = true → eqN n d d = true
  | 0, _, h => by cases h
  | n + 1, d, h => by
    cases d <;> first | rfl | cases h | skip
    · exact beq_self_eq_true _
    · exact beq_self_eq_true _
    · exact eqL_refl _ fun x hx => eqN_refl n x (List.all_eq_true.mp h x hx)
    · exact eqL_refl _ fun x hx => eqN_refl n x (List.all_eq_true.mp h x hx)
theorem okD_ints (n : Nat) (ns : List Int) : okD (n + 2) (.tup (ns.map D.int)) = true := by
  show (ns.map D.int).all (okD (n + 1)) = true
  rw [List.all_map]
  exact List.all_eq_true.mpr fun _ _ => rfl
end Pv
set_option Elab.async false
set_option linter.all false
set_option maxRecDepth 100000
set_option maxHeartbeats 4000000
set_option autoImplicit false
namespace Pv
variable [TabT]
open PySem PySem.Spec PyProof.Rows L2
/-! ### sorted(set(xs)), xs a list of whole numbers -/
abbrev ob0 (w : World) : Obj := { cls := .type "set", dict := none, data := .set #[] 0 (.fresh 0 0 (!w.params.followText "set-order")) }
section
variable {P : Program} {w : World} {A : Around} {E : Value → Shared → Prop} {s : Shared}
abbrev GotS (w : World) (h0 h' : Heap) (ns : List Int) (c : Nat) : Prop := SetR w h' h0.objs.size (fun j => decide (j ∈ ns)) c ∧ c ≤ ns.length ∧ ∀ b o, h0.get? b = some o → h'.get? b = some o
set_option maxHeartbeats 3200000 in
theorem set_of_list {l : Addr} {its : Array Value} (ns : List Int) {Q : Value → Shared → Prop} (hh : A.handled = none) (hl : s.heap.IsList l its) (hi : IntsAre its.toList ns) (hb : ns.length + 1 < scanBound)
    (q : ∀ (h' : Heap) (tk c : Nat), GotS w s.heap h' ns c → Q (.ref s.heap.objs.size) { s with heap := h', toks := tk }) : wpAny (model P w) A (call (.type "set") [.ref l]) Q E s := by
  have hn : its.size = ns.length := by
    have z := hi.length
    rwa [Array.length_toList] at z
  have k1 := F.called_set.made
  have k2 := F.called_set.sub
  obtain ⟨c0, tl0, k3⟩ := F.called_set.mro
  refine wpAny_call (codeAny_of_tree (show wpAny _ _ (callAny (.type "set") _) _ _ _ from ?_))
  refine wpAny_pure ⟨Code.quiet_builtin _ (by decide +kernel), codeAny_builtin F.entry_type_call (by
    rw [Around.under_plain (weight_type_call_type "set" [.ref l] []) rfl]
    have k4 := F.called_set.canCreate
    have k5 := F.called_set.notType
    have k6 := F.typeCall_set_1 (.ref l)
    repeat (any_goals (first | assumption | wp_step))
    refine codeAny_mono (code_set_led1 (.ref l) (E := E) (Q₁ := fun x s1 => x = .ref s.heap.objs.size ∧ s1 = { s with heap := s.heap.push (ob0 w) }) ⟨rfl, rfl⟩) fun r s1 hr => ?_
    cases r with
    | error _ => exact hr
    | ok fl =>
      cases fl with
      | ret x =>
        obtain ⟨rfl, rfl⟩ := hr
        have u1 : (s.heap.push (ob0 w)).get? s.heap.objs.size = some (ob0 w) := Heap.get?_push_size _ rfl
        have u2 : Shared.TypeIs { s with heap := s.heap.push (ob0 w) } (.ref s.heap.objs.size) "set" := ⟨_, u1, rfl⟩
        have u3 := F.called_set.init.bind (.ref s.heap.objs.size)
        have u4 := F.called_set.init.lookup
        repeat (any_goals (first | assumption | wp_step))
        refine codeAny_mono (codeAny_call_builtin (R := wants (fun r s2 => r = .none ∧ ∃ h' tk c, s2 = { s with heap := h', toks := tk } ∧ GotS w s.heap h' ns c) E) F.called_set.init.plain F.entry_set_init (check_set_init_1 u2 (by
          obtain ⟨ol, v1, v2, nl, v3⟩ := hl
          obtain ⟨oc, od, oa, osl⟩ := ol
          simp only at v2 v3
          subst v2 v3
          have v4 : (s.heap.push (ob0 w)).get? l = some { cls := .type "list", dict := od, data := .seq its nl, slots := osl } := Heap.get?_push_of_some _ v1
          have v5 : (s.heap.push (ob0 w)).IsList l its := ⟨_, v4, rfl, nl, rfl⟩
          have v6 : (Value.type "list" == Value.type "dict") = false := by decide
          have v7 := F.sub_list_set
          have v8 := F.sub_list_frozenset
          unfold Builtin.«set.__init__» noKeywords Builtin.Frozenset.updateFrom
          generalize hPI : pyIter = PI
          wp_walk
          subst hPI
          have v9 : l < s.heap.objs.size := Heap.lt_size v1
          refine wpAny_pyIter_list v5 (wpAny_bind (wpAny_runValue ?_))
          have vh : A.in1.in1.in1.handled = none := by simp [hh]
          have vn : l ≠ (s.heap.push (ob0 w)).objs.size := by rw [Heap.size_push]; exact Nat.ne_of_lt (Nat.lt_succ_of_lt v9)
          have vf : s.heap.objs.size ∉ [(s.heap.push (ob0 w)).objs.size, l] := fun z => by
            rw [Heap.size_push] at z
            rcases List.mem_cons.mp z with z | z
            · exact Nat.ne_of_lt (Nat.lt_succ_self _) z
            · exact Nat.ne_of_gt v9 (List.mem_singleton.mp z)
          have vv : ∀ (i : Nat) (v : Value), its[i]? = some v → ∃ k t, ns[i]? = some k ∧ v = .int k t := fun i v hv => by
            have hj : i < ns.length := hn ▸ (Array.getElem?_eq_some_iff.mp hv).1
            obtain ⟨t, e⟩ := PyProof.Rows.IntsAre.int_at hi i v (by rw [Array.getElem?_toList]; exact hv)
            rw [List.getD_eq_getElem?_getD, List.getElem?_eq_getElem hj] at e
            exact ⟨ns[i], t, List.getElem?_eq_getElem hj, e⟩
          refine set_update_ints ((Walks.list vh _ l vn its).toS) s.heap.objs.size vf ns hn hb vv (its.size - 0) 0 _ (by omega) (Nat.zero_le _) ⟨⟨_, Heap.get?_push_size _ rfl, rfl, rfl⟩, v5.push _⟩ ⟨0, Nat.le_refl 0, setR_new_at (Heap.get?_push_of_some _ u1)⟩ fun s3 c3 mv hc3 R3 => ?_
          obtain ⟨h3, g3, d3, t3, o3⟩ := s3
          obtain rfl : g3 = s.gens := mv.gens
          obtain rfl : d3 = s.drawn := mv.drawn
          obtain rfl : o3 = s.os := mv.os
          refine (show wpAny _ _ _ _ _ _ from wpAny_pure (show wpAny _ _ (ret Value.none) _ _ _ from wpAny_pure ⟨rfl, h3, t3, c3, rfl, R3, hn ▸ hc3, fun b o e => ?_⟩))
          have w0 : b < s.heap.objs.size := Heap.lt_size e
          refine mv.heap b o (fun z => ?_) (Heap.get?_push_of_some _ (Heap.get?_push_of_some _ e))
          rcases List.mem_cons.mp z with z | z
          · exact Nat.ne_of_lt w0 z
          · rw [List.mem_singleton.mp z, Heap.size_push] at w0
            exact absurd w0 (Nat.not_lt_of_le (Nat.le_succ _))))) fun r2 s2 hr2 => ?_
        cases r2 with
        | error _ => exact hr2
        | ok fl2 =>
          cases fl2 with
          | ret r =>
            obtain ⟨rfl, h', tk, c, rfl, hg⟩ := hr2
            repeat (any_goals (first | assumption | wp_step))
            exact q _ _ _ hg
          | _ => exact hr2.elim
      | _ => exact hr.elim)⟩
end
end Pv
set_option Elab.async false
set_option linter.all false
set_option maxRecDepth 100000
set_option maxHeartbeats 4000000
set_option autoImplicit false
namespace Pv
variable [TabT]
open PySem PySem.Spec PyProof.Rows L2
def insU (x : Int) : List Int → List Int
  | [] => [x]
  | y :: l => if x < y then x :: y :: l else if x = y then y :: l else y :: insU x l
def sortU : List Int → List Int
  | [] => []
  | x :: l => insU x (sortU l)
theorem mem_insU {x k : Int} : ∀ {l : List Int}, k ∈ insU x l ↔ k = x ∨ k ∈ l
  | [] => by unfold insU; simp
  | y :: l => by
    unfold insU
    split
    · simp
    · split
      · rename_i h; subst h; simp
      · rw [List.mem_cons, mem_insU (l := l), List.mem_cons]
        constructor
        · rintro (h | h | h)
          · exact .inr (.inl h)
          · exact .inl h
          · exact .inr (.inr h)
        · rintro (h | h | h)
          · exact .inr (.inl h)
          · exact .inl h
          · exact .inr (.inr h)
theorem mem_sortU {k : Int} : ∀ {l : List Int}, k ∈ sortU l ↔ k ∈ l
  | [] => Iff.rfl
  | x :: l => by
    show k ∈ insU x (sortU l) ↔ _
    rw [mem_insU, mem_sortU (l := l), List.mem_cons]
theorem insU_up {x : Int} : ∀ {l : List Int}, l.Pairwise (· < ·) → (insU x l).Pairwise (· < ·)
  | [], _ => by unfold insU; simp
  | y :: l, h => by
    obtain ⟨h1, h2⟩ := List.pairwise_cons.mp h
    unfold insU
    split
    · rename_i hx
      refine List.pairwise_cons.mpr ⟨fun z hz => ?_, h⟩
      rcases List.mem_cons.mp hz with rfl | hz
      · exact hx
      · exact Int.lt_trans hx (h1 z hz)
    · split
      · exact h
      · refine List.pairwise_cons.mpr ⟨fun z hz => ?_, insU_up h2⟩
        rcases mem_insU.mp hz with rfl | hz
        · omega
        · exact h1 z hz
theorem sortU_up : ∀ l : List Int, (sortU l).Pairwise (· < ·)
  | [] => .nil
  | _ :: l => insU_up (sortU_up l)
theorem up_eq : ∀ {l m : List Int}, l.Pairwise (· < ·) → m.Pairwise (· < ·) → (∀ k, k ∈ l ↔ k ∈ m) → l = m
  | [], [], _, _, _ => rfl
  | [], y :: m, _, _, h => absurd ((h y).mpr List.mem_cons_self) List.not_mem_nil
  | x :: l, [], _, _, h => absurd ((h x).mp List.mem_cons_self) List.not_mem_nil
  | x :: l, y :: m, hl, hm, h => by
    obtain ⟨h1, h2⟩ := List.pairwise_cons.mp hl
    obtain ⟨h3, h4⟩ := List.pairwise_cons.mp hm
    have e : x = y := by
      rcases List.mem_cons.mp ((h x).mp List.mem_cons_self) with e | e
      · exact e
      · rcases List.mem_cons.mp ((h y).mpr List.mem_cons_self) with e2 | e2
        · exact e2.symm
        · have a1 := h3 x e
          have a2 := h1 y e2
          omega
    subst e
    rw [up_eq h2 h4 fun k => ?_]
    constructor
    · intro hk
      rcases List.mem_cons.mp ((h k).mp (List.mem_cons_of_mem _ hk)) with e | e
      · have := h1 k hk; omega
      · exact e
    · intro hk
      rcases List.mem_cons.mp ((h k).mpr (List.mem_cons_of_mem _ hk)) with e | e
      · have := h3 k hk; omega
      · exact e
theorem nodup_up : ∀ {l : List Int}, l.Pairwise (· < ·) → l.Nodup := fun h => h.imp fun {a b} h e => by omega
theorem set_count {w : World} {h : Heap} {a : Addr} {ns : List Int} {c : Nat} (R : SetR w h a (fun j => decide (j ∈ ns)) c) : c = (sortU ns).length := by
  obtain ⟨o, es, ep, t, _, _, _, _, nd, mem, _, _, hc, _⟩ := R
  rw [← hc, ← Array.length_toList, ← List.length_map (f := keyOf) (as := es.toList)]
  exact List.Perm.length_eq ((List.perm_ext_iff_of_nodup nd (nodup_up (sortU_up ns))).mpr fun k => by rw [← mem, mem_sortU]; simp)
section
variable {X : Cx}
/-- set(xs), xs a list of ints -/
def rSetOfI (K : PySem.W.Frag) (w : World) : List V → Hp → VK → Prop := fun vs H Q => ∃ (l : Addr) (ns : List Int), vs = [V.ref l] ∧ SqL K H l (ns.map V.int) ∧ ns.length < 4000 ∧
  ∀ a c, H a = none → c = (sortU ns).length → Q (.ref a) (upd H a (SetO w a (fun j => decide (j ∈ ns)) c))
theorem cr_setOfI (hc : X.calm = true) : CallR X (.type "set") (rSetOfI X.K X.w) := by
  intro pins s σ H vs us Q I r ⟨l, ns, e, hl, hn, q⟩
  subst e
  rw [Vals.ref1 r]
  obtain ⟨its, rv, pl, hz⟩ := I.list hl
  refine set_of_list (P := X.prog) (w := X.w) ns (I.ok.hd hc) pl.isList (show IntsAre its.toArray.toList ns from ints_of_vals rv) (by unfold scanBound; omega) fun h' tk c ⟨R, hcn, k⟩ => ?_
  have free : H s.heap.objs.size = none := I.hok.fresh (Nat.le_refl _)
  exact ⟨.ref s.heap.objs.size, _, I.laid (t' := tk) k (Nat.le_refl _) (setO_new R), rfl, q _ c free (set_count R)⟩
end
def ssD : D → Option D
  | .lst ds => (asInts ds).bind fun ns => if ns.length < 4000 ∧ (sortU ns).length < 64 then some (.lst ((sortU ns).map D.int)) else none
  | _ => none
section
variable {Γ : Gam} {N : List Str} {sc : Scope} {κ1 : Kd}
theorem d_sortset {ea : Expr} {a : Env → Option D} {p p2 q pos : Pos} (hg : glB sc "sorted" = true) (hm : Γ.mg "sorted" = none) (hg2 : glB sc "set" = true) (hm2 : Γ.mg "set" = none) (ha : DV Γ N sc κ1 ea a)
    (hs : Pl1 ea [] := by exact fun _ => rfl) (hs2 : Pl1 (.Call (.Name "set" p2) [ea] [] q) [] := by exact fun _ => rfl) : DV Γ N sc .f (.Call (.Name "sorted" p) [.Call (.Name "set" p2) [ea] [] q] [] pos) (f1 ssD a) := by
  obtain ⟨ta, pa, sa⟩ := ha.ex
  refine ⟨tCB (rSortedSet Γ.w) (tCons (tCB (rSetOfI Γ.K Γ.w) (tCons ta tNil)) tNil), fun X gX => ?_, fun H0 ρ σ G H Q z s E e q => ?_⟩
  · refine pe_callB (by rw [← gX.w]; exact cr_sortedSet gX.calm) (gl_of gX hg) (by rw [gX.mg]; exact hm) (by decide +kernel) (pa_cons ?_ pa_nil (hs2 _)) (by decide) (by decide) (hs2 _) rfl
    exact pe_callTy (by rw [← gX.w, ← gX.K]; exact cr_setOfI gX.calm) (gl_of gX hg2) (by rw [gX.mg]; exact hm2) PyProof.Rows.boot_set (pa_cons (pa X gX) pa_nil (hs _)) (by decide) (by decide) (hs _) rfl
  · unfold f1 at e
    cases ea : a ρ with
    | none => rw [ea] at e; cases e
    | some x =>
      rw [ea] at e
      cases x <;> try cases e
      rename_i ds
      have e : ((asInts ds).bind fun ns => if ns.length < 4000 ∧ (sortU ns).length < 64 then some (D.lst ((sortU ns).map D.int)) else none) = some z := e
      cases ei : asInts ds with
      | none => rw [ei] at e; cases e
      | some ns =>
        rw [ei, Option.bind_some] at e
        split at e
        · rename_i h64
          cases e
          refine sa H0 ρ σ G H _ _ s E ea fun G1 H1 v g1 o1 => ?_
          obtain ⟨l, rfl, h1⟩ := lst_ints g1.s o1.b ei
          refine ⟨l, ns, rfl, SqL.of h1, h64.1, fun b c hb hc => ?_⟩
          refine ⟨b, _, c, rfl, upd_same, by have := h64.2; omega, fun ms p' hp1 hp2 hp3 hp4 => ?_⟩
          have es : ms = sortU ns := up_eq hp1 (sortU_up ns) fun k => by rw [hp2, mem_sortU]; simp
          rw [es]
          have g2 := g1.trans (Grow.newH (o := SetO Γ.w b (fun j => decide (j ∈ ns)) c) g1.s hb)
          exact q _ _ _ (g2.trans (Grow.newH g2.s hp4)) ⟨p', rfl, SL.free g2.h hp4, g2.s.free hp4, _, upd_same, RepL.ints _⟩
        · cases e
end
end Pv
set_option Elab.async false
set_option linter.all false
set_option maxRecDepth 100000
set_option maxHeartbeats 4000000
set_option autoImplicit false
namespace Pv
variable [TabT]
open PySem PySem.Spec PyProof.Rows L2
/-! ### a class's __init__ that lays a dict and fills it in two loops -/
section
variable {Γ : Gam} {N : List Str} {sc : Scope} {G H G' H' : Hp} {α : Type}
def nxE : Option Res → Option Env
  | some (.nx ρ) => some ρ
  | _ => none
theorem nxE_eq {r : Option Res} {ρ : Env} (h : nxE r = some ρ) : r = some (.nx ρ) := by
  unfold nxE at h
  split at h
  · cases h; rfl
  · cases h
def NoOw (ρ : Env) : Prop := ∀ (i : Nat) (d : D), ρ[i]? ≠ some (Sl.ow d)
def unOw : Sl → Sl
  | .ow _ => .no
  | s => s
theorem unOw_no (ρ : Env) : NoOw (ρ.map unOw) := fun i d h => by
  rw [List.getElem?_map] at h
  cases e : ρ[i]? with
  | none => rw [e] at h; cases h
  | some s => rw [e] at h; cases s <;> cases h
theorem NoOw.set {ρ : Env} (h : NoOw ρ) (i : Nat) (d : D) : NoOw (ρ.set i (.sh d)) := fun j e q => by
  by_cases hj : i = j
  · subst hj
    by_cases hl : i < ρ.length
    · rw [List.getElem?_set_self hl] at q; cases q
    · rw [List.getElem?_eq_none (by simpa using hl)] at q; cases q
  · rw [List.getElem?_set_ne hj] at q
    exact h j e q
theorem NoOw.setE : ∀ (is : List Nat) (ds : List D) {ρ : Env}, NoOw ρ → NoOw (setE ρ is ds)
  | [], _, _, h => h
  | _ :: _, [], _, h => h
  | i :: is, d :: ds, _, h => NoOw.setE is ds (h.set i d)
theorem NoOw.bind {p : Pat} {d : D} {ρ ρ' : Env} (h : NoOw ρ) (e : bindP p d ρ = some ρ') : NoOw ρ' := by
  unfold bindP at e
  split at e
  · cases e; exact h.set _ _
  · split at e
    · cases e; exact h.setE _ _
    · cases e
  · cases e
theorem EnvOk.un {H0 : Hp} {ρ : Env} {σ : L2.St} (E : EnvOk Γ H0 G H ρ σ) (s : SL G G') (tb : TbH H') : EnvOk Γ H0 G' H' (ρ.map unOw) σ := by
  refine ⟨by rw [List.length_map]; exact E.len, fun i t h => ?_, fun i j d e a _ h _ _ => absurd h (unOw_no ρ i d), tb⟩
  rw [List.getElem?_map] at h
  cases e : ρ[i]? with
  | none => rw [e] at h; cases h
  | some u =>
    rw [e] at h
    cases h
    cases u with
    | no => trivial
    | ow d => trivial
    | sh d => obtain ⟨v, h1, h2⟩ := E.sl i _ e; exact ⟨v, h1, h2.mono s⟩
theorem EnvOk.noH {H0 : Hp} {ρ : Env} {σ : L2.St} (E : EnvOk Γ H0 G H ρ σ) (n : NoOw ρ) (tb : TbH H') : EnvOk Γ H0 G H' ρ σ :=
  ⟨E.len, fun i s h => by
    have := E.sl i s h
    cases s with
    | no => trivial
    | sh d => exact this
    | ow d => exact absurd h (n i d), E.ne, tb⟩
theorem EnvOk.at0 {H0 : Hp} {ρ : Env} {σ : L2.St} {v : V} {d : D} (E : EnvOk Γ H0 G H ρ σ) (n : NoOw ρ) (h0 : σ[0]? = some (some v)) (r : Rep Γ.K Γ.C G v d) : EnvOk Γ H0 G H (ρ.set 0 (.sh d)) σ := by
  refine ⟨by rw [List.length_set]; exact E.len, fun i s h => ?_, fun i j e f a _ h _ _ => absurd h (n.set 0 d i e), E.tb⟩
  by_cases hi : i = 0
  · subst hi
    by_cases hl : 0 < ρ.length
    · rw [List.getElem?_set_self hl] at h; cases h; exact ⟨v, h0, r⟩
    · rw [List.getElem?_eq_none (by simpa using hl)] at h; cases h
  · rw [List.getElem?_set_ne (Ne.symm hi)] at h
    exact E.sl i s h
theorem EnvOk.updX {H0 : Hp} {ρ : Env} {σ : L2.St} {x c dx : Addr} {fs : List (Str × V)} {o : HO} (E : EnvOk Γ H0 G H ρ σ) (hx : H x = some (.ins c dx fs)) : EnvOk Γ H0 G (L2.upd H x o) ρ σ := by
  refine ⟨E.len, fun i s h => ?_, E.ne, E.tb.own (E.tb.ne hx fun _ z => nomatch z) (noC_ins hx)⟩
  have h2 := E.sl i s h
  cases s with
  | no => trivial
  | sh d => exact h2
  | ow d =>
    obtain ⟨a, h3, h4, h5, h6⟩ := h2
    refine ⟨a, h3, h4, h5, ?_⟩
    have ne : ∀ o', H a = some o' → (∀ c dx fs, o' ≠ .ins c dx fs) → a ≠ x := fun o' e1 e2 e3 => by
      subst e3
      rw [hx] at e1
      cases e1
      exact e2 _ _ _ rfl
    cases d <;> try exact h6.elim
    · obtain ⟨vs, k1, k2⟩ := h6
      exact ⟨vs, by rw [upd_ne (ne _ k1 fun _ _ _ z => by cases z)]; exact k1, k2⟩
    · obtain ⟨kvs, k1, k2⟩ := h6
      exact ⟨kvs, by rw [upd_ne (ne _ k1 fun _ _ _ z => by cases z)]; exact k1, k2⟩
    · obtain ⟨kvs, k1, k2⟩ := h6
      exact ⟨kvs, by rw [upd_ne (ne _ k1 fun _ _ _ z => by cases z)]; exact k1, k2⟩
theorem Grow.keepO {a : Addr} {o : HO} (g : Grow G H G' H') (h : H a = some o) (h0 : G a = none) (ht : ∀ vs, o ≠ .tup vs) (hc : ∀ c q, o ≠ LamX.CodeO c q) : G' a = none := by
  by_cases q : G' a = none
  · exact q
  · rcases g.n a h0 q with e | ⟨ws, e⟩ | ⟨c, q', e⟩
    · rw [h] at e; cases e
    · rw [h] at e; cases e; exact absurd rfl (ht ws)
    · rw [h] at e; exact absurd (Option.some.inj e) (hc c q')
theorem setL_0 : ∀ {is : List Nat} {vs : List V} {σ : L2.St}, 0 ∉ is → (setL σ is vs)[0]? = σ[0]?
  | [], _, _, _ => rfl
  | _ :: _, [], _, _ => rfl
  | i :: is, v :: vs, σ, h => by
    show (setL (σ.set i (some v)) is vs)[0]? = _
    rw [setL_0 fun z => h (List.mem_cons_of_mem _ z), List.getElem?_set_ne fun z => h (by rw [z]; exact List.mem_cons_self)]
def forGo (p : Pat) (step : α → Env → Option (α × Env)) : List D → α → Env → Option (α × Env)
  | [], a, ρ => some (a, ρ)
  | x :: xs, a, ρ => (bindP p x ρ).bind fun ρ1 => (step a ρ1).bind fun z => forGo p step xs z.1 z.2
def forX (I : Env → Option (List D)) (p : Pat) (step : α → Env → Option (α × Env)) : α → Env → Option (α × Env) := fun a ρ => (I ρ).bind fun items => forGo p step items a ρ
def SemX (Γ : Gam) (H0 : Hp) (vx : V) (X : α → Hp → Hp → Prop) (t : TS) (step : α → Env → Option (α × Env)) : Prop :=
  ∀ (a : α) (ρ : Env) (σ : L2.St) (G H : Hp) (De : Ends) (a' : α) (ρ' : Env), SL G H → EnvOk Γ H0 G H ρ σ → NoOw ρ → σ[0]? = some (some vx) → X a G H → step a ρ = some (a', ρ') →
    (∀ (G' H' : Hp) (σ' : L2.St), SL G' H' → SL G G' → EnvOk Γ H0 G' H' ρ' σ' → NoOw ρ' → σ'[0]? = some (some vx) → X a' G' H' → De.nx σ' H') → t De σ H
theorem sem_forX {H0 : Hp} {vx : V} {X : α → Hp → Hp → Prop} {wi : TI} {I : Env → Option (List D)} {gt : TG} {p : Pat} {tb : TS} {step : α → Env → Option (α × Env)} (hX : ∀ a G H G' H', X a G H → Grow G H G' H' → X a G' H')
    (si : SemI Γ wi I) (sg : SemG Γ gt p) (h0 : 0 ∉ p.is) (sb : SemX Γ H0 vx X tb step) : SemX Γ H0 vx X (tFor wi gt tb) (forX I p step) := by
  intro a ρ σ G H De a' ρ' s E no hσ xa e q
  unfold forX at e
  cases ei : I ρ with
  | none => rw [ei] at e; cases e
  | some items =>
    rw [ei] at e
    have e : forGo p step items a ρ = some (a', ρ') := e
    refine si H0 ρ σ G H _ items s E ei fun J Gp Y G1 H1 g1 wk hGp hY => ?_
    refine for_it wk (fun i σ' H' => ∃ G' ρ1 a1, SL G' H' ∧ SL G1 G' ∧ EnvOk Γ H0 G' H' ρ1 σ' ∧ NoOw ρ1 ∧ σ'[0]? = some (some vx) ∧ X a1 G' H' ∧ forGo p step (items.drop i) a1 ρ1 = some (a', ρ'))
      ⟨G1, ρ, a, g1.s, SL.refl _, E.grow g1, no, hσ, hX _ _ _ _ _ xa g1, by rw [List.drop_zero]; exact e⟩ (fun i σ' H' _ h => ?_) (fun i x σ2 H2 H3 hlt h y => ?_) fun σ' H' h => ?_
    · obtain ⟨G', _, _, s1, s2, _⟩ := h
      exact hGp G' H' s2 s1
    · obtain ⟨G2, ρ2, a2, s2, t2, E2, no2, hσ2, x2, h2⟩ := h
      obtain ⟨G3, d, hd, g3, r3⟩ := hY i H2 x H3 G2 hlt t2 s2 y
      have hdrop : items.drop i = d :: items.drop (i + 1) := by
        obtain ⟨hl, e1⟩ := List.getElem?_eq_some_iff.mp hd
        rw [List.drop_eq_getElem_cons hl, e1]
      rw [hdrop] at h2
      have h2 : ((bindP p d ρ2).bind fun ρ1 => (step a2 ρ1).bind fun z => forGo p step (items.drop (i + 1)) z.1 z.2) = some (a', ρ') := h2
      cases eb : bindP p d ρ2 with
      | none => rw [eb] at h2; cases h2
      | some ρ3 =>
        simp only [eb, Option.bind_some] at h2
        cases er : step a2 ρ3 with
        | none => rw [er] at h2; cases h2
        | some z =>
          simp only [er, Option.bind_some] at h2
          refine sg H0 ρ2 ρ3 σ2 G3 H3 x d _ g3.s (E2.grow g3) eb r3 fun vs E3 => ?_
          refine sb a2 ρ3 _ G3 H3 _ z.1 z.2 g3.s E3 (no2.bind eb) (by rw [setL_0 h0]; exact hσ2) (hX _ _ _ _ _ x2 g3) er fun G4 H4 σ4 s4 t4 E4 no4 hσ4 x4 => ?_
          exact ⟨G4, z.2, z.1, s4, (t2.trans g3.g).trans t4, E4, no4, hσ4, x4, h2⟩
    · obtain ⟨G2, ρ2, a2, s2, t2, E2, no2, hσ2, x2, h2⟩ := h
      rw [List.drop_length] at h2
      cases h2
      exact q G2 H' σ' s2 (g1.g.trans t2) E2 no2 hσ2 x2
def putX (K V : Env → Option D) : List (List Int × D) → Env → Option (List (List Int × D) × Env) := fun kds ρ => (V ρ).bind fun v => (K ρ).bind fun kd => match kd with
  | .tup ks => (asInts ks).bind fun ns => if kds.length < big then some (putD kds ns v, ρ) else none
  | _ => none
def NetX (Γ : Gam) (Gb Hb : Hp) (x y dx : Addr) (v1 v2 : V) : List (List Int × D) → Hp → Hp → Prop := fun kds G H => Grow Gb Hb G H ∧ G x = some (.ins Γ.C dx [("fars", v1), ("turns", v2), ("inside", .ref y)]) ∧ G y = none ∧
  ∃ kvs, H y = some (.dT kvs) ∧ kvs.map Prod.fst = kds.map (fun p => kk p.1) ∧ RepL Γ.K Γ.C G (kvs.map Prod.snd) (kds.map Prod.snd)
theorem NetX.grow {Gb Hb : Hp} {x y dx : Addr} {v1 v2 : V} (kds : List (List Int × D)) (G H G' H' : Hp) (h : NetX Γ Gb Hb x y dx v1 v2 kds G H) (g : Grow G H G' H') : NetX Γ Gb Hb x y dx v1 v2 kds G' H' := by
  obtain ⟨h1, h2, h3, kvs, h4, h5, h6⟩ := h
  exact ⟨h1.trans g, g.g.ins h2, g.keepO h4 h3 (fun _ z => by cases z) (fun _ _ => dT_code), kvs, g.x _ _ h3 h4 (fun _ z => nomatch z), h5, h6.mono g.g⟩
theorem sem_putX {Gb Hb H0 : Hp} {x y dx : Addr} {v1 v2 : V} (C : NetC Γ) (hy : Hb y = none) {K V : Env → Option D} {tk tv : TE} (sk : SemV Γ .e tk K) (sv : SemV Γ .e tv V) :
    SemX Γ H0 (.ref x) (NetX Γ Gb Hb x y dx v1 v2) (sDPut (tFld Γ.K (tVar 0) "inside") tk tv) (putX K V) := by
  intro kds ρ σ G H De kds' ρ' s E no hσ xa e q
  obtain ⟨h1, h2, h3, kvs, h4, h5, h6⟩ := xa
  unfold putX at e
  cases ea : V ρ with
  | none => rw [ea] at e; cases e
  | some d =>
    cases ek : K ρ with
    | none => simp only [ea, ek, Option.bind_some] at e; cases e
    | some kd =>
      simp only [ea, ek, Option.bind_some] at e
      split at e
      · rename_i ks
        cases en : asInts ks with
        | none => rw [en] at e; cases e
        | some ns =>
          simp only [en, Option.bind_some] at e
          split at e
          · rename_i hl
            cases e
            refine sv H0 ρ σ G H _ d s E ea fun G1 H1 v g1 o1 => ?_
            refine ⟨.ref x, hσ, x, Γ.C, dx, _, .ref y, rfl, g1.s.ins (g1.g.ins h2), C.cl, C.ni, look_i, ?_⟩
            refine sk H0 ρ σ G1 H1 _ _ g1.s (E.grow g1) ek fun G2 H2 w g2 o2 => ?_
            have o2 : Rep Γ.K Γ.C G2 w (.tup ks) := o2
            cases o2 with
            | tup h7 h8 =>
              rw [asInts_eq en] at h8
              have e8 := kk_tup h8
              subst e8
              have g12 := g1.trans g2
              have h4' : H2 y = some (.dT kvs) := g12.x _ _ h3 h4 fun _ z => nomatch z
              have h3' : G2 y = none := g12.keepO h4 h3 (fun _ z => by cases z) (fun _ _ => dT_code)
              have hlen : kvs.length = kds.length := by simpa using congrArg List.length h5
              obtain ⟨m1, m2⟩ := putK_map (ns := ns) h5 (h6.mono g12.g) (Rep.mono g2.g o1)
              refine ⟨y, _, rfl, .inr ⟨kvs, kk ns, _, h4', rfl, g2.s.tup h7, by rw [hlen]; exact big_lt hl, rfl⟩, ?_⟩
              have gg := (h1.trans g12).updH (o := .dT (putK kvs (kk ns) v)) h3' hy (noC_dT h4')
              exact q G2 _ σ gg.s g12.g ((E.grow g12).noH no ((E.grow g12).tb.own ((E.grow g12).tb.ne h4' fun _ z => nomatch z) (noC_dT h4'))) no hσ ⟨gg, g12.g.ins h2, h3', _, upd_same, m1, m2⟩
          · cases e
      · cases e
def adrB (ρ : Env) (x : Addr) : Bool := match ρ[0]? with
  | some (Sl.sh (D.adr y)) => y == x
  | _ => false
abbrev netN : List Str := ["self", "sheet", "fars", "turns", "inner", "outer", "begin", "wide", "k", "n"]
def netF (F1 F2 F3 : Env → Option Res) (Ef Et : Env → Option D) (Ik : Env → Option (List D)) (pk : Pat) (In : Env → Option (List D)) (pn : Pat) (Kf Vf : Env → Option D) (x : Addr) (d : D) : Option D :=
  (nxE (F1 [.sh (.adr x), .sh d, .no, .no, .no, .no, .no, .no, .no, .no])).bind fun ρ1 => (nxE (F2 ρ1)).bind fun ρ2 => (nxE (F3 ρ2)).bind fun ρ3 => if adrB ρ3 x = true then (Ef ρ3).bind fun f => (Et ρ3).bind fun t =>
    (forX Ik pk (forX In pn (putX Kf Vf)) [] ((ρ3.map unOw).set 0 (.sh (.net f t .non)))).bind fun z => some (.net f t (.dct z.1)) else none
/-- what does not lean on where the net lies -/
noncomputable def anyX (F : Addr → D → Option D) (d : D) : Option D := @ite _ (∀ x, F x d = F 0 d) (Classical.propDecidable _) (F 0 d) none
theorem anyX_e {F : Addr → D → Option D} {d n : D} (h : anyX F d = some n) (x : Addr) : F x d = some n := by
  unfold anyX at h
  split at h
  · rename_i k; rw [k x]; exact h
  · cases h
theorem anyX_i {F : Addr → D → Option D} {d n : D} (h : ∀ x, F x d = some n) : anyX F d = some n := by
  unfold anyX
  rw [if_pos fun x => by rw [h, h]]; exact h 0
end
end Pv
set_option Elab.async false
set_option linter.all false
set_option maxRecDepth 100000
set_option maxHeartbeats 4000000
set_option autoImplicit false
namespace Pv
variable [TabT]
open PySem PySem.Spec PyProof.Rows L2
section
variable {Γ : Gam} {G H G' H' : Hp}
theorem start_net (x : Addr) (v : V) : L2.start netN [.ref x, v] = [some (.ref x), some v, none, none, none, none, none, none, none, none] := rfl
theorem env_net {H0 : Hp} {x : Addr} {v : V} {d : D} (tb : TbH H) (r : Rep Γ.K Γ.C G v d) : EnvOk Γ H0 G H [.sh (.adr x), .sh d, .no, .no, .no, .no, .no, .no, .no, .no] (L2.start netN [.ref x, v]) := by
  rw [start_net]
  refine ⟨rfl, fun i s h => ?_, fun i j e f a _ h _ _ => ?_, tb⟩
  · match i, h with
    | 0, h => cases h; exact ⟨_, rfl, .adr x⟩
    | 1, h => cases h; exact ⟨_, rfl, r⟩
    | 2, h => cases h; trivial
    | 3, h => cases h; trivial
    | 4, h => cases h; trivial
    | 5, h => cases h; trivial
    | 6, h => cases h; trivial
    | 7, h => cases h; trivial
    | 8, h => cases h; trivial
    | 9, h => cases h; trivial
  · have := List.mem_of_getElem? h
    simp at this
theorem net_init {k : Nat} {st : Stmt} {f : Addr} {fd : FuncData} {F1 F2 F3 : Env → Option Res} {s1 s2 s3 : Stmt} {ef et ek ev tgk itk tgn itn : Expr} {Ef Et Kf Vf : Env → Option D} {Ik In : Env → Option (List D)} {pk pn : Pat} {p1 p2 p3 p4 p5 p6 p7 p8 p9 p10 q1 q2 q3 q4 q5 q6 : Pos} {fN : D → Option D}
    (hc : ∀ d n, fN d = some n → ∀ x, netF F1 F2 F3 Ef Et Ik pk In pn Kf Vf x d = some n)
    (Fn : Fun Γ.K "__init__" "Net.__init__" st f fd) (S : FnScope netN ["self", "sheet"] (defScope st)) (C : NetC (Γ.at k))
    (hbody : defBody st = [s1, s2, s3, .Assign [.Attribute (.Name "self" p1) "fars" p2] ef p3, .Assign [.Attribute (.Name "self" p4) "turns" p5] et p6, .Assign [.Attribute (.Name "self" p7) "inside" p8] (.Dict [] [] p9) p10,
      .For tgk itk [.For tgn itn [.Assign [.Subscript (.Attribute (.Name "self" q1) "inside" q2) ek q3] ev q4] [] q5] [] q6])
    (hv : visB (defScope st) "self" = true)
    (h1 : DS (Γ.at k) netN (defScope st) s1 F1) (h2 : DS (Γ.at k) netN (defScope st) s2 F2) (h3 : DS (Γ.at k) netN (defScope st) s3 F3)
    (hf : DV (Γ.at k) netN (defScope st) .e ef Ef) (ht : DV (Γ.at k) netN (defScope st) .e et Et)
    (ik : DI (Γ.at k) netN (defScope st) tgk itk Ik) (gk : DG (Γ.at k) netN (defScope st) true tgk pk) (jn : DI (Γ.at k) netN (defScope st) tgn itn In) (gn : DG (Γ.at k) netN (defScope st) true tgn pn)
    (z1 : 0 ∉ pk.is) (z2 : 0 ∉ pn.is)
    (hk : DV (Γ.at k) netN (defScope st) .e ek Kf) (hw : DV (Γ.at k) netN (defScope st) .e ev Vf)
    (w1 : ∀ env : PySem.Env, swapsWith ef (some (.Attribute (.Name "self" p1) "fars" p2)) p3.line env = pure false := by exact fun _ => rfl)
    (w2 : ∀ env : PySem.Env, swapsWith et (some (.Attribute (.Name "self" p4) "turns" p5)) p6.line env = pure false := by exact fun _ => rfl)
    (w4 : ∀ env : PySem.Env, swapsWith ev (some (.Subscript (.Attribute (.Name "self" q1) "inside" q2) ek q3)) q4.line env = pure false := by exact fun _ => rfl)
    (w5 : ∀ (env : PySem.Env) x, foldedSetIterable itk env x = pure x := by exact fun _ _ => rfl)
    (w6 : ∀ (env : PySem.Env) x, foldedSetIterable itn env x = pure x := by exact fun _ _ => rfl) :
    FnOk Γ.P Γ.w Γ.K Γ.mg Γ.base CX0 (k + 1) f fd ["self", "sheet"] (spN Γ.K Γ.C fN) := by
  obtain ⟨t1, a1, b1⟩ := h1.ex
  obtain ⟨t2, a2, b2⟩ := h2.ex
  obtain ⟨t3, a3, b3⟩ := h3.ex
  obtain ⟨tf, af, bf⟩ := hf.ex
  obtain ⟨tt, at', bt⟩ := ht.ex
  obtain ⟨wk, aik, bik⟩ := ik.ex
  obtain ⟨gk', agk, bgk⟩ := gk.ex
  obtain ⟨wn, ain, bin⟩ := jn.ex
  obtain ⟨gn', agn, bgn⟩ := gn.ex
  obtain ⟨tk, ak, bk⟩ := hk.ex
  obtain ⟨tv', av, bv⟩ := hw.ex
  refine Fn.ok S (fun vs H Q E h => ?_) (fun cdv A outer s H vs Q E hr hsp => ?_)
  · obtain ⟨_, _, _, _, _, _, _, _, _, _, _, _, e, _⟩ := h
    rw [e]; rfl
  · obtain ⟨G, H1, x, dx, v, d, n, s, tb1, hx, hdx, hne, e1, e2, rv, e, q⟩ := hsp
    subst e1 e2
    refine ⟨tSeq t1 (tSeq t2 (tSeq t3 (tSeq (sFld Γ.K (tVar 0) tf "fars") (tSeq (sFld Γ.K (tVar 0) tt "turns") (tSeq (sFld Γ.K (tVar 0) tDNewT "inside") (tFor wk gk' (tFor wn gn' (sDPut (tFld Γ.K (tVar 0) "inside") tk tv')))))))), ?_, ?_⟩
    · rw [hbody]
      have good : ∀ {X : Cx}, Good (Γ.at k) netN (defScope st) X → (∀ x, X.fn x = true) → PSs X [s1, s2, s3, .Assign [.Attribute (.Name "self" p1) "fars" p2] ef p3, .Assign [.Attribute (.Name "self" p4) "turns" p5] et p6, .Assign [.Attribute (.Name "self" p7) "inside" p8] (.Dict [] [] p9) p10,
          .For tgk itk [.For tgn itn [.Assign [.Subscript (.Attribute (.Name "self" q1) "inside" q2) ek q3] ev q4] [] q5] [] q6] (tSeq t1 (tSeq t2 (tSeq t3 (tSeq (sFld Γ.K (tVar 0) tf "fars") (tSeq (sFld Γ.K (tVar 0) tt "turns") (tSeq (sFld Γ.K (tVar 0) tDNewT "inside") (tFor wk gk' (tFor wn gn' (sDPut (tFld Γ.K (tVar 0) "inside") tk tv'))))))))) := fun {X} g hfn => by
        have pv : ∀ p, PE X (.Name "self" p) (tVar 0) := fun p => pe_var (by rw [g.N]; rfl) (by rw [g.sc]; exact vis_of hv) (by decide) (by decide)
        have hK : X.K = Γ.K := g.K
        refine pss_cons (a1 X g hfn) (pss_cons (a2 X g hfn) (pss_cons (a3 X g hfn) (pss_cons (hK ▸ ps_fld (pv _) (af X g) (w1 _)) (pss_cons (hK ▸ ps_fld (pv _) (at' X g) (w2 _)) (pss_cons (hK ▸ ps_fld (pv _) pe_dnewT rfl) (pss_one ?_))))))
        refine ps_for (by rw [g.xe]; exact PassesOwn.never) g.calm (aik X g) (agk X g fun _ => hfn) (pss_one (ps_for (by rw [g.xe]; exact PassesOwn.never) g.calm (ain X g) (agn X g fun _ => hfn) (pss_one ?_) (w6 _))) (w5 _)
        exact hK ▸ ps_dput (hu_of g.room) (pe_fld (pv _) rfl) (ak X g) (av X g) (w4 _)
      exact good ⟨rfl, rfl, rfl, rfl, rfl, rfl, rfl, hr, rfl, rfl⟩ (fun _ => rfl)
    · have e' := hc d n e x
      unfold netF at e'
      obtain ⟨ρ1, f1, e'⟩ := Option.bind_eq_some_iff.mp e'
      obtain ⟨ρ2, f2, e'⟩ := Option.bind_eq_some_iff.mp e'
      obtain ⟨ρ3, f3, e'⟩ := Option.bind_eq_some_iff.mp e'
      split at e'
      · rename_i hadr
        obtain ⟨df, ff, e'⟩ := Option.bind_eq_some_iff.mp e'
        obtain ⟨dt, ft, e'⟩ := Option.bind_eq_some_iff.mp e'
        obtain ⟨z, fz, e'⟩ := Option.bind_eq_some_iff.mp e'
        cases e'
        have hne' : dx ≠ x := hne
        have g0 : Grow G H1 G (L2.upd (L2.upd H1 dx (.own x)) x (.ins Γ.C dx [])) := (Grow.newH s hdx).trans (Grow.newH (Grow.newH s hdx).s (by rw [upd_ne (Ne.symm hne')]; exact hx))
        generalize hH : L2.upd (L2.upd H1 dx (.own x)) x (.ins Γ.C dx []) = H0 at *
        have hX0 : H0 x = some (.ins Γ.C dx []) := by rw [← hH]; exact upd_same
        have nx0 : G x = none := s.free hx
        have nt : ∀ fs, ∀ vs, HO.ins Γ.C dx fs ≠ .tup vs := fun _ _ z => by cases z
        have ni : ∀ fs c q, HO.ins Γ.C dx fs ≠ LamX.CodeO c q := fun _ c q z => by unfold LamX.CodeO at z; cases z
        have nl : ∀ fs ps, HO.ins Γ.C dx fs ≠ .tbl ps := fun _ _ z => by cases z
        refine b1 G H0 _ _ G H0 _ _ (Grow.refl g0.s) (env_net (x := x) (g0.t tb1) rv) (nxE_eq f1) (fun ρ1' G1 H1' σ1 er g1 _ E1 => ?_) fun d' _ _ _ er => by cases er
        cases er
        refine b2 G H0 _ _ G1 H1' _ _ g1 E1 (nxE_eq f2) (fun ρ2' G2 H2 σ2 er g2 _ E2 => ?_) fun d' _ _ _ er => by cases er
        cases er
        refine b3 G H0 _ _ G2 H2 _ _ g2 E2 (nxE_eq f3) (fun ρ3' G3 H3 σ3 er g3 _ E3 => ?_) fun d' _ _ _ er => by cases er
        cases er
        have hσ : σ3[0]? = some (some (.ref x)) := by
          unfold adrB at hadr
          split at hadr
          · rename_i y hy
            obtain ⟨u, h4, h5⟩ := E3.sl 0 _ hy
            rw [eq_of_beq hadr] at h5
            cases h5
            exact h4
          · cases hadr
        have nx3 : G3 x = none := g3.keepO hX0 nx0 (nt _) (ni _)
        have hX3 : H3 x = some (.ins Γ.C dx []) := g3.x _ _ nx0 hX0 (nl _)
        refine bf H0 ρ3 σ3 G3 H3 _ df g3.s E3 ff fun G4 H4 v1 g4 o1 => ?_
        have nx4 : G4 x = none := g4.keepO hX3 nx3 (nt _) (ni _)
        have hX4 := g4.x _ _ nx3 hX3 (nl _)
        have gB := (g0.trans g3).trans g4
        refine ⟨.ref x, hσ, x, Γ.C, dx, [], rfl, hX4, C.cl, C.nf, by decide, ?_⟩
        have g5 := gB.updH (o := .ins Γ.C dx [("fars", v1)]) nx4 hx (noC_ins hX4)
        have E5 : EnvOk (Γ.at k) H0 G4 (L2.upd H4 x (.ins Γ.C dx [("fars", v1)])) ρ3 σ3 := (E3.grow g4).updX hX4
        refine bt H0 ρ3 σ3 G4 _ _ dt g5.s E5 ft fun G6 H6 v2 g6 o2 => ?_
        have nx6 : G6 x = none := g6.keepO upd_same nx4 (nt _) (ni _)
        have hX6 := g6.x _ _ nx4 upd_same (nl _)
        refine ⟨.ref x, hσ, x, Γ.C, dx, [("fars", v1)], rfl, hX6, C.cl, C.nt, (show 1 < 1000 by decide), ?_⟩
        have g7 := (g5.trans g6).updH (o := .ins Γ.C dx [("fars", v1), ("turns", v2)]) nx6 hx (noC_ins hX6)
        show sFld Γ.K (tVar 0) tDNewT "inside" _ σ3 (L2.upd H6 x (.ins Γ.C dx [("fars", v1), ("turns", v2)]))
        intro y hy
        have hyx : y ≠ x := fun z => by rw [z, upd_same] at hy; cases hy
        have hX8 : L2.upd (L2.upd H6 x (.ins Γ.C dx [("fars", v1), ("turns", v2)])) y (.dT []) x = some (.ins Γ.C dx [("fars", v1), ("turns", v2)]) := by rw [upd_ne (Ne.symm hyx)]; exact upd_same
        refine ⟨.ref x, hσ, x, Γ.C, dx, [("fars", v1), ("turns", v2)], rfl, hX8, C.cl, C.ni, (show 2 < 1000 by decide), ?_⟩
        have hy1 : H1 y = none := SL.free g7.h hy
        have g8 := g7.trans (Grow.newH (o := .dT []) g7.s hy)
        have g9 := g8.updH (o := .ins Γ.C dx [("fars", v1), ("turns", v2), ("inside", .ref y)]) nx6 hx (noC_ins hX8)
        have g10 := Grow.share g9.s upd_same nx6 hx g9
        have s10 := SL.new (o := .ins Γ.C dx [("fars", v1), ("turns", v2), ("inside", .ref y)]) nx6
        have r1 : Rep Γ.K Γ.C (L2.upd G6 x (.ins Γ.C dx [("fars", v1), ("turns", v2), ("inside", .ref y)])) v1 df := Rep.mono (g6.g.trans s10) o1
        have r2 : Rep Γ.K Γ.C (L2.upd G6 x (.ins Γ.C dx [("fars", v1), ("turns", v2), ("inside", .ref y)])) v2 dt := Rep.mono s10 o2
        have sx := sem_forX (Γ := Γ.at k) (H0 := H0) (vx := .ref x) (X := NetX (Γ.at k) G H1 x y dx v1 v2) (fun a G H G' H' => NetX.grow a G H G' H') bik bgk z1 (sem_forX (fun a G H G' H' => NetX.grow a G H G' H') bin bgn z2 (sem_putX C hy1 bk bv))
        refine sx [] _ σ3 _ _ _ z.1 z.2 g10.s (((E5.grow g6).un s10 (g10.t tb1)).at0 (unOw_no _) hσ (.netP upd_same r1 r2)) ((unOw_no _).set 0 _) hσ ⟨g10, upd_same, by rw [upd_ne hyx]; exact g7.s.free hy, [], by rw [upd_ne hyx]; exact upd_same, rfl, .nil⟩ fz fun G' H' σ' s' t' E' no' hσ' x' => ?_
        obtain ⟨k1, k2, k3, kvs, k4, k5, k6⟩ := x'
        have sy := SL.new (o := .dT kvs) k3
        exact q _ H' (Grow.share k1.s k4 k3 hy1 k1) (.net (sy.ins k2) (r1.mono (t'.trans sy)) (r2.mono (t'.trans sy)) (.dct (.inl upd_same) k5 (k6.mono sy)))
      · cases e'
end
end Pv
set_option Elab.async false
set_option linter.all false
set_option maxRecDepth 100000
set_option maxHeartbeats 4000000
set_option autoImplicit false
namespace Pv
variable [TabT]
open PySem PySem.Spec PyProof.Rows L2
/-! ### own things, fields, the dict: rows -/
theorem sown_at {i : Nat} {a : Env → Option D} {ρ : Env} : sown i a ρ = (a ρ).bind fun d => some (.nx (ρ.set i (.ow d))) := (rfl)
def extAt (i : Nat) (d : D) (ρ : Env) : Option Res := match ρ[i]?, d with
  | some (.ow (.lst ds)), .lst es => if ds.length + es.length < big then some (.nx (ρ.set i (.ow (.lst (ds ++ es))))) else none
  | _, _ => none
def appAt (i : Nat) (d : D) (ρ : Env) : Option Res := match ρ[i]? with
  | some (.ow (.lst ds)) => if ds.length < big then some (.nx (ρ.set i (.ow (.lst (ds ++ [d]))))) else none
  | _ => none
def putAt (i : Nat) (d kd : D) (ρ : Env) : Option Res := match ρ[i]?, kd with
  | some (.ow (.lst ds)), .int n => (ixN ds.length n).bind fun j => some (.nx (ρ.set i (.ow (.lst (ds.set j d)))))
  | some (.ow (.dct kds)), .tup ks => (asInts ks).bind fun ns => if kds.length < big then some (.nx (ρ.set i (.ow (.dct (putD kds ns d))))) else none
  | _, _ => none
theorem sext_eq {i : Nat} {a : Env → Option D} {ρ : Env} : sext i a ρ = (a ρ).bind fun d => extAt i d ρ := (rfl)
theorem sapp_eq {i : Nat} {a : Env → Option D} {ρ : Env} : sapp i a ρ = (a ρ).bind fun d => appAt i d ρ := (rfl)
theorem sput_eq {i : Nat} {k a : Env → Option D} {ρ : Env} : sput i k a ρ = (a ρ).bind fun d => (k ρ).bind fun kd => putAt i d kd ρ := (rfl)
theorem extAt_l {i : Nat} {ρ : Env} {ds es : List D} (h : ρ[i]? = some (.ow (.lst ds))) (hl : ds.length + es.length < big) : extAt i (.lst es) ρ = some (.nx (ρ.set i (.ow (.lst (ds ++ es))))) := by
  unfold extAt
  rw [h]
  exact if_pos hl
theorem appAt_l {i : Nat} {ρ : Env} {ds : List D} {d : D} (h : ρ[i]? = some (.ow (.lst ds))) (hl : ds.length < big) : appAt i d ρ = some (.nx (ρ.set i (.ow (.lst (ds ++ [d]))))) := by
  unfold appAt
  rw [h]
  exact if_pos hl
theorem ixN_nat {n j : Nat} (h : j < n) : ixN n (j : Int) = some j := by unfold ixN; simp; omega
theorem putAt_l {i : Nat} {ρ : Env} {ds : List D} {d : D} {z : Int} (j : Nat) (h : ρ[i]? = some (.ow (.lst ds))) (hz : z = (j : Int)) (hj : j < ds.length) : putAt i d (.int z) ρ = some (.nx (ρ.set i (.ow (.lst (ds.set j d))))) := by
  subst hz
  unfold putAt
  rw [h]
  show ((ixN ds.length (j : Int)).bind _) = _
  rw [ixN_nat hj]
  rfl
theorem putAt_d {i : Nat} {ρ : Env} {kds : List (List Int × D)} {d : D} {ks : List D} {ns : List Int} (h : ρ[i]? = some (.ow (.dct kds))) (hk : ks = ns.map D.int) (hl : kds.length < big) : putAt i d (.tup ks) ρ = some (.nx (ρ.set i (.ow (.dct (putD kds ns d))))) := by
  subst hk
  unfold putAt
  rw [h]
  show ((asInts (ns.map D.int)).bind _) = _
  rw [asInts_map, Option.bind_some]
  exact if_pos hl
theorem nxE_nx {ρ : Env} : nxE (some (.nx ρ)) = some ρ := (rfl)
theorem nxP_pre {α : Type} {p : Pat} {b : Env → Option Res} (enc : α → D) (I : List α → Env → Prop) (xs : List α) (h : ∀ pre x post, xs = pre ++ x :: post → ∀ ρ, I pre ρ → ∃ ρ1, bindP p (enc x) ρ = some ρ1 ∧ nxP (b ρ1) (I (pre ++ [x]))) {ρ : Env} (h0 : I [] ρ) : nxP (forD p b (xs.map enc) ρ) (I xs) := by
  have go : ∀ (post pre : List α), xs = pre ++ post → ∀ ρ, I pre ρ → nxP (forD p b (post.map enc) ρ) (I xs) := by
    intro post
    induction post with
    | nil => intro pre hp ρ h1; rw [List.append_nil] at hp; subst hp; exact ⟨ρ, rfl, h1⟩
    | cons x post ih =>
      intro pre hp ρ h1
      obtain ⟨ρ1, e1, ρ2, e2, h2⟩ := h pre x post hp ρ h1
      obtain ⟨ρ3, e3, h3⟩ := ih (pre ++ [x]) (by rw [hp, List.append_assoc]; rfl) ρ2 h2
      refine ⟨ρ3, ?_, h3⟩
      rw [List.map_cons]
      unfold forD
      rw [e1, Option.bind_some, e2, Option.bind_some]
      exact e3
  exact go xs [] rfl ρ h0
theorem sfrz_ow {i : Nat} {f : Env → Option Res} {ρ : Env} {d : D} (h : ρ[i]? = some (.ow d)) : sfrz i f ρ = f (ρ.set i (.sh d)) := by
  unfold sfrz frzE
  rw [h]; rfl
theorem sfrz_sh {i : Nat} {f : Env → Option Res} {ρ : Env} {d : D} (h : ρ[i]? = some (.sh d)) : sfrz i f ρ = f ρ := by
  unfold sfrz frzE
  rw [h]; rfl
theorem farsD_n {f t i : D} : farsD (.net f t i) = some f := (rfl)
theorem turnsD_n {f t i : D} : turnsD (.net f t i) = some t := (rfl)
theorem insideD_n {f t : D} {kds : List (List Int × D)} : insideD (.net f t (.dct kds)) = some (.dct kds) := (rfl)
theorem fM_eq {f : List D → Option D} {o : Env → Option D} {a : Env → Option (List D)} {ρ : Env} : fM f o a ρ = (o ρ).bind fun x => (a ρ).bind fun ds => if netB x = true then f (x :: ds) else none := (rfl)
theorem netB_n {f t i : D} : netB (.net f t i) = true := (rfl)
theorem ssD_i {ns : List Int} (h : ns.length < 4000 ∧ (sortU ns).length < 64) : ssD (.lst (ns.map D.int)) = some (.lst ((sortU ns).map D.int)) := by
  show (asInts (ns.map D.int)).bind _ = _
  rw [asInts_map, Option.bind_some]
  exact if_pos h
theorem ixI {ns : List Int} {k : Nat} {j : Int} (hj : j = (k : Int)) (h : k < ns.length) : ixD (.lst (ns.map D.int)) (.int j) = some (.int (ns.getD k 0)) := by
  subst hj
  refine atI_nat (xs := ns.map D.int) (j := k) ?_
  rw [List.getElem?_map, List.getElem?_eq_getElem h, List.getD_eq_getElem?_getD, List.getElem?_eq_getElem h]; rfl
theorem seqD_d {kds : List (List Int × D)} : seqD (.dct kds) = some (kds.map fun p => .tup (p.1.map D.int)) := (rfl)
theorem getK_mem {kds : List (List Int × D)} {k : List Int} {d : D} (h : ∃ p ∈ kds, p.1 = k) (h2 : ∀ p ∈ kds, p.1 = k → p.2 = d) : getK kds k = some d := by
  unfold getK
  cases e : kds.find? fun p => decide (p.1 = k) with
  | none =>
    obtain ⟨p, hp, hk⟩ := h
    have := List.find?_eq_none.mp e p hp
    simp [hk] at this
  | some p =>
    have h3 := List.find?_some e
    have h4 := List.mem_of_find?_eq_some e
    rw [Option.map_some, h2 p h4 (of_decide_eq_true h3)]
theorem putD_new {kds : List (List Int × D)} {k : List Int} {d : D} (h : ∀ p ∈ kds, p.1 ≠ k) : putD kds k d = kds ++ [(k, d)] := by
  unfold putD
  rw [if_neg]
  intro z
  first | (obtain ⟨p, hp, hk⟩ := List.any_eq_true.mp z; exact h p hp (of_decide_eq_true hk)) | (obtain ⟨p, hp⟩ := Option.isSome_iff_exists.mp z; have h3 := List.find?_some hp; exact h p (List.mem_of_find?_eq_some hp) (of_decide_eq_true h3))
theorem nxP_range {p : Pat} {b : Env → Option Res} (I : Nat → Env → Prop) (n : Nat) (h : ∀ j, j < n → ∀ ρ, I j ρ → ∃ ρ1, bindP p (.int (j : Int)) ρ = some ρ1 ∧ nxP (b ρ1) (I (j + 1))) {ρ : Env} (h0 : I 0 ρ) : nxP (forD p b ((List.range n).map fun j : Nat => .int (j : Int)) ρ) (I n) := by
  have go : ∀ (m i : Nat), i + m = n → ∀ ρ, I i ρ → nxP (forD p b ((List.range' i m).map fun j : Nat => .int (j : Int)) ρ) (I n) := by
    intro m
    induction m with
    | zero => intro i hi ρ h1; rw [Nat.add_zero] at hi; subst hi; exact ⟨ρ, rfl, h1⟩
    | succ m ih =>
      intro i hi ρ h1
      obtain ⟨ρ1, e1, ρ2, e2, h2⟩ := h i (by omega) ρ h1
      obtain ⟨ρ3, e3, h3⟩ := ih (i + 1) (by omega) ρ2 h2
      refine ⟨ρ3, ?_, h3⟩
      rw [List.range'_succ, List.map_cons]
      unfold forD
      rw [e1, Option.bind_some, e2, Option.bind_some]
      exact e3
  have := go n 0 (by omega) ρ h0
  rwa [← List.range_eq_range'] at this
theorem forGo_range {α : Type} {p : Pat} {step : α → Env → Option (α × Env)} (I : Nat → α → Env → Prop) (n : Nat) (h : ∀ j, j < n → ∀ a ρ, I j a ρ → ∃ ρ1 z, bindP p (.int (j : Int)) ρ = some ρ1 ∧ step a ρ1 = some z ∧ I (j + 1) z.1 z.2) {a : α} {ρ : Env} (h0 : I 0 a ρ) : ∃ z, forGo p step ((List.range n).map fun j : Nat => .int (j : Int)) a ρ = some z ∧ I n z.1 z.2 := by
  have go : ∀ (m i : Nat), i + m = n → ∀ a ρ, I i a ρ → ∃ z, forGo p step ((List.range' i m).map fun j : Nat => .int (j : Int)) a ρ = some z ∧ I n z.1 z.2 := by
    intro m
    induction m with
    | zero => intro i hi a ρ h1; rw [Nat.add_zero] at hi; subst hi; exact ⟨(a, ρ), rfl, h1⟩
    | succ m ih =>
      intro i hi a ρ h1
      obtain ⟨ρ1, z, e1, e2, h2⟩ := h i (by omega) a ρ h1
      obtain ⟨z3, e3, h3⟩ := ih (i + 1) (by omega) z.1 z.2 h2
      refine ⟨z3, ?_, h3⟩
      rw [List.range'_succ, List.map_cons]
      unfold forGo
      rw [e1, Option.bind_some, e2, Option.bind_some]
      exact e3
  have := go n 0 (by omega) a ρ h0
  rwa [← List.range_eq_range'] at this
/-- all cells of rows and columns -/
def grid {α : Type} (a b : Nat) (f : Nat → Nat → α) : List α := (List.range a).flatMap fun k => (List.range b).map (f k)
theorem grid_s {α : Type} {a b : Nat} {f : Nat → Nat → α} : grid (a + 1) b f = grid a b f ++ (List.range b).map (f a) := by
  unfold grid
  rw [List.range_succ, List.flatMap_append]
  simp
theorem grid_len {α : Type} {a b : Nat} {f : Nat → Nat → α} : (grid a b f).length = a * b := by
  induction a with
  | zero => simp [grid]
  | succ a ih => rw [grid_s, List.length_append, ih, List.length_map, List.length_range, Nat.succ_mul]
theorem mem_grid {α : Type} {a b : Nat} {f : Nat → Nat → α} {x : α} : x ∈ grid a b f ↔ ∃ k n, k < a ∧ n < b ∧ x = f k n := by
  unfold grid
  simp only [List.mem_flatMap, List.mem_map, List.mem_range]
  constructor
  · rintro ⟨k, hk, n, hn, rfl⟩; exact ⟨k, n, hk, hn, rfl⟩
  · rintro ⟨k, n, hk, hn, rfl⟩; exact ⟨k, hk, n, hn, rfl⟩
theorem map_range_s {α : Type} {f : Nat → α} {n : Nat} : (List.range (n + 1)).map f = (List.range n).map f ++ [f n] := by
  rw [List.range_succ, List.map_append]; rfl
def kkey (k n : Nat) : List Int := [(k : Int), (n : Int)]
theorem kkey_inj {k n k' n' : Nat} (h : kkey k n = kkey k' n') : k = k' ∧ n = n' := by
  unfold kkey at h
  simp only [List.cons.injEq, and_true] at h
  omega
abbrev dgrid (a b : Nat) (f : Nat → Nat → D) : List (List Int × D) := grid a b fun k n => (kkey k n, f k n)
theorem getK_grid {a b k n : Nat} {f : Nat → Nat → D} (hk : k < a) (hn : n < b) : getK (dgrid a b f) (kkey k n) = some (f k n) :=
  getK_mem ⟨_, mem_grid.mpr ⟨k, n, hk, hn, rfl⟩, rfl⟩ fun p hp e => by
    obtain ⟨k', n', _, _, rfl⟩ := mem_grid.mp hp
    obtain ⟨rfl, rfl⟩ := kkey_inj e
    rfl
theorem put_grid {a b n : Nat} {f : Nat → Nat → D} (hn : n < b) : putD (dgrid a b f ++ (List.range n).map fun j => (kkey a j, f a j)) (kkey a n) (f a n) = dgrid a b f ++ (List.range (n + 1)).map fun j => (kkey a j, f a j) := by
  rw [putD_new, map_range_s, List.append_assoc]
  intro p hp e
  rcases List.mem_append.mp hp with hp | hp
  · obtain ⟨k', n', hk, _, rfl⟩ := mem_grid.mp hp
    have := kkey_inj e
    omega
  · obtain ⟨j, hj, rfl⟩ := List.mem_map.mp hp
    have := kkey_inj e
    have := List.mem_range.mp hj
    omega
end Pv
set_option Elab.async false
set_option linter.all false
set_option maxRecDepth 100000
set_option maxHeartbeats 4000000
set_option autoImplicit false
namespace Pv
variable [TabT]
open PySem PySem.Spec PyProof.Rows L2
/-! ### sorted(d), d's keys pairs of whole numbers that stand in their order -/
section
variable {P : Program} {w : World} {A : Around} {E : Value → Shared → Prop} {s : Shared} {d : Addr} {es : Array DictEntry} {ep : Nat}
theorem isPair_one {h : Heap} {v : Value} {x y x' y' : Int} (a : Srt.IsPair h v x y) (b : Srt.IsPair h v x' y') : (x, y) = (x', y') := by
  obtain ⟨a1, o1, t1, u1, n1, e1, g1, _, d1⟩ := a
  obtain ⟨a2, o2, t2, u2, n2, e2, g2, _, d2⟩ := b
  rw [e1] at e2
  cases e2
  rw [g1] at g2
  cases g2
  rw [d1] at d2
  cases d2
  rfl
/-- the keys of a dict, collected into a new list -/
theorem collect_rawD {R : List Value → Shared → Prop} (hh : A.handled = none) (lo : (d == sysModules) = false) (hm : s.heap.DictRaw d es ep) (hz : es.size ≤ sizeLine)
    (h : ∀ (h' : Heap) (tk : Nat) (acc : Array Value), (∀ b o, s.heap.get? b = some o → h'.get? b = some o) → s.heap.objs.size < h'.objs.size → ItemsOf (fun i v => ∃ hi : i < es.size, v = es[i].key) acc es.size → R acc.toList { s with heap := h', toks := tk }) :
    wpAny (model P w) A (collect (.ref d)) R E s := by
  have K := KdlSrc.rawDict (prog := P) (w := w) (es := es) (ep := ep) lo
  have lt := hm.lt_size
  have S1 : (s.heap.push { cls := .type "list", data := .seq ([] : List Value).toArray }).get? s.heap.objs.size = some { cls := .type "list", data := .seq #[] } := Heap.get?_push_size _ rfl
  have gone := PySem.W.kdl_extend (A := A) (s := { s with heap := s.heap.push { cls := .type "list", data := .seq ([] : List Value).toArray } })
    (R := fun (z : Result) (s1 : Shared) => ∃ (h1 : Heap) (tk : Nat) (acc : Array Value) (n1 : Nat), z = .ok (.ret (.ref s.heap.objs.size)) ∧ s1 = { s with heap := h1, toks := tk } ∧ (∀ b o, s.heap.get? b = some o → h1.get? b = some o) ∧
      h1.get? s.heap.objs.size = some { cls := .type "list", dict := none, data := .seq acc n1, slots := #[] } ∧ ItemsOf (fun i v => ∃ hi : i < es.size, v = es[i].key) acc es.size)
    K hh (K.keep _ _ hm fun b _ o g => Heap.get?_push_of_some _ g) s.heap.objs.size (Nat.ne_of_gt lt) (Nat.ne_of_gt lt) (.ref s.heap.objs.size) 0 S1
    (fun h1 tk acc n1 kp ob it => ⟨h1, tk, acc, n1, rfl, rfl, fun b o g => kp b o (Nat.ne_of_lt (Heap.lt_size g)) (Heap.get?_push_of_some _ g), ob, it⟩) hz
  unfold collect
  refine wpAny_bind (wpAny_runValue (codeAny_builtin entry_proto_collect' (by
    rw [Around.under_plainId PySem.F.plain_proto_collect _]
    show wpAny _ A.in1 (newList [] >>= fun l => again (.builtin "list.__iadd__" ⟨[l, .ref d], []⟩)) _ _ s
    refine wpAny_bind (wpAny_newObj_type (wpAny_pure ⟨plainId_quiet PySem.F.plain_list_iadd _, codeAny_builtin entry_list_iadd' (by
      rw [Around.under_plainId PySem.F.plain_list_iadd _]
      show wpAny _ A.in1 (Builtin.List.listExtendWith (.ref s.heap.objs.size) (.ref d) (.ref s.heap.objs.size)) _ _ _
      refine wpAny_mono gone (fun fin s1 x => ?_) fun e s1 x => by obtain ⟨_, _, _, _, z, _⟩ := x; cases z
      cases fin with
      | done f =>
        obtain ⟨h1, tk, acc, n1, z, rfl, kp, ob, it⟩ := x
        cases z
        exact wpAny_bind (m := load s.heap.objs.size) (wpAny_load ob (wpAny_pure (h h1 tk acc kp (Heap.lt_size ob) it)))
      | again c1 =>
        refine ⟨x.1, codeAny_mono x.2 fun z s2 y => ?_⟩
        obtain ⟨h1, tk, acc, n1, rfl, rfl, kp, ob, it⟩ := y
        exact wpAny_bind (m := load s.heap.objs.size) (wpAny_load ob (wpAny_pure (h h1 tk acc kp (Heap.lt_size ob) it))))⟩)))))
theorem sorted_rawD {k : Value → Int × Int} {Q : Value → Shared → Prop} (hh : A.handled = none) (lo : (d == sysModules) = false) (hm : s.heap.DictRaw d es ep) (hz : es.size ≤ sizeLine)
    (hp : ∀ (j : Nat) (v : Value), (es[j]?).map DictEntry.key = some v → Srt.IsPair s.heap v (k v).1 (k v).2)
    (h : ∀ (h' : Heap) (tk : Nat) (a : Addr) (acc out : List Value), acc = es.toList.map DictEntry.key → SrtO.Srtd (fun v u => SrtO.lexB (k v) (k u)) out → SrtO.Stb (fun v u => SrtO.lexB (k v) (k u)) out acc → (∀ b o, s.heap.get? b = some o → h'.get? b = some o) → s.heap.objs.size ≤ a →
      (∃ n, h'.get? a = some (seqObj "list" out.toArray n)) → Q (.ref a) { s with heap := h', toks := tk }) : wpAny (model P w) A (call (.builtin "sorted") [.ref d]) Q E s := by
  refine Calls.call_function_entry kind_sorted plain_sorted entry_sorted (args_sorted1 _) ?_
  unfold Builtin.«sorted»
  refine wpAny_bind (m := checkCount "sorted" 1 1 _) (wpAny_pure ?_)
  refine wpAny_bind (collect_rawD (A := A.in1) hh lo hm hz fun h1 tk acc k1 gr it => ?_)
  have el : acc.toList = es.toList.map DictEntry.key := by
    refine List.ext_getElem? fun j => ?_
    cases c : acc[j]? with
    | none =>
      have c1 : acc.size ≤ j := Array.getElem?_eq_none_iff.mp c
      rw [List.getElem?_eq_none (by simpa using c1), List.getElem?_eq_none (by rw [List.length_map, Array.length_toList, ← it.1]; exact c1)]
    | some v =>
      obtain ⟨hj, e⟩ := it.2 j v c
      rw [Array.getElem?_toList, c, List.getElem?_map, Array.getElem?_toList, Array.getElem?_eq_getElem hj, e]; rfl
  have zl : acc.toList.length ≤ sizeLine := by rw [Array.length_toList, it.1]; exact hz
  refine wpAny_bind (wpAny_newList ?_ zl)
  have ob : (h1.push (seqObj "list" acc.toList.toArray 0)).get? h1.objs.size = some (seqObj "list" acc.toList.toArray 0) := Heap.get?_push_size _ rfl
  have pr : ∀ v ∈ acc.toList, Srt.IsPair (h1.push (seqObj "list" acc.toList.toArray 0)) v (k v).1 (k v).2 := fun v hv => by
    rw [el] at hv
    obtain ⟨en, hen, rfl⟩ := List.mem_map.mp hv
    obtain ⟨j, hj, e⟩ := List.getElem_of_mem hen
    have hq := hp j en.key (by rw [← Array.getElem?_toList, List.getElem?_eq_getElem hj, e]; rfl)
    exact hq.keeps fun b o g _ => Heap.get?_push_of_some _ (k1 b o g)
  refine wpAny_bind (wpAny_holding (wpAny_call_entry slot_list_sort ⟨_, ob, rfl⟩ entry_list_sort (SrtO.list_sort_ord (s := { s with heap := h1.push (seqObj "list" acc.toList.toArray 0), toks := tk }) (SrtO.swo_lex k) ob zl (fun h2 => SrtO.pairs_sortableO (by omega) pr fun o g c => ?_) fun out so sb => ⟨_, rfl, ?_⟩) (args_list_sort _)))
  · have g' : some o = some (seqObj "list" acc.toList.toArray 0) := g.symm.trans ob
    cases g'
    exact absurd (Value.type.inj c) (by decide)
  · refine wpAny_pure ⟨_, rfl, h _ tk h1.objs.size acc.toList out el so sb (fun b o g => ?_) ?_ ?_⟩
    · have g2 := k1 b o g
      have lt := Heap.lt_size g2
      show (sortedHeap (h1.push (seqObj "list" acc.toList.toArray 0)) h1.objs.size acc.toList out.toArray).get? b = some o
      rw [sortedHeap_old (Nat.ne_of_lt lt) (by rw [size_push']; exact Nat.lt_succ_of_lt lt)]
      exact Heap.get?_push_of_some _ g2
    · exact Nat.le_of_lt gr
    · exact sortedHeap_at ob
end
end Pv
set_option Elab.async false
set_option linter.all false
set_option maxRecDepth 100000
set_option maxHeartbeats 4000000
set_option autoImplicit false
namespace Pv
variable [TabT]
open PySem PySem.Spec PyProof.Rows L2
section
theorem vals_refs : ∀ bs : List Addr, Vals (bs.map V.ref) (bs.map Value.ref)
  | [] => .nil
  | _ :: bs => .cons rfl (vals_refs bs)
/-- sorted(d): d's keys are the pairs ps, in their order -/
def rSortDP : List V → Hp → VK → Prop := fun vs H Q => ∃ (a : Addr) (kvs : List (List Key × V)) (ps : List (Int × Int)), vs = [V.ref a] ∧ Rd H a (.dT kvs) ∧ kvs.map Prod.fst = ps.map (fun p => kk [p.1, p.2]) ∧ ps.Pairwise (fun p q => SrtO.lexB p q = true) ∧
  ∀ (bs : List Addr) (p : Addr), bs.length = ps.length → (∀ (j : Nat) (b : Addr) (q : Int × Int), bs[j]? = some b → ps[j]? = some q → H b = some (.tup [.int q.1, .int q.2])) → H p = none → Q (.ref p) (L2.upd H p (.lst (bs.map V.ref)))
theorem cr_sortDP {X : Cx} (hc : X.calm = true) : CallR X (.builtin "sorted") rSortDP := by
  intro pins s σ H vs us Q I r ⟨a, kvs, ps, e, hr, hk, hs, q⟩
  subst e
  rw [Vals.ref1 r]
  obtain ⟨z, lo, xs, rel, o, es, ep, ho, hx, hd, hes, his, hn⟩ := dt_rd I.hok hr
  have lx : kvs.length = xs.length := Paired.length rel
  have lp : kvs.length = ps.length := by simpa using congrArg List.length hk
  have le : es.size = xs.length := by
    have := congrArg List.length hes
    rwa [Array.length_toList, List.length_map] at this
  have hb : ∀ (j : Nat) (b : Addr) (p : Int × Int), (xs.map fun x => x.2.1)[j]? = some b → ps[j]? = some p → H b = some (.tup [.int p.1, .int p.2]) := fun j b p h1 h2 => by
    rw [List.getElem?_map] at h1
    cases c : xs[j]? with
    | none => rw [c] at h1; cases h1
    | some x =>
      rw [c] at h1
      cases h1
      obtain ⟨kv, c1, c2, c3, c4⟩ := L2.DX.pget rel c
      have c5 : (kvs.map Prod.fst)[j]? = some kv.1 := by rw [List.getElem?_map, c1]; rfl
      rw [hk, List.getElem?_map, h2] at c5
      have c6 : kk [p.1, p.2] = kv.1 := Option.some.inj c5
      rw [c3, ← c6]; rfl
  have ipair : ∀ (b : Addr) (p : Int × Int), H b = some (.tup [.int p.1, .int p.2]) → Srt.IsPair s.heap (.ref b) p.1 p.2 := fun b p h1 => by
    obtain ⟨_, its, r2, o2, ho2, hc2, n2, hd2⟩ := I.hok _ _ h1
    obtain ⟨u1, u2, rfl, ri, rj⟩ := vals2 r2
    obtain ⟨t1, rfl⟩ := ri
    obtain ⟨t2, rfl⟩ := rj
    exact ⟨b, o2, t1, t2, n2, rfl, ho2, hc2, hd2⟩
  have ek : es.toList.map DictEntry.key = (xs.map fun x => x.2.1).map Value.ref := by
    rw [hes, List.map_map, List.map_map]; rfl
  have pk : ∃ k : Value → Int × Int, ∀ v p, Srt.IsPair s.heap v p.1 p.2 → k v = p := by
    classical
    refine ⟨fun v => if h : ∃ p : Int × Int, Srt.IsPair s.heap v p.1 p.2 then h.choose else (0, 0), fun v p h => ?_⟩
    have hex : ∃ p : Int × Int, Srt.IsPair s.heap v p.1 p.2 := ⟨p, h⟩
    show (if h : ∃ p : Int × Int, Srt.IsPair s.heap v p.1 p.2 then h.choose else (0, 0)) = p
    rw [dif_pos hex]
    exact isPair_one hex.choose_spec h
  obtain ⟨k, hk2⟩ := pk
  have hlen : (xs.map fun x => x.2.1).length = ps.length := by rw [List.length_map]; omega
  refine sorted_rawD (k := k) (I.ok.hd hc) lo ⟨o, ho, hx, hd⟩ (by omega) (fun j v hv => ?_) fun h' tk p acc out ea so sb kp hp2 ⟨n, hn'⟩ => ?_
  · cases c : es[j]? with
    | none => rw [c] at hv; cases hv
    | some en =>
      have c2 : (es.toList.map DictEntry.key)[j]? = some v := by rw [List.getElem?_map, Array.getElem?_toList]; exact hv
      rw [ek, List.getElem?_map] at c2
      cases c3 : (xs.map fun x => x.2.1)[j]? with
      | none => rw [c3] at c2; cases c2
      | some b =>
        rw [c3] at c2
        cases c2
        have hj : j < ps.length := by rw [← hlen]; exact (List.getElem?_eq_some_iff.mp c3).1
        have h1 := ipair b ps[j] (hb j b ps[j] c3 (List.getElem?_eq_getElem hj))
        rw [hk2 _ _ h1]
        exact h1
  · have sa : SrtO.Srtd (fun v u => SrtO.lexB (k v) (k u)) acc := by
      rw [ea, ek]
      refine List.pairwise_iff_getElem.mpr fun i j hi hj hij => ?_
      have hi2 : i < ps.length := by rw [← hlen]; simpa using hi
      have hj2 : j < ps.length := by rw [← hlen]; simpa using hj
      have g : ∀ (m : Nat) (hm : m < ((xs.map fun x => x.2.1).map Value.ref).length) (hm2 : m < ps.length), k ((xs.map fun x => x.2.1).map Value.ref)[m] = ps[m] := fun m hm hm2 => by
        rw [List.getElem_map]
        exact hk2 _ _ (ipair _ _ (hb m _ _ (List.getElem?_eq_getElem (by simpa using hm)) (List.getElem?_eq_getElem hm2)))
      show SrtO.lexB (k ((xs.map fun x => x.2.1).map Value.ref)[j]) (k ((xs.map fun x => x.2.1).map Value.ref)[i]) = false
      rw [g i hi hi2, g j hj hj2]
      have h1 := List.pairwise_iff_getElem.mp hs i j hi2 hj2 hij
      have h2 := SrtO.lexB_iff.mp h1
      refine SrtO.lexB_no.mpr ?_
      omega
    have eo : out = acc := SrtO.stb_uniq (SrtO.swo_lex k) so sa sb
    rw [eo, ea, ek] at hn'
    have hz : ((xs.map fun x => x.2.1).map V.ref).length ≤ sizeLine := by rw [List.length_map, List.length_map]; omega
    exact ⟨.ref p, _, I.laid (o := .lst ((xs.map fun x => x.2.1).map V.ref)) (t' := tk) kp hp2 ⟨hz, _, n, vals_refs _, hn'⟩, rfl, q _ p hlen hb (I.hok.fresh hp2)⟩
end
def pairK : List Int → Option (Int × Int)
  | [x, y] => some (x, y)
  | _ => none
def pairsK : List (List Int) → Option (List (Int × Int))
  | [] => some []
  | k :: ks => (pairK k).bind fun p => (pairsK ks).bind fun ps => some (p :: ps)
theorem pairsK_eq : ∀ {ks : List (List Int)} {ps : List (Int × Int)}, pairsK ks = some ps → ks = ps.map fun p => [p.1, p.2]
  | [], ps, h => by cases h; rfl
  | k :: ks, ps, h => by
    obtain ⟨p, h1, h⟩ := Option.bind_eq_some_iff.mp h
    obtain ⟨qs, h2, h⟩ := Option.bind_eq_some_iff.mp h
    cases h
    have : k = [p.1, p.2] := by
      unfold pairK at h1
      split at h1
      · cases h1; rfl
      · cases h1
    rw [this, pairsK_eq h2]; rfl
noncomputable def sortedDct : D → Option D
  | .dct kds => (pairsK (kds.map Prod.fst)).bind fun ps => gdR (ps.Pairwise fun p q => SrtO.lexB p q = true) (.lst (ps.map fun p => .tup [.int p.1, .int p.2]))
  | _ => none
theorem gdR_inv {α : Type} {p : Prop} {x y : α} (h : gdR p x = some y) : p ∧ x = y := by
  unfold gdR at h
  split at h
  · rename_i c; cases h; exact ⟨c, rfl⟩
  · cases h
def dct1D : D → D → Option D
  | .tup ks, v => (asInts ks).bind fun ns => some (.dct [(ns, v)])
  | _, _ => none
section
variable {Γ : Gam} {N : List Str} {sc : Scope} {κ1 : Kd} {G H : Hp}
theorem grow_keys : ∀ (bs : List Addr) (ps : List (Int × Int)) (G H : Hp), SL G H → bs.length = ps.length → (∀ (j : Nat) (b : Addr) (q : Int × Int), bs[j]? = some b → ps[j]? = some q → H b = some (.tup [.int q.1, .int q.2])) → ∃ G', Grow G H G' H ∧ RepL Γ.K Γ.C G' (bs.map V.ref) (ps.map fun p => D.tup [.int p.1, .int p.2])
  | [], [], G, H, s, _, _ => ⟨G, Grow.refl s, .nil⟩
  | [], _ :: _, _, _, _, h, _ => by cases h
  | _ :: _, [], _, _, _, h, _ => by cases h
  | b :: bs, p :: ps, G, H, s, hl, hb => by
    have g1 := Grow.key s (hb 0 b p rfl rfl)
    obtain ⟨G', g2, r⟩ := grow_keys bs ps _ H g1.s (Nat.succ.inj hl) fun j b q h1 h2 => hb (j + 1) b q h1 h2
    exact ⟨G', g1.trans g2, .cons (.tup (g2.g.tup upd_same) (.cons (.int _) (.cons (.int _) .nil))) r⟩
theorem d_sortedDct {ea : Expr} {a : Env → Option D} {p pos : Pos} (hg : glB sc "sorted" = true) (hm : Γ.mg "sorted" = none) (ha : DV Γ N sc κ1 ea a) (hs : Pl1 ea [] := by exact fun _ => rfl) : DV Γ N sc .f (.Call (.Name "sorted" p) [ea] [] pos) (f1 sortedDct a) :=
  d_b1 (fun X g => cr_sortDP g.calm) (by decide +kernel) (by decide) (by decide) (fun G H x d z s rx h Q q => by
    cases d <;> try cases h
    rename_i kds
    obtain ⟨ps, h1, h2⟩ := Option.bind_eq_some_iff.mp (show ((pairsK (kds.map Prod.fst)).bind fun ps => gdR (ps.Pairwise fun p q => SrtO.lexB p q = true) (D.lst (ps.map fun p => .tup [.int p.1, .int p.2]))) = some z from h)
    obtain ⟨h3, rfl⟩ := gdR_inv h2
    obtain ⟨b, kvs, rfl, hr, ek, _⟩ := rx.dct s
    refine ⟨b, kvs, ps, rfl, hr, ?_, h3, fun bs l hl hb hn => ?_⟩
    · rw [ek, show (kds.map fun p => kk p.1) = (kds.map Prod.fst).map kk by rw [List.map_map]; rfl, pairsK_eq h1, List.map_map]; rfl
    · obtain ⟨G', g1, r⟩ := grow_keys (Γ := Γ) bs ps G H s hl hb
      exact q G' _ _ (g1.trans (Grow.newH g1.s hn)) ⟨l, rfl, hn, g1.s.free hn, _, upd_same, r⟩) hg hm ha hs
/-- {k: v}, k a tuple -/
def tDisp1T (tk tv : TE) : TE := fun σ H Q => ∀ p, H p = none → tk σ (L2.upd H p (.dT [])) fun x H1 => tv σ H1 fun y H2 => H2 p = some (.dT []) ∧ ∃ (b : Addr) (k : List Key), x = .ref b ∧ H2 b = some (.tup (k.map kV)) ∧ Q (.ref p) (L2.upd H2 p (.dT [(k, y)]))
theorem pe_disp1T {X : Cx} {ek ev : Expr} {pos : Pos} {tk tv : TE} (hu : X.A.units + 1 < cLine) (hk : PE X ek tk) (hv : PE X ev tv) : PE X (.Dict [some ek] [ev] pos) (tDisp1T tk tv) := by
  refine ⟨fun pins s σ H Q I q => ?_⟩
  have hn := I.hok.fresh (Nat.le_refl s.heap.objs.size)
  have I1 := I.laid (a := s.heap.objs.size) (o := .dT []) (h' := s.heap.push { cls := .type "dict", data := .dict #[] }) (t' := s.toks) (fun _ _ z => Heap.get?_push_of_some _ z) (Nat.le_refl _) (dt_empty s.heap I.big)
  rw [arm_eval_Dict, zip_pairTrees [some ek] [ev] X.env pos rfl rfl, dictDisplay_pairs _ (fun z => by cases z) (by rw [pairTrees_length [some ek] [ev] X.env pos rfl rfl]; exact (by decide : 1 < 17))]
  refine wpAny_bind (wpAny_standAt (wpAny_bind (wpAny_subDictH (knd := tupleKind (mixKind X.prog X.w)) (Q := fun d s' => wpAny (model X.prog X.w) X.A (pure (Value.ref d)) _ X.xe s') (Nat.lt_trans (Nat.lt_succ_self _) hu) (by rw [pairTrees_length [some ek] [ev] X.env pos rfl rfl]; exact (by decide : 1 ≤ 15)) ?_)))
  refine pairTrees_cons_walk (thn (hk.run pins _ σ _ _ I1 (q _ hn)) fun u s1 ⟨x, H1, I2, rx, q1⟩ => thn (hv.run pins s1 σ H1 _ I2 q1) fun v s2 ⟨y, H2, I3, ry, q2⟩ => pairTrees_nil_walk ?_)
  obtain ⟨hp, b, k, ex, hb, q3⟩ := q2
  subst ex
  obtain rfl : u = Value.ref b := rx
  obtain ⟨z, hd, xs, rel, dd⟩ := dt_of I3.hok hp
  cases rel
  refine ⟨[(k, b, v)], ⟨rfl, rfl, key_of I3.hok hb, trivial⟩, dd, fun h' tk dd' hs => wpAny_pure ⟨.ref _, _, ?_, rfl, q3⟩⟩
  obtain ⟨o, es, ep, ho, g2, g3, g4, _, g5⟩ := dd'
  refine d_write I3 (by rw [hp]; exact True.intro) hs ⟨o, ho⟩ ⟨(by rw [sizeLine_eq]; decide : (1 : Nat) ≤ sizeLine), hd, _, ?_, o, es, ep, ho, g2, g3, g4, g5⟩
  refine .cons ⟨rfl, ?_, ry⟩ .nil
  rw [upd_ne (ne_of hb hp (fun z => nomatch z))]
  exact hb
theorem d_d1 {ek ev : Expr} {k a : Env → Option D} {pos : Pos} (hk : DV Γ N sc .e ek k) (ha : DV Γ N sc .e ev a) : DV Γ N sc .f (.Dict [some ek] [ev] pos) (f2 dct1D k a) := by
  obtain ⟨tk, pk, sk⟩ := hk.ex
  obtain ⟨ta, pa, sa⟩ := ha.ex
  refine ⟨tDisp1T tk ta, fun X g => pe_disp1T (hu_of g.room) (pk X g) (pa X g), fun H0 ρ σ G H Q z s E e q => ?_⟩
  unfold f2 at e
  obtain ⟨kd, e1, e⟩ := Option.bind_eq_some_iff.mp e
  obtain ⟨d, e2, e⟩ := Option.bind_eq_some_iff.mp e
  have hks : ∃ ks, kd = .tup ks := by
    cases kd <;> first | exact ⟨_, rfl⟩ | cases e
  obtain ⟨ks, rfl⟩ := hks
  obtain ⟨ns, e3, e⟩ := Option.bind_eq_some_iff.mp (show ((asInts ks).bind fun ns => some (D.dct [(ns, d)])) = some z from e)
  cases e
  intro p hp
  have g0 := Grow.newH (o := .dT []) s hp
  refine sk H0 ρ σ G _ _ _ g0.s (E.grow g0) e1 fun G1 H1 x g1 o1 => sa H0 ρ σ G1 H1 _ d g1.s ((E.grow g0).grow g1) e2 fun G2 H2 y g2 o2 => ?_
  have gp : G p = none := s.free hp
  have g12 := g1.trans g2
  have hp2 : H2 p = some (.dT []) := g12.x _ _ gp upd_same fun _ z => nomatch z
  have gp2 : G2 p = none := g12.keepO upd_same gp (fun _ z => by cases z) fun _ _ => dT_code
  have o1 : Rep Γ.K Γ.C G1 x (.tup ks) := o1
  cases o1 with
  | tup h7 h8 =>
    rw [asInts_eq e3] at h8
    have e8 := kk_tup h8
    subst e8
    refine ⟨hp2, _, kk ns, rfl, g2.s.tup (g2.g.tup h7), q G2 _ _ ((g0.trans g12).updH gp2 hp (noC_dT hp2)) ⟨p, rfl, hp, gp2, _, upd_same, rfl, .cons o2 .nil⟩⟩
end
end Pv
set_option Elab.async false
set_option linter.all false
set_option maxRecDepth 100000
set_option maxHeartbeats 4000000
set_option autoImplicit false
namespace Pv
variable [TabT]
open PySem PySem.Spec PyProof.Rows L2
/-! ### sorted(xs), xs a list of (tuple of whole numbers, whole number) -/
abbrev FK := List Int × Int
def ltF (p q : FK) : Bool := if p.1 = q.1 then decide (p.2 < q.2) else HT.lexLt p.1 q.1
theorem lex_tot : ∀ xs ys : List Int, HT.lexLt xs ys = false → HT.lexLt ys xs = false → xs = ys
  | [], [], _, _ => rfl
  | [], y :: ys, h, _ => by rw [HT.lexLt_nil_cons] at h; cases h
  | x :: xs, [], _, h => by rw [HT.lexLt_nil_cons] at h; cases h
  | x :: xs, y :: ys, h1, h2 => by
    rw [HT.lexLt_cons] at h1 h2
    by_cases e : x = y
    · rw [if_pos e] at h1
      rw [if_pos e.symm] at h2
      rw [e, lex_tot xs ys h1 h2]
    · rw [if_neg e] at h1
      rw [if_neg (Ne.symm e)] at h2
      have a := of_decide_eq_false h1
      have b := of_decide_eq_false h2
      exact absurd (by omega : x = y) e
theorem ltF_tot {p q : FK} (h1 : ltF p q = false) (h2 : ltF q p = false) : p = q := by
  obtain ⟨a, i⟩ := p
  obtain ⟨b, j⟩ := q
  unfold ltF at h1 h2
  simp only at h1 h2
  by_cases e : a = b
  · rw [if_pos e] at h1
    rw [if_pos e.symm] at h2
    have := of_decide_eq_false h1
    have := of_decide_eq_false h2
    rw [e, show i = j by omega]
  · rw [if_neg e] at h1
    rw [if_neg (Ne.symm e)] at h2
    exact absurd (lex_tot a b h1 h2) e
theorem ltF_asym {p q : FK} (h : ltF p q = true) : ltF q p = false := by
  unfold ltF at h ⊢
  by_cases e : p.1 = q.1
  · rw [if_pos e] at h
    rw [if_pos e.symm]
    have := of_decide_eq_true h
    exact decide_eq_false (by omega)
  · rw [if_neg e] at h
    rw [if_neg (Ne.symm e)]
    exact NtL.lex_asym _ _ h
theorem ltF_tr {p q r : FK} (h1 : ltF q p = false) (h2 : ltF r q = false) : ltF r p = false := by
  unfold ltF at h1 h2 ⊢
  by_cases e1 : q.1 = p.1
  · rw [if_pos e1] at h1
    by_cases e2 : r.1 = q.1
    · rw [if_pos e2] at h2
      rw [if_pos (e2.trans e1)]
      have := of_decide_eq_false h1
      have := of_decide_eq_false h2
      exact decide_eq_false (by omega)
    · rw [if_neg e2] at h2
      rw [if_neg (fun z => e2 (z.trans e1.symm)), ← e1]
      exact h2
  · rw [if_neg e1] at h1
    by_cases e2 : r.1 = q.1
    · rw [if_neg (fun z => e1 (e2.symm.trans z)), e2]
      exact h1
    · rw [if_neg e2] at h2
      have h3 := NtL.lex_tr _ _ _ h1 h2
      by_cases e3 : r.1 = p.1
      · rw [e3] at h2
        exact absurd (lex_tot _ _ h1 h2) e1
      · rw [if_neg e3]
        exact h3
theorem swo_F {α : Type} (k : α → FK) : SrtO.Swo (fun v u : α => ltF (k v) (k u)) := ⟨fun _ _ h => ltF_asym h, fun _ _ _ h1 h2 => ltF_tr h1 h2⟩
def leF (p q : FK) : Prop := ltF q p = false
def sortF (ps : List FK) : List FK := ps.mergeSort fun p q => !ltF q p
theorem sortF_perm (ps : List FK) : (sortF ps).Perm ps := List.mergeSort_perm _ _
theorem sortF_srt (ps : List FK) : (sortF ps).Pairwise leF := by
  have h := List.pairwise_mergeSort (le := fun p q : FK => !ltF q p) (fun a b c h1 h2 => by
    simp only [Bool.not_eq_true'] at h1 h2 ⊢
    exact ltF_tr h1 h2) (fun a b => by
    cases h : ltF b a with
    | false => rfl
    | true => rw [ltF_asym h]; rfl) ps
  exact h.imp fun {a b} h => by simpa [leF] using h
theorem srt_uniq {xs ys : List FK} (hp : xs.Perm ys) (h1 : xs.Pairwise leF) (h2 : ys.Pairwise leF) : xs = ys :=
  List.Perm.eq_of_pairwise (fun _ _ _ _ a b => ltF_tot b a) h1 h2 hp
theorem sortF_of_perm {xs ys : List FK} (hp : xs.Perm ys) : sortF xs = sortF ys :=
  srt_uniq (((sortF_perm xs).trans hp).trans (sortF_perm ys).symm) (sortF_srt xs) (sortF_srt ys)
/-! raw -/
def TupI (h : Heap) (b : Addr) (ks : List Int) : Prop := ∃ items : Array Value, IsTup h b items ∧ IntsAre items.toList ks
def IsFace (h : Heap) (v : Value) (p : FK) : Prop := ∃ (a : Addr) (o : Obj) (b : Addr) (t : Tok) (n : Nat), v = .ref a ∧ h.get? a = some o ∧ o.cls = .type "tuple" ∧ o.data = .seq #[.ref b, .int p.2 t] n ∧ TupI h b p.1
theorem TupI.keeps {h h' : Heap} {b : Addr} {ks : List Int} (x : TupI h b ks) (k : ∀ b o, h.get? b = some o → o.cls = .type "tuple" → h'.get? b = some o) : TupI h' b ks := by
  obtain ⟨its, ⟨o, ho, hc, r⟩, i⟩ := x
  exact ⟨its, ⟨o, k _ _ ho hc, hc, r⟩, i⟩
theorem IsFace.keeps {h h' : Heap} {v : Value} {p : FK} (x : IsFace h v p) (k : ∀ b o, h.get? b = some o → o.cls = .type "tuple" → h'.get? b = some o) : IsFace h' v p := by
  obtain ⟨a, o, b, t, n, e, ho, hc, hd, hb⟩ := x
  exact ⟨a, o, b, t, n, e, k _ _ ho hc, hc, hd, hb.keeps k⟩
theorem ints_items {P : Program} {w : World} : ∀ {ks : List Int} {us : List Value}, IntsAre us ks → ItemsAre (mixKind P w) (ks.map Sum.inl) us
  | _, _, .nil => .nil
  | _, _, .cons i t r => .cons (mixKind_int P w i t) (ints_items r)
section
variable {prog : Program} {w : World} {A : Around} {s : Shared}
theorem TupI.key {b : Addr} {ks : List Int} (x : TupI s.heap b ks) : IsTupleKey (mixKind prog w) s.heap (ks.map Sum.inl) b := by
  obtain ⟨its, ⟨o, ho, hc, n, hd⟩, i⟩ := x
  exact ⟨o, its, n, ho, hc, hd, ints_items i⟩
theorem inl_inj : ∀ {xs ys : List Int}, xs.map (Sum.inl : Int → Key) = ys.map Sum.inl → xs = ys
  | [], [], _ => rfl
  | [], _ :: _, h => by cases h
  | _ :: _, [], h => by cases h
  | x :: xs, y :: ys, h => by
    rw [List.map_cons, List.map_cons] at h
    injection h with h1 h2
    injection h1 with h1
    rw [h1, inl_inj h2]
theorem face_firsts {h : Heap} {k : Value → FK} : ∀ vs : List Value, (∀ v ∈ vs, IsFace h v (k v)) → ∃ fs : List Value, PySem.W.KatTups h vs fs ∧ fs.length = vs.length ∧ ∀ f ∈ fs, ∃ (q : Addr) (o : Obj), f = Value.ref q ∧ h.get? q = some o ∧ o.cls = .type "tuple"
  | [], _ => ⟨[], PySem.W.KatTups.nil, rfl, fun f hf => by simp at hf⟩
  | v :: vs, x => by
    obtain ⟨fs, kk, hl, hi⟩ := face_firsts vs fun u hu => x u (List.mem_cons_of_mem _ hu)
    obtain ⟨a, o, b, t, n, e, ho, hc, hd, ⟨its, ⟨o2, ho2, hc2, _⟩, _⟩⟩ := x v (List.mem_cons_self ..)
    refine ⟨.ref b :: fs, ?_, by rw [List.length_cons, List.length_cons, hl], fun f hf => ?_⟩
    · rw [e]
      exact PySem.W.KatTups.cons ho hc hd rfl kk
    · rcases List.mem_cons.mp hf with rfl | hf
      · exact ⟨b, o2, rfl, ho2, hc2⟩
      · exact hi f hf
theorem face_cmp {vs : List Value} {k : Value → FK} (hu : A.units < cLine) (hp : ∀ v ∈ vs, IsFace s.heap v (k v)) : SrtO.Cmp prog w A s (tuples' false) (fun p => p.1 ∈ vs) (SrtO.lt2 fun v u => ltF (k v) (k u)) := by
  intro p q hm hm'
  have h1 := hp _ hm
  have h2 := hp _ hm'
  show wpAny (model prog w) A (keyLt' (tuples' false) p.1 q.1) (fun r s' => s' = s ∧ r = ltF (k p.1) (k q.1)) (fun _ _ => False) s
  generalize k p.1 = x at h1 ⊢
  generalize k q.1 = y at h2 ⊢
  obtain ⟨x, i⟩ := x
  obtain ⟨y, j⟩ := y
  obtain ⟨a, o, b, t, n, e, ho, hc, hd, hb⟩ := h1
  obtain ⟨a', o', b', t', n', e', ho', hc', hd', hb'⟩ := h2
  rw [e, e']
  refine PySem.W.kat_lt ho hd ho' hd' ?_
  show PySem.W.KatLex prog w A false (decide (2 < 2)) _ [(.ref b, .ref b'), (.int i t, .int j t')] 0 s
  refine PySem.W.kat_cons (wpAny_eqBool_tuple (knd := mixKind prog w) hu hb.key hb'.key ?_)
  refine PySem.W.kat_go (fun e1 => ?_) (fun e1 => ?_)
  · have ex : x = y := inl_inj (of_decide_eq_true e1)
    refine PySem.W.kat_yes (PySem.W.kat_cons (SeqAt.EqAt.int_int i t j t' prog w _ _ ?_))
    refine PySem.W.kat_go (fun e2 => ?_) (fun e2 => ?_)
    · have ey : i = j := by simpa using e2
      have e3 : ltF (x, i) (y, j) = false := by
        unfold ltF
        rw [if_pos ex, ey]
        exact decide_eq_false (Int.lt_irrefl _)
      exact PySem.W.kat_yes (PySem.W.kat_nil ⟨rfl, e3.symm⟩)
    · have e3 : ltF (x, i) (y, j) = decide (i < j) := if_pos ex
      refine PySem.W.kat_no (PySem.W.kat_one _ _ (PyProof.Rows.lt_int ?_))
      exact (show s = s ∧ decide (i < j) = ltF (x, i) (y, j) from ⟨rfl, e3.symm⟩)
  · have ex : ¬ x = y := fun z => of_decide_eq_false e1 (by rw [z])
    have e3 : ltF (x, i) (y, j) = HT.lexLt x y := if_neg ex
    obtain ⟨its, h3, i3⟩ := hb
    obtain ⟨its', h4, i4⟩ := hb'
    refine PySem.W.kat_no ?_
    show wpAny _ _ (oneLt' false _ _) _ _ _
    refine PySem.W.kat_one _ _ (HT.lt_tupInts h3 h4 i3 i4 hu ?_)
    exact (show s = s ∧ HT.lexLt x y = ltF (x, i) (y, j) from ⟨rfl, e3.symm⟩)
theorem face_sortable {a : Addr} {vs : List Value} {k : Value → FK} (h0 : 0 < vs.length) (hu : A.units < cLine) (hp : ∀ v ∈ vs, IsFace s.heap v (k v)) (ha : ∀ o, s.heap.get? a = some o → o.cls ≠ .type "tuple") : SrtO.SortableO prog w A s a vs fun v u => ltF (k v) (k u) := by
  intro h' keep
  have hp' : ∀ v ∈ vs, IsFace h' v (k v) := fun v hm => (hp v hm).keeps fun b o e c => keep b o (fun z => by subst z; exact ha o e c) e
  obtain ⟨fs, h1, h2, h3⟩ := face_firsts vs hp'
  refine ⟨tuples' false, fun Q E hq => ?_, face_cmp (s := { s with heap := h' }) hu hp'⟩
  refine PySem.W.kat_kind (s := { s with heap := h' }) (T := .type "tuple") h1 (by omega) (fun f hm => ?_) (by rfl) ?_
  · obtain ⟨q, o, rfl, ho, hc⟩ := h3 f hm
    have z : PySem.W.Looks (model prog w) h' (typeOf (.ref q)) o.cls := (PySem.W.Looks.ld ho).andThen .now
    rw [hc] at z
    exact z
  · have e : (Value.type "tuple" != Value.type "tuple") = false := by first | decide +kernel | rfl | decide
    rw [e]
    exact hq
end
/-! rule -/
def IsFaceV (H : Hp) (x : V) (p : FK) : Prop := ∃ t c, x = V.ref t ∧ H t = some (.tup [.ref c, .int p.2]) ∧ H c = some (.tup (p.1.map V.int))
theorem vint_inj : ∀ {xs ys : List Int}, xs.map V.int = ys.map V.int → xs = ys
  | [], [], _ => rfl
  | [], _ :: _, h => by cases h
  | _ :: _, [], h => by cases h
  | x :: xs, y :: ys, h => by
    rw [List.map_cons, List.map_cons] at h
    injection h with h1 h2
    injection h1 with h1
    rw [h1, vint_inj h2]
theorem faceV_uniq {H : Hp} {x : V} {p q : FK} (h1 : IsFaceV H x p) (h2 : IsFaceV H x q) : p = q := by
  obtain ⟨t, c, rfl, a1, a2⟩ := h1
  obtain ⟨t', c', e, b1, b2⟩ := h2
  cases e
  rw [a1] at b1
  injection b1 with b1
  injection b1 with b1
  injection b1 with b3 b4
  injection b3 with b3
  injection b4 with b4 _
  injection b4 with b4
  subst b3
  rw [a2] at b2
  injection b2 with b2
  injection b2 with b2
  exact Prod.ext (vint_inj b2) b4
def rSortF : List V → Hp → VK → Prop := fun vs H Q => ∃ (a : Addr) (xs : List V) (k : V → FK), vs = [V.ref a] ∧ H a = some (.lst xs) ∧ (∀ x ∈ xs, IsFaceV H x (k x)) ∧
  ∀ ys p, ys.Pairwise (fun x y => leF (k x) (k y)) → ys.Perm xs → H p = none → Q (.ref p) (upd H p (.lst ys))
theorem cr_sortF {X : Cx} (hu : X.A.units + 2 < cLine) : CallR X (.builtin "sorted") rSortF := by
  intro pins s σ H vs us Q I r h
  obtain ⟨a, xs, k, rfl, hs, hx, q⟩ := h
  obtain ⟨hz, its, n, rv, hob⟩ := (show ObjOk X.prog X.w H s.heap a (.lst xs) from I.hok a _ hs)
  obtain ⟨u, rfl, ru⟩ := vals1 r
  obtain rfl : u = Value.ref a := ru
  obtain ⟨e1, e2⟩ := refs_back rv fun x m => by
    obtain ⟨t, c, e, _⟩ := hx x m
    exact ⟨t, e⟩
  have hf : ∀ v ∈ its, IsFace s.heap v (k (backV v)) := fun v hv => by
    obtain ⟨t, rfl⟩ := e2 v hv
    have hm : V.ref t ∈ xs := by rw [e1]; exact List.mem_map.mpr ⟨_, hv, rfl⟩
    obtain ⟨t', c, e, ht, hc⟩ := hx _ hm
    cases e
    obtain ⟨_, its2, r2, o, ho, hcl, n, hd⟩ := I.hok _ _ ht
    obtain ⟨u1, u2, rfl, ri, rj⟩ := vals2 r2
    obtain rfl : u1 = Value.ref c := ri
    obtain ⟨t2, rfl⟩ := rj
    obtain ⟨_, its3, r3, ht3⟩ := I.hok _ _ hc
    exact ⟨t, o, c, t2, n, rfl, ho, hcl, hd, its3.toArray, ht3, intsAre_of r3⟩
  refine SrtO.sorted_ord (swo_F (fun v => k (backV v))) (⟨_, hob, rfl, n, rfl⟩) (by rw [← rv.length]; exact hz) (fun h2 h₁ a ha kk => ?_) fun out hs hb => ?_
  · refine face_sortable (s := { s with heap := h₁ }) (by omega) hu (fun v hm => (hf v hm).keeps fun b o e _ => (kk b o e).2) fun o e => ?_
    have e' : some o = some (seqObj "list" its.toArray 0) := e.symm.trans ha
    cases e'
    intro c
    exact absurd (Value.type.inj c) (by decide)
  · have h3 : ∀ u ∈ out, ∃ a, u = Value.ref a := fun u hu => e2 u (hb.perm.mem_iff.mp hu)
    have hpm : (out.map backV).Perm xs := by rw [e1]; exact hb.perm.map backV
    obtain ⟨n2, hn2⟩ := sortedAll_at s.heap its out.toArray
    refine ⟨.ref (s.heap.objs.size + 1), upd H (s.heap.objs.size + 1) (.lst (out.map backV)), I.laid (t' := s.toks) (fun b o e => sortedAll_old e) (Nat.le_succ _) ⟨?_, out, n2, vals_back h3, hn2⟩, rfl, q _ _ (List.pairwise_map.mpr hs) hpm (I.hok.fresh (Nat.le_succ _))⟩
    rw [hpm.length_eq]
    exact hz
def faceK : D → Option FK
  | .tup [.tup ks, .int i] => (asInts ks).bind fun ns => some (ns, i)
  | _ => none
def faceD (p : FK) : D := .tup [.tup (p.1.map D.int), .int p.2]
theorem faceK_eq {d : D} {p : FK} (h : faceK d = some p) : d = faceD p := by
  unfold faceK at h
  split at h
  · obtain ⟨ns, h1, h2⟩ := Option.bind_eq_some_iff.mp h
    cases h2
    rw [asInts_eq h1]; rfl
  · cases h
def facesK : List D → Option (List FK)
  | [] => some []
  | d :: ds => (faceK d).bind fun p => (facesK ds).bind fun ps => some (p :: ps)
theorem facesK_eq : ∀ {ds : List D} {ps : List FK}, facesK ds = some ps → ds = ps.map faceD
  | [], ps, h => by cases h; rfl
  | d :: ds, ps, h => by
    obtain ⟨p, h1, h⟩ := Option.bind_eq_some_iff.mp h
    obtain ⟨qs, h2, h⟩ := Option.bind_eq_some_iff.mp h
    cases h
    rw [faceK_eq h1, facesK_eq h2]; rfl
noncomputable def sortedD : D → Option D
  | .lst ds => (facesK ds).bind fun ps => some (.lst ((sortF ps).map faceD))
  | d => sortedDct d
section
variable {Γ : Gam} {N : List Str} {sc : Scope} {κ1 : Kd} {G H : Hp}
theorem repl_map {K : PySem.W.Frag} {C : Addr} {G : Hp} {k : V → FK} : ∀ {ys : List V}, (∀ y ∈ ys, Rep K C G y (faceD (k y))) → RepL K C G ys ((ys.map k).map faceD)
  | [], _ => .nil
  | y :: ys, h => .cons (h y List.mem_cons_self) (repl_map fun z hz => h z (List.mem_cons_of_mem _ hz))
theorem repl_all {K : PySem.W.Frag} {C : Addr} {G : Hp} {F : V → FK → Prop} (hF : ∀ v p, Rep K C G v (faceD p) → F v p) (k : V → FK) (hk : ∀ v p, F v p → k v = p) : ∀ {vs : List V} {ps : List FK}, RepL K C G vs (ps.map faceD) → vs.map k = ps ∧ (∀ v ∈ vs, Rep K C G v (faceD (k v)) ∧ F v (k v))
  | [], [], _ => ⟨rfl, fun v h => nomatch h⟩
  | [], _ :: _, h => by cases h
  | _ :: _, [], h => by cases h
  | v :: vs, p :: ps, h => by
    cases h with
    | cons h1 h2 =>
      obtain ⟨i1, i2⟩ := repl_all hF k hk h2
      have e := hk _ _ (hF _ _ h1)
      refine ⟨by rw [List.map_cons, i1, e], fun u hu => ?_⟩
      rcases List.mem_cons.mp hu with rfl | hu
      · rw [e]; exact ⟨h1, hF _ _ h1⟩
      · exact i2 u hu
theorem rep_face (s : SL G H) {v : V} {p : FK} (h : Rep Γ.K Γ.C G v (faceD p)) : IsFaceV H v p := by
  unfold faceD at h
  cases h with
  | tup h1 h2 =>
    cases h2 with
    | cons a b =>
      cases b with
      | cons b c =>
        cases c
        cases a with
        | tup a1 a2 =>
          cases b
          rw [a2.ints_eq] at a1
          exact ⟨_, _, rfl, s.tup h1, s.tup a1⟩
theorem cr_sort2 {X : Cx} (hc : X.calm = true) (hu : X.A.units + 2 < cLine) : CallR X (.builtin "sorted") (fun vs H Q => rSortF vs H Q ∨ rSortDP vs H Q) := by
  intro pins s σ H vs us Q I r h
  rcases h with h | h
  · exact cr_sortF hu pins s σ H vs us Q I r h
  · exact cr_sortDP hc pins s σ H vs us Q I r h
theorem d_sorted {ea : Expr} {a : Env → Option D} {p pos : Pos} (hg : glB sc "sorted" = true) (hm : Γ.mg "sorted" = none) (ha : DV Γ N sc κ1 ea a) (hs : Pl1 ea [] := by exact fun _ => rfl) : DV Γ N sc .f (.Call (.Name "sorted" p) [ea] [] pos) (f1 sortedD a) :=
  d_b1 (fun X g => cr_sort2 g.calm (by have := g.room.un; omega)) (by decide +kernel) (by decide) (by decide) (fun G H x d z s rx h Q q => by
    cases d <;> try cases h
    · rename_i ds
      left
      obtain ⟨ps, h1, h2⟩ := Option.bind_eq_some_iff.mp (show ((facesK ds).bind fun ps => some (D.lst ((sortF ps).map faceD))) = some z from h)
      cases h2
      obtain ⟨b, vs, rfl, hb, rl⟩ := rx.lst s
      rw [facesK_eq h1] at rl
      have hk : ∃ k : V → FK, ∀ v p, IsFaceV H v p → k v = p := by
        classical
        refine ⟨fun v => if h : ∃ p : FK, IsFaceV H v p then h.choose else ([], 0), fun v p h => ?_⟩
        have hex : ∃ p : FK, IsFaceV H v p := ⟨p, h⟩
        show (if h : ∃ p : FK, IsFaceV H v p then h.choose else ([], 0)) = p
        rw [dif_pos hex]
        exact faceV_uniq hex.choose_spec h
      obtain ⟨k, hk⟩ := hk
      obtain ⟨e1, e2⟩ := repl_all (fun v p h => rep_face s h) k hk rl
      refine ⟨b, vs, k, rfl, hb, fun x hx => (e2 x hx).2, fun ys p hs hp hn => ?_⟩
      have e3 : ys.map k = sortF ps := by
        refine srt_uniq ?_ (List.pairwise_map.mpr hs) (sortF_srt ps)
        rw [← e1]
        exact (hp.map k).trans (by rw [e1]; exact (sortF_perm ps).symm)
      refine q G _ _ (Grow.newH s hn) ⟨p, rfl, hn, s.free hn, _, upd_same, ?_⟩
      rw [← e3]
      exact repl_map fun y hy => (e2 y (hp.mem_iff.mp hy)).1
    · rename_i kds
      right
      obtain ⟨ps, h1, h2⟩ := Option.bind_eq_some_iff.mp (show ((pairsK (kds.map Prod.fst)).bind fun ps => gdR (ps.Pairwise fun p q => SrtO.lexB p q = true) (D.lst (ps.map fun p => .tup [.int p.1, .int p.2]))) = some z from h)
      obtain ⟨h3, rfl⟩ := gdR_inv h2
      obtain ⟨b, kvs, rfl, hr, ek, _⟩ := rx.dct s
      refine ⟨b, kvs, ps, rfl, hr, ?_, h3, fun bs l hl hb hn => ?_⟩
      · rw [ek, show (kds.map fun p => kk p.1) = (kds.map Prod.fst).map kk by rw [List.map_map]; rfl, pairsK_eq h1, List.map_map]; rfl
      · obtain ⟨G', g1, r⟩ := grow_keys (Γ := Γ) bs ps G H s hl hb
        exact q G' _ _ (g1.trans (Grow.newH g1.s hn)) ⟨l, rfl, hn, g1.s.free hn, _, upd_same, r⟩) hg hm ha hs
end
end Pv
set_option Elab.async false
set_option linter.all false
set_option maxRecDepth 100000
set_option maxHeartbeats 4000000
set_option autoImplicit false
namespace Pv
variable [TabT]
open PySem PySem.Spec PyProof.Rows L2
/-! ### sorted(list of ints), sorted(list of pairs that stand in their order) -/
def sortN (ns : List Int) : List Int := ns.mergeSort fun a b => decide (a ≤ b)
theorem sortN_perm (ns : List Int) : (sortN ns).Perm ns := List.mergeSort_perm _ _
theorem sortN_le (ns : List Int) : (sortN ns).Pairwise (· ≤ ·) := by
  have h := List.pairwise_mergeSort (le := fun a b : Int => decide (a ≤ b)) (fun a b c h1 h2 => by
    simp only [decide_eq_true_eq] at h1 h2 ⊢; omega) (fun a b => by
    simp only [Bool.or_eq_true, decide_eq_true_eq]; omega) ns
  exact h.imp fun h => by simpa using h
theorem sortN_uniq {xs ys : List Int} (h1 : xs.Pairwise (· ≤ ·)) (h2 : ys.Pairwise (· ≤ ·)) (p : xs.Perm ys) : xs = ys :=
  List.Perm.eq_of_pairwise (fun _ _ _ _ a b => Int.le_antisymm a b) h1 h2 p
def sortedN : D → Option D
  | .lst ds => (asInts ds).bind fun ns => some (.lst ((sortN ns).map D.int))
  | _ => none
def pairD (p : Int × Int) : D := .tup [.int p.1, .int p.2]
def pairO : D → Option (Int × Int)
  | .tup [.int a, .int b] => some (a, b)
  | _ => none
def pairsO : List D → Option (List (Int × Int))
  | [] => some []
  | d :: ds => (pairO d).bind fun p => (pairsO ds).bind fun ps => some (p :: ps)
theorem pairsO_eq : ∀ {ds : List D} {ps : List (Int × Int)}, pairsO ds = some ps → ds = ps.map pairD
  | [], ps, h => by cases h; rfl
  | d :: ds, ps, h => by
    obtain ⟨p, h1, h⟩ := Option.bind_eq_some_iff.mp h
    obtain ⟨qs, h2, h⟩ := Option.bind_eq_some_iff.mp h
    cases h
    have : d = pairD p := by
      unfold pairO at h1
      split at h1
      · cases h1; rfl
      · cases h1
    rw [this, pairsO_eq h2]; rfl
theorem pairsO_map : ∀ ps : List (Int × Int), pairsO (ps.map pairD) = some ps
  | [] => rfl
  | p :: ps => by
    show (pairsO (ps.map pairD)).bind _ = _
    rw [pairsO_map ps]; rfl
noncomputable def sortedC : D → Option D
  | .lst ds => (pairsO ds).bind fun ps => gdR (ps.Pairwise fun p q => SrtO.lexB p q = true) (.lst ds)
  | _ => none
def IsPairV (H : Hp) (x : V) (p : Int × Int) : Prop := ∃ t, x = V.ref t ∧ H t = some (.tup [.int p.1, .int p.2])
theorem pairV_uniq {H : Hp} {x : V} {p q : Int × Int} (h1 : IsPairV H x p) (h2 : IsPairV H x q) : p = q := by
  obtain ⟨t, rfl, a1⟩ := h1
  obtain ⟨t', e, b1⟩ := h2
  cases e
  rw [a1] at b1
  have b1 := Option.some.inj b1
  injection b1 with b1
  injection b1 with b1 b2
  injection b2 with b2
  injection b1 with b1
  injection b2 with b2
  exact Prod.ext b1 b2
def rSortPL : List V → Hp → VK → Prop := fun vs H Q => ∃ (a : Addr) (xs : List V) (k : V → Int × Int), vs = [V.ref a] ∧ H a = some (.lst xs) ∧ (∀ x ∈ xs, IsPairV H x (k x)) ∧
  ∀ ys p, ys.Pairwise (fun x y => SrtO.lexB (k y) (k x) = false) → ys.Perm xs → H p = none → Q (.ref p) (upd H p (.lst ys))
theorem cr_sortPL {X : Cx} : CallR X (.builtin "sorted") rSortPL := by
  intro pins s σ H vs us Q I r h
  obtain ⟨a, xs, k, rfl, hs, hx, q⟩ := h
  obtain ⟨hz, its, n, rv, hob⟩ := (show ObjOk X.prog X.w H s.heap a (.lst xs) from I.hok a _ hs)
  obtain ⟨u, rfl, ru⟩ := vals1 r
  obtain rfl : u = Value.ref a := ru
  obtain ⟨e1, e2⟩ := refs_back rv fun x m => by
    obtain ⟨t, e, _⟩ := hx x m
    exact ⟨t, e⟩
  have hf : ∀ v ∈ its, Srt.IsPair s.heap v (k (backV v)).1 (k (backV v)).2 := fun v hv => by
    obtain ⟨t, rfl⟩ := e2 v hv
    have hm : V.ref t ∈ xs := by rw [e1]; exact List.mem_map.mpr ⟨_, hv, rfl⟩
    obtain ⟨t', e, ht⟩ := hx _ hm
    cases e
    obtain ⟨_, its2, r2, o, ho, hcl, n, hd⟩ := I.hok _ _ ht
    obtain ⟨u1, u2, rfl, ri, rj⟩ := vals2 r2
    obtain ⟨t1, rfl⟩ := ri
    obtain ⟨t2, rfl⟩ := rj
    exact ⟨t, o, t1, t2, n, rfl, ho, hcl, hd⟩
  refine SrtO.sorted_ord (SrtO.swo_lex (fun v => k (backV v))) (⟨_, hob, rfl, n, rfl⟩) (by rw [← rv.length]; exact hz) (fun h2 h₁ a ha kk => ?_) fun out hs hb => ?_
  · refine SrtO.pairs_sortableO (s := { s with heap := h₁ }) (by omega) (fun v hm => (hf v hm).keeps fun b o e _ => (kk b o e).2) fun o e => ?_
    have e' : some o = some (seqObj "list" its.toArray 0) := e.symm.trans ha
    cases e'
    intro c
    exact absurd (Value.type.inj c) (by decide)
  · have h3 : ∀ u ∈ out, ∃ a, u = Value.ref a := fun u hu => e2 u (hb.perm.mem_iff.mp hu)
    have hpm : (out.map backV).Perm xs := by rw [e1]; exact hb.perm.map backV
    obtain ⟨n2, hn2⟩ := sortedAll_at s.heap its out.toArray
    refine ⟨.ref (s.heap.objs.size + 1), upd H (s.heap.objs.size + 1) (.lst (out.map backV)), I.laid (t' := s.toks) (fun b o e => sortedAll_old e) (Nat.le_succ _) ⟨?_, out, n2, vals_back h3, hn2⟩, rfl, q _ _ (List.pairwise_map.mpr hs) hpm (I.hok.fresh (Nat.le_succ _))⟩
    rw [hpm.length_eq]
    exact hz
section
variable {Γ : Gam} {N : List Str} {sc : Scope} {κ1 : Kd} {G H : Hp}
theorem repl_pairs {K : PySem.W.Frag} {C : Addr} {G : Hp} {F : V → Int × Int → Prop} (hF : ∀ v p, Rep K C G v (pairD p) → F v p) (k : V → Int × Int) (hk : ∀ v p, F v p → k v = p) : ∀ {vs : List V} {ps : List (Int × Int)}, RepL K C G vs (ps.map pairD) → vs.map k = ps ∧ (∀ v ∈ vs, Rep K C G v (pairD (k v)) ∧ F v (k v))
  | [], [], _ => ⟨rfl, fun v h => nomatch h⟩
  | [], _ :: _, h => by cases h
  | _ :: _, [], h => by cases h
  | v :: vs, p :: ps, h => by
    cases h with
    | cons h1 h2 =>
      obtain ⟨i1, i2⟩ := repl_pairs hF k hk h2
      have e := hk _ _ (hF _ _ h1)
      refine ⟨by rw [List.map_cons, i1, e], fun u hu => ?_⟩
      rcases List.mem_cons.mp hu with rfl | hu
      · rw [e]; exact ⟨h1, hF _ _ h1⟩
      · exact i2 u hu
theorem repl_back {K : PySem.W.Frag} {C : Addr} {G : Hp} {k : V → Int × Int} : ∀ {ys : List V}, (∀ y ∈ ys, Rep K C G y (pairD (k y))) → RepL K C G ys ((ys.map k).map pairD)
  | [], _ => .nil
  | y :: ys, h => .cons (h y List.mem_cons_self) (repl_back fun z hz => h z (List.mem_cons_of_mem _ hz))
theorem rep_pair (s : SL G H) {v : V} {p : Int × Int} (h : Rep Γ.K Γ.C G v (pairD p)) : IsPairV H v p := by
  unfold pairD at h
  cases h with
  | tup h1 h2 =>
    cases h2 with
    | cons a b =>
      cases b with
      | cons b c =>
        cases c
        cases a
        cases b
        exact ⟨_, rfl, s.tup h1⟩
theorem d_sortedC {ea : Expr} {a : Env → Option D} {p pos : Pos} (hg : glB sc "sorted" = true) (hm : Γ.mg "sorted" = none) (ha : DV Γ N sc κ1 ea a) (hs : Pl1 ea [] := by exact fun _ => rfl) : DV Γ N sc .f (.Call (.Name "sorted" p) [ea] [] pos) (f1 sortedC a) :=
  d_b1 (fun X g => cr_sortPL) (by decide +kernel) (by decide) (by decide) (fun G H x d z s rx h Q q => by
    cases d <;> try cases h
    rename_i ds
    obtain ⟨ps, h1, h2⟩ := Option.bind_eq_some_iff.mp (show ((pairsO ds).bind fun ps => gdR (ps.Pairwise fun p q => SrtO.lexB p q = true) (D.lst ds)) = some z from h)
    obtain ⟨h3, rfl⟩ := gdR_inv h2
    obtain ⟨b, vs, rfl, hb, rl⟩ := rx.lst s
    have ed := pairsO_eq h1
    rw [ed] at rl
    have hk : ∃ k : V → Int × Int, ∀ v p, IsPairV H v p → k v = p := by
      classical
      refine ⟨fun v => if h : ∃ p : Int × Int, IsPairV H v p then h.choose else (0, 0), fun v p h => ?_⟩
      have hex : ∃ p : Int × Int, IsPairV H v p := ⟨p, h⟩
      show (if h : ∃ p : Int × Int, IsPairV H v p then h.choose else (0, 0)) = p
      rw [dif_pos hex]
      exact pairV_uniq hex.choose_spec h
    obtain ⟨k, hk⟩ := hk
    obtain ⟨e1, e2⟩ := repl_pairs (fun v p h => rep_pair s h) k hk rl
    refine ⟨b, vs, k, rfl, hb, fun x hx => (e2 x hx).2, fun ys p hs hp hn => ?_⟩
    have e3 : ys.map k = ps := by
      refine List.Perm.eq_of_pairwise (le := fun p q => SrtO.lexB q p = false) (fun x y _ _ a b => ?_) (List.pairwise_map.mpr hs) (h3.imp fun {x y} h => ?_) (by rw [← e1]; exact hp.map k)
      · have a := SrtO.lexB_no.mp a
        have b := SrtO.lexB_no.mp b
        exact Prod.ext (by omega) (by omega)
      · have h := SrtO.lexB_iff.mp h
        exact SrtO.lexB_no.mpr (by omega)
    refine q G _ _ (Grow.newH s hn) ⟨p, rfl, hn, s.free hn, _, upd_same, ?_⟩
    rw [ed, ← e3]
    exact repl_back fun y hy => (e2 y (hp.mem_iff.mp hy)).1) hg hm ha hs
theorem d_sortedN {ea : Expr} {a : Env → Option D} {p pos : Pos} (hg : glB sc "sorted" = true) (hm : Γ.mg "sorted" = none) (ha : DV Γ N sc κ1 ea a) (hs : Pl1 ea [] := by exact fun _ => rfl) : DV Γ N sc .f (.Call (.Name "sorted" p) [ea] [] pos) (f1 sortedN a) :=
  d_b1 (r := rSortedI Γ.K) (fun X g => by rw [← g.K]; exact cr_sortedI) (by decide +kernel) (by decide) (by decide) (fun G H x d z s rx h Q q => by
    cases d <;> try cases h
    rename_i ds
    obtain ⟨ns, h1, h2⟩ := Option.bind_eq_some_iff.mp (show ((asInts ds).bind fun ns => some (D.lst ((sortN ns).map D.int))) = some z from h)
    cases h2
    obtain ⟨b, vs, rfl, hb, rl⟩ := rx.lst s
    rw [asInts_eq h1] at rl
    rw [rl.ints_eq] at hb
    refine ⟨b, ns, rfl, SqL.of hb, fun ns' p hp hs hn => ?_⟩
    have e := sortN_uniq hs (sortN_le ns) (hp.trans (sortN_perm ns).symm)
    rw [e]
    exact q G _ _ (Grow.newH s hn) ⟨p, rfl, hn, s.free hn, _, upd_same, RepL.ints _⟩) hg hm ha hs
end
end Pv
set_option Elab.async false
set_option linter.all false
set_option maxRecDepth 100000
set_option maxHeartbeats 4000000
set_option autoImplicit false
namespace Pv
variable [TabT]
open PySem PySem.Spec PyProof.Rows L2 LamX NdefX
/-! ### a function value that a lambda makes -/
/-- what the heap is behind it -/
def NewC (H H1 : Hp) (P c' : Addr) (q : Str) : Prop := (H1 = H ∧ H c' = some (CodeO c' q)) ∨ ∃ ps more, H P = some (.tbl ps) ∧ H c' = none ∧ H1 = upd (upd H P (.tbl (ps ++ more))) c' (CodeO c' q)
section
variable {X : Cx} {pins : List (Addr × Obj)} {σ : L2.St} {H : Hp} {s : Shared}
theorem lam_new {q : Str} {c P : Addr} {params : Arguments} {body : Expr} {scope : Scope} {pos : Pos} {E Q : Value → Shared → Prop} (I : Inv X pins σ H s) (B : TabB X.base X.mg c P) (code : X.env.code = .ref c) (eq : X.env.qual ++ "<lambda>" = q) (T : TabS H P q)
    (df : defaultsOf params X.env = ([], [])) (fr : ∀ y ∈ scope.names, y.2 = .free → ∃ c, X.env.cells.lookup y.1 = some c)
    (k : ∀ (f c' : Addr) (pm ctv : Value) (H1 : Hp) (s1 : Shared), Inv X pins σ H1 s1 → NewC H H1 P c' q → TabS H1 P q →
      s1.heap.get? f = some (PySem.W.kla_obj "<lambda>" q params body scope (cloFrom X.env.cells scope.names []) pm c' ctv) → H1 f = none → f ∉ frs X.stack → Q (.ref f) s1) :
    wpAny (model X.prog X.w) X.A (eval (.Lambda params body scope pos) X.env) Q E s := by
  subst eq
  obtain ⟨ps, atP, tri, told⟩ := T
  have obP : s.heap.get? P = some { cls := .none, data := .fields ps } := I.hok P _ atP
  have blt := B.bm.keeps I.bk
  have high : ∀ f, s.heap.objs.size ≤ f → f ∉ frs X.stack := fun f hf z =>
    (List.mem_cons.mp (I.stkSub _ z)).elim (fun e => Nat.lt_irrefl _ (Nat.lt_of_lt_of_le (e ▸ I.lt) hf)) fun e => I.nofs hf e
  refine PySem.W.kla_eval df ?_
  cases am : codeAmong pos ps.toList with
  | some cv =>
    obtain ⟨c', rfl, there⟩ := told pos cv am
    refine PySem.W.kla_makeFunctionHit (mg := X.mg) (c := c) (P := P) (ps := ps) (closure_ok fr) I.ok.glob (I.mod.glob.keeps I.bk) code (B.code.keeps I.bk) obP tri am blt fun ctv h2 tk up le => ?_
    exact k _ c' _ ctv H _ (I.kept (t' := tk) fun b o e => Heap.get?_push_of_some _ (up b o e)) (.inl ⟨rfl, there⟩) ⟨ps, atP, tri, told⟩ (Heap.get?_push_size _ rfl) (I.hok.fresh le) (high _ le)
  | none =>
    refine PySem.W.kla_makeFunction (mg := X.mg) (c := c) (P := P) (ps := ps) (closure_ok fr) I.ok.glob (I.mod.glob.keeps I.bk) code (B.code.keeps I.bk) obP tri am B.gP blt fun c' ctv h2 tk up le lt rec tab => ?_
    obtain ⟨c2, oc, vs, t, ec, o1, o2, o3⟩ := rec
    cases ec
    have no : H c' = none := I.hok.fresh le
    have sz : s.heap.objs.size ≤ h2.objs.size := Nat.le_trans le (Nat.le_of_lt lt)
    have nP : P ≠ c' := ne_of_none atP no
    have I1 := inv_table (t' := tk) (more := #[rawInt pos.line, rawInt pos.col, .ref c']) I atP (fun b o hb e => Heap.get?_push_of_some _ (up b o hb e)) (Heap.get?_push_of_some (PySem.W.kla_obj "<lambda>" (X.env.qual ++ "<lambda>") params body scope (cloFrom X.env.cells scope.names []) ((X.mg "__name__").getD .none) c' ctv) tab)
      le ⟨oc, vs, t, Heap.get?_push_of_some _ o1, o2, o3⟩
    have new : NewC H (upd (upd H P (.tbl (ps ++ #[rawInt pos.line, rawInt pos.col, .ref c']))) c' (CodeO c' (X.env.qual ++ "<lambda>"))) P c' (X.env.qual ++ "<lambda>") := .inr ⟨ps, _, atP, no, rfl⟩
    refine k h2.objs.size c' _ ctv _ _ I1 new ⟨_, by rw [upd_ne nP, upd_same], ?_, fun p2 cv hcv => ?_⟩ (Heap.get?_push_size _ rfl) ?_ (high _ sz)
    · rw [Array.toList_append]
      exact PySem.TriplesOk_snoc _ _ _ _ tri
    · rw [Array.toList_append] at hcv
      rcases among_app _ tri hcv with z | rfl
      · obtain ⟨c0, rfl, e2⟩ := told p2 cv z
        refine ⟨c0, rfl, ?_⟩
        rw [upd_ne (ne_of_none e2 no), upd_ne]
        · exact e2
        · rintro rfl
          rw [atP] at e2
          exact codeO_ne _ (Option.some.inj e2).symm
      · exact ⟨c', rfl, upd_same⟩
    · rw [upd_ne (Nat.ne_of_gt lt), upd_ne (Nat.ne_of_gt (Nat.lt_of_lt_of_le (Heap.lt_size obP) sz))]
      exact I.hok.fresh sz
end
section
variable {G H H1 : Hp} {P c' : Addr} {q : Str}
/-- the ghost with the code object -/
noncomputable def ghC (G : Hp) (c' : Addr) (q : Str) : Hp := upd G c' (CodeO c' q)
theorem new_grow (s : SL G H) (n : NewC H H1 P c' q) (t : TbH H1) : Grow G H (ghC G c' q) H1 := by
  have code : H1 c' = some (CodeO c' q) := by
    rcases n with ⟨rfl, h⟩ | ⟨ps, more, _, _, rfl⟩
    · exact h
    · exact upd_same
  have low : H c' = none ∨ H c' = some (CodeO c' q) := by
    rcases n with ⟨_, h⟩ | ⟨ps, more, _, h, _⟩
    · exact .inr h
    · exact .inl h
  have same : ∀ b o, H b = some o → (∀ ps, o ≠ .tbl ps) → H1 b = some o := fun b o e no => by
    rcases n with ⟨rfl, _⟩ | ⟨ps, more, h1, h2, rfl⟩
    · exact e
    · rw [upd_ne (ne_of_none e h2), upd_ne]
      · exact e
      · rintro rfl
        rw [h1] at e
        exact no ps (Option.some.inj e).symm
  have tabs : ∀ b ps, H b = some (.tbl ps) → ∃ ps, H1 b = some (.tbl ps) := fun b ps e => by
    rcases n with ⟨rfl, _⟩ | ⟨ps', more, h1, h2, rfl⟩
    · exact ⟨ps, e⟩
    · rw [upd_ne (ne_of_none e h2)]
      by_cases hb : b = P
      · rw [hb]; exact ⟨_, upd_same⟩
      · rw [upd_ne hb]; exact ⟨ps, e⟩
  have sH : SL H H1 := fun b o e => by
    by_cases ht : ∃ ps, o = .tbl ps
    · obtain ⟨ps, rfl⟩ := ht
      exact .inr (.inr ⟨⟨ps, rfl⟩, tabs b ps e⟩)
    · exact .inl (same b o e fun ps z => ht ⟨ps, z⟩)
  have gc : ∀ o, G c' = some o → o = CodeO c' q := fun o e => by
    rcases s c' o e with h | ⟨_, od, h⟩ | ⟨_, ps, h⟩ <;> rcases low with z | z <;> rw [h] at z
    · cases z
    · exact Option.some.inj z
    · cases z
    · have z := Option.some.inj z; unfold CodeO at z; cases z
    · cases z
    · exact absurd (Option.some.inj z).symm (codeO_ne ps)
  refine ⟨fun b o e => .inl ?_, sH, fun b o e => ?_, fun b h1 h2 => ?_, fun b o _ e no => same b o e no, fun _ => t⟩
  · by_cases hb : b = c'
    · subst hb
      rw [gc o e]
      exact upd_same
    · exact (upd_ne hb).trans e
  · by_cases hb : b = c'
    · subst hb
      have e' : some (CodeO b q) = some o := (upd_same (H := G)).symm.trans e
      rw [← Option.some.inj e']
      exact .inl code
    · have e : G b = some o := (upd_ne hb).symm.trans e
      exact (s.trans sH) b o e
  · by_cases hb : b = c'
    · subst hb
      exact low.imp id fun h => .inr ⟨_, _, h⟩
    · exact absurd h1 (by rw [← upd_ne (H := G) (o := CodeO c' q) hb]; exact h2)
theorem ghC_at : ghC G c' q c' = some (CodeO c' q) := upd_same
end
end Pv
set_option Elab.async false
set_option linter.all false
set_option maxRecDepth 100000
set_option maxHeartbeats 4000000
set_option autoImplicit false
namespace Pv
variable [TabT]
open PySem PySem.Spec PyProof.Rows L2 LamX NdefX
/-! ### the function value is called -/
/-- the record of a lambda, as the kit has it for nested defs -/
abbrev lamF (q : Str) (params : Arguments) (scope : Scope) (cl : List (Str × Addr)) (c' : Addr) : NF := ⟨"<lambda>", q, params, [], scope, cl, c'⟩
/-- what is known of the function value where the def that gets it is entered -/
structure LamK (X : Cx) (s : Shared) (H : Hp) (f c' : Addr) (q : Str) (params : Arguments) (body : Expr) (scope : Scope) (cl : List (Str × Addr)) (fr : List Str) (ws : List (Option V)) : Prop where
  ob : ∃ pm ctv, s.heap.get? f = some (PySem.W.kla_obj "<lambda>" q params body scope cl pm c' ctv)
  un : H f = none
  nf : f ∉ frs X.stack
  ce : CellsAt cl fr ws s.heap H
section
variable {X : Cx} {H : Hp} {s : Shared}
theorem pe_act1 {CXg : CXT} {Eg : XK} {Ng Nl ps fr : List Str} {qg q : Str} {sg scope : Scope} {g f c' : Addr} {cdg : Value} {params : Arguments} {body : Expr} {cl : List (Str × Addr)} {ws : List (Option V)} {k i : Nat} {a : Str} {e : Expr} {es : List Expr} {ta : TA} {tb : TE} {p1 pos : Pos}
    (L : LamK X s H f c' q params body scope cl fr ws) (S : NScope Nl ps fr scope) (hr : Room (k + 1) (X.A.deeper (envOfC qg sg s.heap.objs.size g cdg)))
    (hbind : ∀ (pm ctv : Value) (us : List Value), us.length = ps.length → bindArgs (PySem.W.kla_fn "<lambda>" q params body scope cl pm (.ref c') ctv) ⟨us, []⟩ = pure (ps.zip us))
    (hbody : ∀ (A : Around) (outer : List PySem.Env) (s1 : Shared) (H1 : Hp), Room k (A.deeper (envF (lamF q params scope cl c') f s1.heap.objs.size)) → PE (ncx C8.CX0 X.prog X.w X.K X.mg X.base Nl (lamF q params scope cl c') f A outer s1 H1 C8.E0).nox body tb)
    (hN : Ng[i]? = some a) (hv : Vis sg a) (hd : (a == ("__debug__" : Str)) = false) (hcd : (a == ("__classdict__" : Str)) = false)
    (ha : PA (cxOf CXg X.prog X.w X.K X.mg X.base Ng qg sg g cdg X.A X.stack s H Eg).nox (e :: es) ta)
    (he : starEach (e :: es) (envOfC qg sg s.heap.objs.size g cdg) = (false, eval e (envOfC qg sg s.heap.objs.size g cdg)) :: starEach es (envOfC qg sg s.heap.objs.size g cdg)) (hpl : (backTo pos (starEach es (envOfC qg sg s.heap.objs.size g cdg))).any (·.1) = false) :
    PE (cxOf CXg X.prog X.w X.K X.mg X.base Ng qg sg g cdg X.A X.stack s H Eg).nox (.Call (.Name a p1) (e :: es) [] pos)
      (fun σZ HZ Q => σZ[i]? = some (some (.ref f)) ∧ ta σZ HZ fun vs H1 => vs.length = ps.length ∧ H1 c' = some (CodeO c' q) ∧ tb (startF Nl vs ws) H1 Q) := by
  refine ⟨fun pins s0 σ0 H0 Q I0 h => ?_⟩
  obtain ⟨slot, h⟩ := h
  obtain ⟨pm, ctv, ob⟩ := L.ob
  refine wpAny_Call_Name_kw (thn ((pe_var (pos := p1) (i := i) hN hv hd hcd).run pins s0 σ0 H0 (fun v H1 => v = .ref f ∧ H1 = H0) I0 ⟨.ref f, slot, rfl, rfl⟩) fun u s1 ⟨v, H1, I1, r1, q1⟩ => ?_)
  obtain ⟨rfl, rfl⟩ := q1
  obtain rfl : u = Value.ref f := r1
  have stays : ∀ {τ : L2.St} {H2 : Hp} {s2 : Shared}, Inv (cxOf CXg X.prog X.w X.K X.mg X.base Ng qg sg g cdg X.A X.stack s H Eg).nox pins τ H2 s2 → s2.heap.get? f = some (PySem.W.kla_obj "<lambda>" q params body scope cl pm c' ctv) :=
    fun I2 => I2.base.keep f _ ob L.un L.nf (fun z => nomatch (show f ∈ ([] : List Addr) from z))
  refine PySem.W.callWith_F (first := []) ⟨_, _, _, _, stays I1⟩ (thn (ha.run pos pins s1 σ0 H1 _ I1 h) fun us s2 ⟨vs, H2, I2, r, hl, hc, hq0⟩ => ⟨⟨_, _, _, _, stays I2⟩, ?_⟩) he hpl
  show wpAny _ _ (call (.ref f) us) _ _ _
  have un : Un (frs X.stack) [] H H2 s.heap s2.heap := I2.base
  have C2 : CellsAt cl fr ws s2.heap H2 := by
    have up : ∀ (c : Addr) (v : Option Value), H c = none → s.heap.IsCell c v → s2.heap.IsCell c v := fun c v n ⟨o, ho, hd⟩ => by
      obtain ⟨sl, z⟩ := un.any ho n (by simp)
      exact ⟨_, z, hd⟩
    refine ⟨L.ce.len, fun y c e => ?_, L.ce.inj, fun j y e => ?_⟩
    · obtain ⟨n, v, z⟩ := L.ce.all y c e
      obtain ⟨o, ho, hd⟩ := z
      exact ⟨un.free c o ho n (by simp), v, up c v n ⟨o, ho, hd⟩⟩
    · obtain ⟨c, h1, h2⟩ := L.ce.has j y e
      refine ⟨c, h1, fun v e => ?_⟩
      obtain ⟨u, h3, h4⟩ := h2 v e
      exact ⟨u, h3, up c _ (L.ce.all y c h1).1 h4⟩
  have run : codeAny (model X.prog X.w) (X.A.deeper (envOfC qg sg s.heap.objs.size g cdg)) (.call (.ref f) ⟨us, []⟩) (CR C8.CX0 (envOfC qg sg s.heap.objs.size g cdg :: X.stack) X.prog X.w H2 s2 Q C8.E0) s2 := by
    refine PySem.W.kla_callFunE hr.depth (stays I2) rfl S.co S.gen rfl (codeO_at I2.hok hc) ?_
    rw [hbind pm ctv us (by rw [← r.length]; exact hl)]
    refine wpAny_pure (wpAny_newFunctionEnv S.nocell (fun ⟨n, _⟩ hy => S.par n (List.of_mem_zip hy).1) (fun h₁ hns hsb => ⟨I2.nolimit.fresh _ hsb, ?_⟩) S.kind)
    show codeAny _ _ (.expr body (envF (lamF q params scope cl c') f s2.heap.objs.size)) _ _
    have kp : ∀ b o, s2.heap.get? b = some o → h₁.get? b = some o := fun b o e => hsb.extBut b o (Nat.ne_of_lt (Heap.lt_size e)) (Heap.get?_push_of_some _ e)
    have J : Inv (ncx C8.CX0 X.prog X.w X.K X.mg X.base Nl (lamF q params scope cl c') f (X.A.deeper (envOfC qg sg s.heap.objs.size g cdg)) (envOfC qg sg s.heap.objs.size g cdg :: X.stack) s2 H2 C8.E0) [] (startF Nl vs ws) H2 { s2 with heap := h₁, toks := s2.toks + (ps.zip us).length } :=
      inv_startN S hr.hd I2.env0 hl r C2 hns kp
    have hb0 := hbody (X.A.deeper (envOfC qg sg s.heap.objs.size g cdg)) (envOfC qg sg s.heap.objs.size g cdg :: X.stack) s2 H2 (hr.deeper _)
    have hb1 : PE (ncx C8.CX0 X.prog X.w X.K X.mg X.base Nl (lamF _ params scope cl c') f (X.A.deeper (envOfC qg sg s.heap.objs.size g cdg)) (envOfC qg sg s.heap.objs.size g cdg :: X.stack) s2 H2 C8.E0) body tb := hb0.nox
    have hb2 := hb1.run [] _ _ H2 Q J hq0
    refine PySem.W.kla_codeExpr (wpAny_mono hb2 (fun v s' hq => ?_) fun e s' hq => hq)
    obtain ⟨w', H', J', rv, q⟩ := hq
    exact ⟨w', H', J'.os, J'.bare, J'.base, J'.hok, rv, q⟩
  refine wpAny_call (codeAny_mono run fun r s' hq => ?_)
  cases r with
  | error e => exact (show False from hq).elim
  | ok fl =>
    cases fl with
    | ret u => exact I2.after hq
    | next => exact False.elim hq
    | brk => exact False.elim hq
    | cont => exact False.elim hq
end
end Pv
set_option Elab.async false
set_option linter.all false
set_option maxRecDepth 100000
set_option maxHeartbeats 4000000
set_option autoImplicit false
namespace Pv
variable [TabT]
open PySem PySem.Spec PyProof.Rows L2 LamX NdefX
/-! ### a def gets the function value -/
section
variable {X : Cx}
/-- x(e1, lambda ..) -/
theorem pe_pwcall {PW : Addr → Addr → List (Option V) → V → Hp → VK → Prop} {q x n0 a : Str} {g c P : Addr} {k : Nat} {pg : Arguments} {bg : List Stmt} {sg : Scope} {dV kV doc pm cdv ct oc : Value} {an od : Option Addr} {osl : Array (Option Value)} {Ng fr : List Str} {js : List Nat}
    {params : Arguments} {body e1 : Expr} {scope : Scope} {t1 : TE} {p lpos pos : Pos} (hg : Gl X x) (hm : X.mg x = some (.ref g)) (hk : PySem.W.keepIn X.K (.ref g) = true)
    (lk : X.K.lookup g = some ⟨oc, od, .func (PySem.W.fnOf x x pg bg sg dV kV doc pm an cdv ct), osl⟩) (hcg : PySem.W.codeIn X.K cdv x = true) (hb : L2.Binds X.K (PySem.W.fnOf x x pg bg sg dV kV doc pm an cdv ct) [n0, a] []) (Sg : FnScope Ng [n0, a] sg)
    (B : TabB X.base X.mg c P) (code : X.env.code = .ref c) (eq : X.env.qual ++ "<lambda>" = q) (hr : Room (k + 1) X.A) (df : defaultsOf params X.env = ([], [])) (free : X.Ok → ∀ y ∈ scope.names, y.2 = .free → ∃ c, X.env.cells.lookup y.1 = some c)
    (cp : X.Ok → Caps X (cloFrom X.env.cells scope.names []) fr js) (ha : PE X e1 t1)
    (hG : ∀ (f c' : Addr) (s : Shared) (H : Hp) (ws : List (Option V)) (v1 : V) (Q : VK), LamK X s H f c' q params body scope (cloFrom X.env.cells scope.names []) fr ws → Room k (X.A.deeper (envOfC x sg s.heap.objs.size g cdv)) → PW f c' ws v1 H Q →
      ∃ t, PSs (cxOf C8.CX0 X.prog X.w X.K X.mg X.base Ng x sg g cdv X.A X.stack s H C8.E0).nox bg t ∧ t { nx := fun _ H' => Q .non H', rt := Q } (L2.start Ng [v1, .ref f]) H)
    (hdb : (x == ("__debug__" : Str)) = false) (hs : starEach (e1 :: [.Lambda params body scope lpos]) X.env = (false, eval e1 X.env) :: starEach [.Lambda params body scope lpos] X.env)
    (hpl : (backTo pos (starEach [.Lambda params body scope lpos] X.env)).any (·.1) = false) :
    PE X (.Call (.Name x p) [e1, .Lambda params body scope lpos] [] pos) (fun σ H Q => t1 σ H fun v1 H1 => TabS H1 P q ∧ ∀ (f c' : Addr) (H2 : Hp), NewC H1 H2 P c' q → TabS H2 P q → PW f c' (js.map (slotAt σ)) v1 H2 Q) := by
  refine ⟨fun pins s σ H Q I h => ?_⟩
  refine wpAny_Call_Name_kw (ld_glob I hg hm ?_ hdb)
  refine PySem.W.callWith_K (h₀ := X.base) I.ok.mod.kin hk ?_ hs hpl
  show wpAny _ _ (spliced (backTo pos (starEach (e1 :: [.Lambda params body scope lpos]) X.env))) _ _ s
  rw [hs]
  show wpAny _ _ (spliced ((false, eval e1 X.env) :: backTo pos (starEach [.Lambda params body scope lpos] X.env))) _ _ s
  refine Calls.spliced_cons (thn (ha.run pins s σ H _ I h) fun u1 s1 ⟨v1, H1, I1, r1, T1, k1⟩ => ?_)
  refine Calls.spliced_cons (lam_new I1 B code eq T1 df (free I1.ok) fun f c' pm' ctv H2 s2 I2 new T2 ob un nf => ?_)
  refine Calls.spliced_nil ⟨I2.kIn, ?_⟩
  show wpAny _ _ (call (.ref g) [u1, .ref f]) _ _ _
  have run : codeAny (model X.prog X.w) X.A (.call (.ref g) ⟨[u1, .ref f], []⟩) (CR C8.CX0 X.stack X.prog X.w H2 s2 Q C8.E0) s2 := by
    refine run_ofS (N := Ng) (ps := [n0, a]) (us := [u1, .ref f]) (vs := [v1, .ref f]) lk hcg Sg hr I2.env0 (hb s2 [u1, .ref f] I2.kIn rfl) (.cons r1 (.cons rfl .nil)) rfl fun hr' => ?_
    obtain ⟨t, ht, hq⟩ := hG f c' s2 H2 (js.map (slotAt σ)) v1 Q ⟨⟨pm', ctv, ob⟩, un, nf, cells_of I2 (cp I2.ok)⟩ hr' (k1 f c' H2 new T2)
    exact ⟨t, ht.nox, hq⟩
  refine wpAny_call (codeAny_mono run fun r s3 hq => ?_)
  cases r with
  | error e => exact (show False from hq).elim
  | ok fl =>
    cases fl with
    | ret u => exact I2.after hq
    | next => exact False.elim hq
    | brk => exact False.elim hq
    | cont => exact False.elim hq
end
end Pv
set_option Elab.async false
set_option linter.all false
set_option maxRecDepth 100000
set_option maxHeartbeats 4000000
set_option autoImplicit false
namespace Pv
variable [TabT]
open PySem PySem.Spec PyProof.Rows L2
/-! ### what the defs do with values (printed by gen.py) -/
noncomputable def F_common : Env → Option Res :=
  (sseq (swhile (tb (f2 neD (nb 1) (kc (.int 0))))
  (spar 0 1 (nm 1) (f2 modD (nb 0) (nb 1))))
  (sret (f1 absD (nb 0))))
noncomputable def c_common : List D → Option D := callD ["a", "b"] 2 F_common
theorem st_common (x0 x1 : D) : c_common [x0, x1] = endD (F_common [.sh x0, .sh x1]) := callD_eq rfl
noncomputable def F_is_more : Env → Option Res :=
  (sret (f2 gtD (f2 mulD (f2 ixD (nb 0) (kc (.int 0))) (f2 ixD (nb 1) (kc (.int 1)))) (f2 mulD (f2 ixD (nb 1) (kc (.int 0))) (f2 ixD (nb 0) (kc (.int 1))))))
noncomputable def c_is_more : List D → Option D := callD ["one", "other"] 2 F_is_more
theorem st_is_more (x0 x1 : D) : c_is_more [x0, x1] = endD (F_is_more [.sh x0, .sh x1]) := callD_eq rfl
noncomputable def F_Net_width : Env → Option Res :=
  (sseq (sif (tb (f2 ltD (f2 addD (nb 1) (kc (.int 1))) (f1 lenD (f1 turnsD (nb 0)))))
  (sret (f2 subD (f2 ixD (f1 turnsD (nb 0)) (f2 addD (nb 1) (kc (.int 1)))) (f2 ixD (f1 turnsD (nb 0)) (nb 1))))
  snx)
  (sret (f2 subD (kc (.int 24)) (f2 ixD (f1 turnsD (nb 0)) (nb 1)))))
noncomputable def c_Net_width : List D → Option D := callD ["self", "n"] 2 F_Net_width
theorem st_Net_width (x0 x1 : D) : c_Net_width [x0, x1] = endD (F_Net_width [.sh x0, .sh x1]) := callD_eq rfl
noncomputable def F_Net_beside : Env → Option Res :=
  (sseq (sbind (.tup [2, 3]) (nm 1))
  (sseq (sset 4 (f1 lenD (f1 turnsD (nb 0))))
  (sseq (sown 5 (fN lstD fnil))
  (sseq (sif (tb (f2 gtD (nb 2) (kc (.int 0))))
  (sapp 5 (fN tupD (fcons (f2 subD (nb 2) (kc (.int 1))) (fcons (nm 3) fnil))))
  snx)
  (sseq (sif (tb (f2 ltD (f2 addD (nb 2) (kc (.int 1))) (f1 lenD (f1 farsD (nb 0)))))
  (sapp 5 (fN tupD (fcons (f2 addD (nb 2) (kc (.int 1))) (fcons (nm 3) fnil))))
  snx)
  (sseq (sif (tb (f2 gtD (nb 4) (kc (.int 1))))
  (sext 5 (fN lstD (fcons (fN tupD (fcons (nm 2) (fcons (f2 modD (f2 addD (nb 3) (kc (.int 1))) (nb 4)) fnil))) (fcons (fN tupD (fcons (nm 2) (fcons (f2 modD (f2 subD (nb 3) (kc (.int 1))) (nb 4)) fnil))) fnil))))
  snx)
  (sfrz 5 (sret (nm 5)))))))))
noncomputable def c_Net_beside : List D → Option D := callD ["self", "cell", "k", "n", "many", "found"] 2 F_Net_beside
theorem st_Net_beside (x0 x1 : D) : c_Net_beside [x0, x1] = endD (F_Net_beside [.sh x0, .sh x1, .no, .no, .no, .no]) := callD_eq rfl
noncomputable def F_Net_bounded : Env → Option Res :=
  (sret (lcF [1] (iseq (f1 insideD (nb 0))) (.one 1) (tb (f2 ltD (f2 addD (f2 ixD (nb 1) (kc (.int 0))) (kc (.int 1))) (f1 lenD (f1 farsD (nb 0))))) (nm 1)))
noncomputable def c_Net_bounded : List D → Option D := callD ["self", "cell"] 1 F_Net_bounded
theorem st_Net_bounded (x0 : D) : c_Net_bounded [x0] = endD (F_Net_bounded [.sh x0, .no]) := callD_eq rfl
noncomputable def F_half : Env → Option Res :=
  (sseq (sif (tb (f2 eqD (f2 modD (nb 0) (kc (.int 2))) (kc (.int 0))))
  (sret (fN tupD (fcons (f2 fdivD (nb 0) (kc (.int 2))) (fcons (kc (.int 1)) fnil))))
  snx)
  (sret (fN tupD (fcons (nm 0) (fcons (kc (.int 2)) fnil)))))
noncomputable def c_half : List D → Option D := callD ["number"] 1 F_half
theorem st_half (x0 : D) : c_half [x0] = endD (F_half [.sh x0]) := callD_eq rfl
noncomputable def F_turned : Env → Option Res :=
  (sret (f1 tupleD (lcF [2, 3, 4, 5] (iseq (nm 0)) (.tup [2, 3, 4, 5]) tyes (fN tupD (fcons (nm 2) (fcons (nm 3) (fcons (f2 modD (f2 addD (nb 4) (nb 1)) (kc (.int 24))) (fcons (nm 5) fnil))))))))
noncomputable def c_turned : List D → Option D := callD ["sheet", "by", "inner", "outer", "begin", "wide"] 2 F_turned
theorem st_turned (x0 x1 : D) : c_turned [x0, x1] = endD (F_turned [.sh x0, .sh x1, .no, .no, .no, .no]) := callD_eq rfl
noncomputable def F_mirrored : Env → Option Res :=
  (sret (f1 tupleD (lcF [1, 2, 3, 4] (iseq (nm 0)) (.tup [1, 2, 3, 4]) tyes (fN tupD (fcons (nm 1) (fcons (nm 2) (fcons (f2 modD (f2 subD (f1 negD (nb 3)) (nb 4)) (kc (.int 24))) (fcons (nm 4) fnil))))))))
noncomputable def c_mirrored : List D → Option D := callD ["sheet", "inner", "outer", "begin", "wide"] 1 F_mirrored
theorem st_mirrored (x0 : D) : c_mirrored [x0] = endD (F_mirrored [.sh x0, .no, .no, .no, .no]) := callD_eq rfl
noncomputable def F_grown : Env → Option Res :=
  (sret (f1 tupleD (lcF [2, 3, 4, 5] (iseq (nm 0)) (.tup [2, 3, 4, 5]) tyes (fN tupD (fcons (f2 mulD (nb 1) (nb 2)) (fcons (f2 mulD (nb 1) (nb 3)) (fcons (nm 4) (fcons (nm 5) fnil))))))))
noncomputable def c_grown : List D → Option D := callD ["sheet", "times", "inner", "outer", "begin", "wide"] 2 F_grown
theorem st_grown (x0 x1 : D) : c_grown [x0, x1] = endD (F_grown [.sh x0, .sh x1, .no, .no, .no, .no]) := callD_eq rfl
noncomputable def F_is_outermost : Env → Option Res :=
  (sret (f1 anyD (lcF [2] (iseq (nm 1)) (.one 2) tyes (f2 eqD (f2 addD (f2 ixD (nb 2) (kc (.int 0))) (kc (.int 1))) (f1 lenD (f1 farsD (nb 0)))))))
noncomputable def c_is_outermost : List D → Option D := callD ["net", "group", "cell"] 2 F_is_outermost
theorem st_is_outermost (x0 x1 : D) : c_is_outermost [x0, x1] = endD (F_is_outermost [.sh x0, .sh x1, .no]) := callD_eq rfl
noncomputable def F_covered : Env → Option Res :=
  (sseq (sown 1 (kc (.dct [])))
  (sseq (sfor (iitems (f1 insideD (nb 0))) (.tup [2, 3])
  (sput 1 (nm 2) (f2 gtD (f1 lenD (nb 3)) (kc (.int 0)))))
  (sfrz 1 (sret (nm 1)))))
noncomputable def c_covered : List D → Option D := callD ["net", "found", "cell", "inside"] 1 F_covered
theorem st_covered (x0 : D) : c_covered [x0] = endD (F_covered [.sh x0, .no, .no, .no]) := callD_eq rfl
noncomputable def F__law_cell : Env → Option Res :=
  (sseq (sif (tb (f2 ltD (nb 1) (f1 lenD (nb 0))))
  (sret (f2 ixD (nb 0) (nb 1)))
  snx)
  (sret (kc (.int 0))))
noncomputable def c__law_cell : List D → Option D := callD ["_law_script", "_law_k"] 2 F__law_cell
theorem st__law_cell (x0 x1 : D) : c__law_cell [x0, x1] = endD (F__law_cell [.sh x0, .sh x1]) := callD_eq rfl
noncomputable def F__law_mix : Env → Option Res :=
  (sret (f2 modD (f2 modD (f2 mulD (nb 0) (kc (.int 48271))) (nb 1)) (nb 2)))
noncomputable def c__law_mix : List D → Option D := callD ["_law_cell_here", "_law_prime", "_law_many"] 3 F__law_mix
theorem st__law_mix (x0 x1 x2 : D) : c__law_mix [x0, x1, x2] = endD (F__law_mix [.sh x0, .sh x1, .sh x2]) := callD_eq rfl
noncomputable def F__law_has : Env → Option Res :=
  (sseq (sbind (.tup [3, 4, 5, 6]) (nm 0))
  (sseq (sif (tor (tb (f2 ltD (f2 ixD (nb 1) (kc (.int 0))) (f2 mulD (nb 3) (f2 ixD (nb 1) (kc (.int 1)))))) (tb (f2 geD (f2 ixD (nb 1) (kc (.int 0))) (f2 mulD (nb 4) (f2 ixD (nb 1) (kc (.int 1)))))))
  (sret (kc (.bl false)))
  snx)
  (sret (f2 ltD (f2 modD (f2 subD (f2 ixD (nb 2) (kc (.int 0))) (f2 mulD (nb 5) (f2 ixD (nb 2) (kc (.int 1))))) (f2 mulD (kc (.int 24)) (f2 ixD (nb 2) (kc (.int 1))))) (f2 mulD (nb 6) (f2 ixD (nb 2) (kc (.int 1))))))))
noncomputable def c__law_has : List D → Option D := callD ["_law_piece_here", "_law_far", "_law_turn", "_law_inner", "_law_outer", "_law_begin", "_law_wide"] 3 F__law_has
theorem st__law_has (x0 x1 x2 : D) : c__law_has [x0, x1, x2] = endD (F__law_has [.sh x0, .sh x1, .sh x2, .no, .no, .no, .no]) := callD_eq rfl
noncomputable def F_fraction : Env → Option Res :=
  (sseq (sif (tb (f2 ltD (nb 1) (kc (.int 0))))
  (sseq (sset 0 (f1 negD (nb 0)))
  (sset 1 (f1 negD (nb 1))))
  snx)
  (sseq (sset 2 (fN c_common (fcons (nm 0) (fcons (nm 1) fnil))))
  (sret (fN tupD (fcons (f2 fdivD (nb 0) (nb 2)) (fcons (f2 fdivD (nb 1) (nb 2)) fnil))))))
noncomputable def c_fraction : List D → Option D := callD ["upper", "lower", "by"] 2 F_fraction
theorem st_fraction (x0 x1 : D) : c_fraction [x0, x1] = endD (F_fraction [.sh x0, .sh x1, .no]) := callD_eq rfl
noncomputable def F_Net_point_in : Env → Option Res :=
  (sseq (sbind (.tup [2, 3]) (nm 1))
  (sseq (sset 4 (fN tupD (fcons (f2 addD (f2 ixD (f1 farsD (nb 0)) (nb 2)) (kc (.int 1))) (fcons (kc (.int 1)) fnil))))
  (sseq (sif (tb (f2 ltD (f2 addD (nb 2) (kc (.int 1))) (f1 lenD (f1 farsD (nb 0)))))
  (sset 4 (fN c_half (fcons (f2 addD (f2 ixD (f1 farsD (nb 0)) (nb 2)) (f2 ixD (f1 farsD (nb 0)) (f2 addD (nb 2) (kc (.int 1))))) fnil)))
  snx)
  (sret (fN tupD (fcons (nm 4) (fcons (fN c_half (fcons (f2 addD (f2 mulD (kc (.int 2)) (f2 ixD (f1 turnsD (nb 0)) (nb 3))) (fM c_Net_width (nb 0) (fcons (nm 3) fnil))) fnil)) fnil)))))))
noncomputable def c_Net_point_in : List D → Option D := callD ["self", "cell", "k", "n", "far"] 2 F_Net_point_in
theorem st_Net_point_in (x0 x1 : D) : c_Net_point_in [x0, x1] = endD (F_Net_point_in [.sh x0, .sh x1, .no, .no, .no]) := callD_eq rfl
noncomputable def F_Net_area : Env → Option Res :=
  (sseq (sbind (.tup [2, 3]) (nm 1))
  (sseq (sif (tb (f2 eqD (f2 addD (nb 2) (kc (.int 1))) (f1 lenD (f1 farsD (nb 0)))))
  (sret (kc .non))
  snx)
  (sret (f2 mulD (f2 subD (f2 mulD (f2 ixD (f1 farsD (nb 0)) (f2 addD (nb 2) (kc (.int 1)))) (f2 ixD (f1 farsD (nb 0)) (f2 addD (nb 2) (kc (.int 1))))) (f2 mulD (f2 ixD (f1 farsD (nb 0)) (nb 2)) (f2 ixD (f1 farsD (nb 0)) (nb 2)))) (fM c_Net_width (nb 0) (fcons (nm 3) fnil))))))
noncomputable def c_Net_area : List D → Option D := callD ["self", "cell", "k", "n"] 2 F_Net_area
theorem st_Net_area (x0 x1 : D) : c_Net_area [x0, x1] = endD (F_Net_area [.sh x0, .sh x1, .no, .no]) := callD_eq rfl
noncomputable def F_hanging : Env → Option Res :=
  (sseq (sown 2 (fN lstD fnil))
  (sseq (sown 3 (kc (.dct [])))
  (sseq (sfor (iseq (f1 sortedD (f1 insideD (nb 0)))) (.one 4)
  (sif (tb (f2 ninD (nb 4) (nb 3)))
  (sseq (sown 5 (fN lstD (fcons (nm 4) fnil)))
  (sseq (sput 3 (nm 4) (kc (.bl true)))
  (sseq (sset 6 (kc (.int 0)))
  (sseq (swhile (tb (f2 ltD (nb 6) (f1 lenD (nb 5))))
  (sseq (sfor (iseq (fM c_Net_beside (nb 0) (fcons (f2 ixD (nb 5) (nb 6)) fnil))) (.one 7)
  (sif (tand (tb (f2 ninD (nb 7) (nb 3))) (tb (f2 eqD (f2 ixD (nb 1) (nb 7)) (f2 ixD (nb 1) (nb 4)))))
  (sseq (sput 3 (nm 7) (kc (.bl true)))
  (sapp 5 (nm 7)))
  snx))
  (sset 6 (f2 addD (nb 6) (kc (.int 1))))))
  (sfrz 5 (sapp 2 (nm 5)))))))
  snx))
  (sfrz 2 (sret (nm 2))))))
noncomputable def c_hanging : List D → Option D := callD ["net", "marks", "found", "seen", "cell", "group", "at", "other"] 2 F_hanging
theorem st_hanging (x0 x1 : D) : c_hanging [x0, x1] = endD (F_hanging [.sh x0, .sh x1, .no, .no, .no, .no, .no, .no]) := callD_eq rfl
noncomputable def F__law_piece : Env → Option Res :=
  (sseq (sset 2 (fN c__law_mix (fcons (nm 0) (fcons (kc (.int 9973)) (fcons (nm 1) fnil)))))
  (sseq (sset 3 (f2 addD (f2 addD (nb 2) (kc (.int 1))) (fN c__law_mix (fcons (nm 0) (fcons (kc (.int 9967)) (fcons (f2 subD (nb 1) (nb 2)) fnil))))))
  (sseq (sset 4 (f2 addD (kc (.int 1)) (fN c__law_mix (fcons (nm 0) (fcons (kc (.int 9949)) (fcons (kc (.int 24)) fnil))))))
  (sseq (sif (tb (f2 eqD (f2 modD (nb 0) (kc (.int 4))) (kc (.int 0))))
  (sset 4 (kc (.int 24)))
  snx)
  (sret (fN tupD (fcons (nm 2) (fcons (nm 3) (fcons (fN c__law_mix (fcons (nm 0) (fcons (kc (.int 9941)) (fcons (kc (.int 24)) fnil)))) (fcons (nm 4) fnil))))))))))
noncomputable def c__law_piece : List D → Option D := callD ["_law_cell_here", "_law_most", "_law_inner", "_law_outer", "_law_wide"] 2 F__law_piece
theorem st__law_piece (x0 x1 : D) : c__law_piece [x0, x1] = endD (F__law_piece [.sh x0, .sh x1, .no, .no, .no]) := callD_eq rfl
noncomputable def F__law_layers : Env → Option Res :=
  (sret (f1 tupleD (lcF [2, 3] (ienum (nm 0)) (.tup [2, 3]) (tv (fN c__law_has (fcons (nm 3) (fcons (f2 ixD (nb 1) (kc (.int 0))) (fcons (f2 ixD (nb 1) (kc (.int 1))) fnil))))) (nm 2))))
noncomputable def c__law_layers : List D → Option D := callD ["_law_sheet_here", "_law_point", "_law_k", "_law_piece_here"] 2 F__law_layers
theorem st__law_layers (x0 x1 : D) : c__law_layers [x0, x1] = endD (F__law_layers [.sh x0, .sh x1, .no, .no]) := callD_eq rfl
noncomputable def F_less : Env → Option Res :=
  (sret (fN c_fraction (fcons (f2 subD (f2 mulD (f2 ixD (nb 0) (kc (.int 0))) (f2 ixD (nb 1) (kc (.int 1)))) (f2 mulD (f2 ixD (nb 1) (kc (.int 0))) (f2 ixD (nb 0) (kc (.int 1))))) (fcons (f2 mulD (f2 ixD (nb 0) (kc (.int 1))) (f2 ixD (nb 1) (kc (.int 1)))) fnil))))
noncomputable def c_less : List D → Option D := callD ["one", "other"] 2 F_less
theorem st_less (x0 x1 : D) : c_less [x0, x1] = endD (F_less [.sh x0, .sh x1]) := callD_eq rfl
noncomputable def F_on_round : Env → Option Res :=
  (sret (fN c_fraction (fcons (f2 modD (f2 ixD (nb 0) (kc (.int 0))) (f2 mulD (kc (.int 24)) (f2 ixD (nb 0) (kc (.int 1))))) (fcons (f2 ixD (nb 0) (kc (.int 1))) fnil))))
noncomputable def c_on_round : List D → Option D := callD ["one"] 1 F_on_round
theorem st_on_round (x0 : D) : c_on_round [x0] = endD (F_on_round [.sh x0]) := callD_eq rfl
noncomputable def F_face_groups : Env → Option Res :=
  (sret (fN c_hanging (fcons (nm 0) (fcons (f1 insideD (nb 0)) fnil))))
noncomputable def c_face_groups : List D → Option D := callD ["net"] 1 F_face_groups
theorem st_face_groups (x0 : D) : c_face_groups [x0] = endD (F_face_groups [.sh x0]) := callD_eq rfl
noncomputable def F__law_sheet : Env → Option Res :=
  (sret (f1 tupleD (lcF [3] (irange1 (fN c__law_mix (fcons (nm 0) (fcons (kc (.int 9931)) (fcons (f2 addD (nb 2) (kc (.int 1))) fnil))))) (.one 3) tyes (fN c__law_piece (fcons (f2 addD (nb 0) (f2 mulD (kc (.int 11)) (nb 3))) (fcons (nm 1) fnil))))))
noncomputable def c__law_sheet : List D → Option D := callD ["_law_cell_here", "_law_most", "_law_many", "_law_k"] 3 F__law_sheet
theorem st__law_sheet (x0 x1 x2 : D) : c__law_sheet [x0, x1, x2] = endD (F__law_sheet [.sh x0, .sh x1, .sh x2, .no]) := callD_eq rfl
noncomputable def F__law_cells : Env → Option Res :=
  (sseq (sown 2 (kc (.dct [])))
  (sseq (sfor (irange1 (f2 addD (nb 1) (kc (.int 1)))) (.one 3)
  (sfor (irange1 (kc (.int 24))) (.one 4)
  (sput 2 (fN tupD (fcons (nm 3) (fcons (nm 4) fnil))) (fN c__law_layers (fcons (nm 0) (fcons (fN tupD (fcons (fN tupD (fcons (f2 addD (f2 mulD (kc (.int 2)) (nb 3)) (kc (.int 1))) (fcons (kc (.int 2)) fnil))) (fcons (fN tupD (fcons (f2 addD (f2 mulD (kc (.int 2)) (nb 4)) (kc (.int 1))) (fcons (kc (.int 2)) fnil))) fnil))) fnil))))))
  (sfrz 2 (sret (nm 2)))))
noncomputable def c__law_cells : List D → Option D := callD ["_law_sheet_here", "_law_most", "_law_found", "_law_ring", "_law_turn"] 2 F__law_cells
theorem st__law_cells (x0 x1 : D) : c__law_cells [x0, x1] = endD (F__law_cells [.sh x0, .sh x1, .no, .no, .no]) := callD_eq rfl
noncomputable def F_has : Env → Option Res :=
  (sseq (sbind (.tup [2, 3, 4, 5]) (nm 0))
  (sseq (sbind (.tup [6, 7]) (nm 1))
  (sseq (sif (tor (tv (fN c_is_more (fcons (fN tupD (fcons (nm 2) (fcons (kc (.int 1)) fnil))) (fcons (nm 6) fnil)))) (tnot (tv (fN c_is_more (fcons (fN tupD (fcons (nm 3) (fcons (kc (.int 1)) fnil))) (fcons (nm 6) fnil))))))
  (sret (kc (.bl false)))
  snx)
  (sret (fN c_is_more (fcons (fN tupD (fcons (nm 5) (fcons (kc (.int 1)) fnil))) (fcons (fN c_on_round (fcons (fN c_less (fcons (nm 7) (fcons (fN tupD (fcons (nm 4) (fcons (kc (.int 1)) fnil))) fnil))) fnil)) fnil)))))))
noncomputable def c_has : List D → Option D := callD ["piece", "point", "inner", "outer", "begin", "wide", "far", "turn"] 2 F_has
theorem st_has (x0 x1 : D) : c_has [x0, x1] = endD (F_has [.sh x0, .sh x1, .no, .no, .no, .no, .no, .no]) := callD_eq rfl
noncomputable def F__law_covers : Env → Option Res :=
  (sseq (sset 3 (fN c__law_cells (fcons (nm 0) (fcons (nm 2) fnil))))
  (sseq (sfor (iseq (nm 3)) (.one 4)
  (sif (tb (f2 neD (f1 lenD (f2 ixD (nb 3) (nb 4))) (f1 intD (f2 inD (nb 4) (nb 1)))))
  (sret (kc (.bl false)))
  snx))
  (sret (kc (.bl true)))))
noncomputable def c__law_covers : List D → Option D := callD ["_law_sheet_here", "_law_wish", "_law_most", "_law_cells_here", "_law_place"] 3 F__law_covers
theorem st__law_covers (x0 x1 x2 : D) : c__law_covers [x0, x1, x2] = endD (F__law_covers [.sh x0, .sh x1, .sh x2, .no, .no]) := callD_eq rfl
noncomputable def F_layers : Env → Option Res :=
  (sret (f1 tupleD (lcF [2, 3] (ienum (nm 0)) (.tup [2, 3]) (tv (fN c_has (fcons (nm 3) (fcons (nm 1) fnil)))) (nm 2))))
noncomputable def c_layers : List D → Option D := callD ["sheet", "point", "number", "piece"] 2 F_layers
theorem st_layers (x0 x1 : D) : c_layers [x0, x1] = endD (F_layers [.sh x0, .sh x1, .no, .no]) := callD_eq rfl
noncomputable def n_F1 : Env → Option Res :=
  (sown 2 (fN lstD (fcons (kc (.int 0)) fnil)))
noncomputable def n_F2 : Env → Option Res :=
  (sown 3 (fN lstD fnil))
noncomputable def n_F3 : Env → Option Res :=
  (sfor (iseq (nm 1)) (.tup [4, 5, 6, 7])
  (sseq (sext 2 (fN lstD (fcons (nm 4) (fcons (nm 5) fnil))))
  (sext 3 (fN lstD (fcons (nm 6) (fcons (f2 modD (f2 addD (nb 6) (nb 7)) (kc (.int 24))) fnil))))))
noncomputable def n_Ef : Env → Option D :=
  (f1 ssD (nb 2))
noncomputable def n_Et : Env → Option D :=
  (f1 ssD (f2 addD (nb 3) (fN lstD (fcons (kc (.int 0)) fnil))))
noncomputable def n_Ik : Env → Option (List D) :=
  (irange1 (f1 lenD (f1 farsD (nb 0))))
noncomputable def n_In : Env → Option (List D) :=
  (irange1 (f1 lenD (f1 turnsD (nb 0))))
noncomputable def n_Kf : Env → Option D :=
  (fN tupD (fcons (nm 8) (fcons (nm 9) fnil)))
noncomputable def n_Vf : Env → Option D :=
  (fN c_layers (fcons (nm 1) (fcons (fM c_Net_point_in (nb 0) (fcons (fN tupD (fcons (nm 8) (fcons (nm 9) fnil))) fnil)) fnil)))
noncomputable def c_Net : D → Option D := anyX (netF n_F1 n_F2 n_F3 n_Ef n_Et n_Ik (.one 8) n_In (.one 9) n_Kf n_Vf)
noncomputable def F_depth_areas : Env → Option Res :=
  (sseq (sset 1 (f1 c_Net (nm 0)))
  (sseq (sown 2 (lcF [5] (iseq (nm 0)) (.one 5) tyes (kc (.int 0))))
  (sseq (sfor (iseq (fM c_Net_bounded (nb 1) fnil)) (.one 3)
  (sseq (sset 4 (f1 lenD (f2 ixD (f1 insideD (nb 1)) (nb 3))))
  (sif (tb (f2 gtD (nb 4) (kc (.int 0))))
  (sput 2 (f2 subD (nb 4) (kc (.int 1))) (f2 addD (f2 ixD (nb 2) (f2 subD (nb 4) (kc (.int 1)))) (fM c_Net_area (nb 1) (fcons (nm 3) fnil))))
  snx)))
  (sret (f1 tupleD (nb 2))))))
noncomputable def c_depth_areas : List D → Option D := callD ["sheet", "net", "found", "cell", "many", "piece"] 1 F_depth_areas
theorem st_depth_areas (x0 : D) : c_depth_areas [x0] = endD (F_depth_areas [.sh x0, .no, .no, .no, .no, .no]) := callD_eq rfl
noncomputable def F_unlike : Env → Option Res :=
  (sseq (sset 2 (f1 c_Net (f2 addD (nb 0) (nb 1))))
  (sseq (sfor (iitems (f1 insideD (nb 2))) (.tup [3, 4])
  (sseq (sset 5 (lcF [6] (iseq (nm 4)) (.one 6) (tb (f2 ltD (nb 6) (f1 lenD (nb 0)))) (nm 6)))
  (sif (tb (f2 neD (f2 gtD (f1 lenD (nb 5)) (kc (.int 0))) (f2 gtD (f1 lenD (nb 4)) (f1 lenD (nb 5)))))
  (sret (fM c_Net_point_in (nb 2) (fcons (nm 3) fnil)))
  snx)))
  (sret (kc .non))))
noncomputable def c_unlike : List D → Option D := callD ["one", "other", "net", "cell", "inside", "mine", "number"] 2 F_unlike
theorem st_unlike (x0 x1 : D) : c_unlike [x0, x1] = endD (F_unlike [.sh x0, .sh x1, .no, .no, .no, .no, .no]) := callD_eq rfl
noncomputable def F_faces : Env → Option Res :=
  (sseq (sset 1 (f1 c_Net (nm 0)))
  (sseq (sown 2 (fN lstD fnil))
  (sseq (sfor (iseq (fN c_face_groups (fcons (nm 1) fnil))) (.one 3)
  (sif (tnot (tv (fN c_is_outermost (fcons (nm 1) (fcons (nm 3) fnil)))))
  (sapp 2 (fN tupD (fcons (f2 ixD (f1 insideD (nb 1)) (f2 ixD (nb 3) (kc (.int 0)))) (fcons (f1 sumD (lcF [4] (iseq (nm 3)) (.one 4) tyes (fM c_Net_area (nb 1) (fcons (nm 4) fnil)))) fnil))))
  snx))
  (sret (f1 tupleD (f1 sortedD (nb 2)))))))
noncomputable def c_faces : List D → Option D := callD ["sheet", "net", "found", "group", "cell"] 1 F_faces
theorem st_faces (x0 : D) : c_faces [x0] = endD (F_faces [.sh x0, .no, .no, .no, .no]) := callD_eq rfl
noncomputable def F_lands : Env → Option Res :=
  (sseq (sset 1 (f1 c_Net (nm 0)))
  (sseq (sset 2 (fN c_covered (fcons (nm 1) fnil)))
  (sret (f1 lenD (lcF [3] (iseq (fN c_hanging (fcons (nm 1) (fcons (nm 2) fnil)))) (.one 3) (tv (f2 ixD (nb 2) (f2 ixD (nb 3) (kc (.int 0))))) (nm 3))))))
noncomputable def c_lands : List D → Option D := callD ["sheet", "net", "marks", "group"] 1 F_lands
theorem st_lands (x0 : D) : c_lands [x0] = endD (F_lands [.sh x0, .no, .no, .no]) := callD_eq rfl
noncomputable def F_holes : Env → Option Res :=
  (sseq (sset 1 (f1 c_Net (nm 0)))
  (sseq (sset 2 (fN c_covered (fcons (nm 1) fnil)))
  (sret (f2 subD (f1 lenD (lcF [3] (iseq (fN c_hanging (fcons (nm 1) (fcons (nm 2) fnil)))) (.one 3) (tnot (tv (f2 ixD (nb 2) (f2 ixD (nb 3) (kc (.int 0)))))) (nm 3))) (kc (.int 1))))))
noncomputable def c_holes : List D → Option D := callD ["sheet", "net", "marks", "group"] 1 F_holes
theorem st_holes (x0 : D) : c_holes [x0] = endD (F_holes [.sh x0, .no, .no, .no]) := callD_eq rfl
noncomputable def F_border : Env → Option Res :=
  (sseq (sset 1 (f1 c_Net (nm 0)))
  (sseq (sset 2 (fN c_covered (fcons (nm 1) fnil)))
  (sseq (sset 3 (kc (.int 0)))
  (sseq (sset 4 (kc (.int 0)))
  (sseq (sfor (iseq (fM c_Net_bounded (nb 1) fnil)) (.tup [5, 6])
  (sseq (sif (tb (f2 neD (f2 ixD (nb 2) (fN tupD (fcons (nm 5) (fcons (nm 6) fnil)))) (f2 ixD (nb 2) (fN tupD (fcons (f2 addD (nb 5) (kc (.int 1))) (fcons (nm 6) fnil))))))
  (sset 3 (f2 addD (nb 3) (f2 mulD (f2 ixD (f1 farsD (nb 1)) (f2 addD (nb 5) (kc (.int 1)))) (fM c_Net_width (nb 1) (fcons (nm 6) fnil)))))
  snx)
  (sif (tb (f2 neD (f2 ixD (nb 2) (fN tupD (fcons (nm 5) (fcons (nm 6) fnil)))) (f2 ixD (nb 2) (fN tupD (fcons (nm 5) (fcons (f2 modD (f2 addD (nb 6) (kc (.int 1))) (f1 lenD (f1 turnsD (nb 1)))) fnil))))))
  (sset 4 (f2 subD (f2 addD (nb 4) (f2 ixD (f1 farsD (nb 1)) (f2 addD (nb 5) (kc (.int 1))))) (f2 ixD (f1 farsD (nb 1)) (nb 5))))
  snx)))
  (sret (fN tupD (fcons (nm 3) (fcons (nm 4) fnil)))))))))
noncomputable def c_border : List D → Option D := callD ["sheet", "net", "marks", "arcs", "lines", "k", "n"] 1 F_border
theorem st_border (x0 : D) : c_border [x0] = endD (F_border [.sh x0, .no, .no, .no, .no, .no, .no]) := callD_eq rfl
noncomputable def F_covered_area : Env → Option Res :=
  (sret (f1 sumD (fN c_depth_areas (fcons (nm 0) fnil))))
noncomputable def c_covered_area : List D → Option D := callD ["sheet"] 1 F_covered_area
theorem st_covered_area (x0 : D) : c_covered_area [x0] = endD (F_covered_area [.sh x0]) := callD_eq rfl
noncomputable def F_face_count : Env → Option Res :=
  (sret (f2 addD (f1 lenD (fN c_faces (fcons (nm 0) fnil))) (kc (.int 1))))
noncomputable def c_face_count : List D → Option D := callD ["sheet"] 1 F_face_count
theorem st_face_count (x0 : D) : c_face_count [x0] = endD (F_face_count [.sh x0]) := callD_eq rfl
noncomputable def F__law_turned_right : Env → Option Res :=
  (sseq (sset 3 (fN c_turned (fcons (nm 0) (fcons (nm 1) fnil))))
  (sseq (sset 4 (fN c_mirrored (fcons (nm 0) fnil)))
  (sseq (sset 5 (fN c_grown (fcons (nm 0) (fcons (nm 2) fnil))))
  (sseq (sif (tb (f2 neD (nb 3) (f1 tupleD (lcF [10, 11, 12, 13] (iseq (nm 0)) (.tup [10, 11, 12, 13]) tyes (fN tupD (fcons (nm 10) (fcons (nm 11) (fcons (f2 modD (f2 addD (nb 12) (nb 1)) (kc (.int 24))) (fcons (nm 13) fnil)))))))))
  (sret (kc (.bl false)))
  snx)
  (sseq (sif (tb (f2 neD (nb 4) (f1 tupleD (lcF [10, 11, 12, 13] (iseq (nm 0)) (.tup [10, 11, 12, 13]) tyes (fN tupD (fcons (nm 10) (fcons (nm 11) (fcons (f2 modD (f2 subD (f2 subD (kc (.int 48)) (nb 12)) (nb 13)) (kc (.int 24))) (fcons (nm 13) fnil)))))))))
  (sret (kc (.bl false)))
  snx)
  (sseq (sif (tb (f2 neD (nb 5) (f1 tupleD (lcF [10, 11, 12, 13] (iseq (nm 0)) (.tup [10, 11, 12, 13]) tyes (fN tupD (fcons (f2 mulD (nb 10) (nb 2)) (fcons (f2 mulD (nb 11) (nb 2)) (fcons (nm 12) (fcons (nm 13) fnil)))))))))
  (sret (kc (.bl false)))
  snx)
  (sseq (sbind (.tup [6, 7]) (fN c_border (fcons (nm 0) fnil)))
  (sseq (sfor (iseq (fN lstD (fcons (nm 3) (fcons (nm 4) (fcons (nm 5) fnil))))) (.one 8)
  (sseq (sset 9 (kc (.int 1)))
  (sseq (sif (tb (f2 eqD (nb 8) (nb 5)))
  (sset 9 (f2 mulD (nb 2) (nb 2)))
  snx)
  (sseq (sif (tb (f2 neD (fN c_depth_areas (fcons (nm 8) fnil)) (f1 tupleD (lcF [14] (iseq (fN c_depth_areas (fcons (nm 0) fnil))) (.one 14) tyes (f2 mulD (nb 14) (nb 9))))))
  (sret (kc (.bl false)))
  snx)
  (sseq (sif (tb (f2 neD (fN tupD (fcons (fN c_face_count (fcons (nm 8) fnil)) (fcons (fN c_lands (fcons (nm 8) fnil)) (fcons (fN c_holes (fcons (nm 8) fnil)) fnil)))) (fN tupD (fcons (fN c_face_count (fcons (nm 0) fnil)) (fcons (fN c_lands (fcons (nm 0) fnil)) (fcons (fN c_holes (fcons (nm 0) fnil)) fnil))))))
  (sret (kc (.bl false)))
  snx)
  (sif (tb (f2 neD (f1 sortedN (lcF [15, 16] (iseq (fN c_faces (fcons (nm 8) fnil))) (.tup [15, 16]) tyes (nm 16))) (f1 sortedN (lcF [15, 16] (iseq (fN c_faces (fcons (nm 0) fnil))) (.tup [15, 16]) tyes (f2 mulD (nb 16) (nb 9))))))
  (sret (kc (.bl false)))
  snx))))))
  (sseq (sif (tb (f2 neD (fN c_border (fcons (nm 5) fnil)) (fN tupD (fcons (f2 mulD (nb 6) (nb 2)) (fcons (f2 mulD (nb 7) (nb 2)) fnil)))))
  (sret (kc (.bl false)))
  snx)
  (sret (vand (f2 eqD (fN c_border (fcons (nm 3) fnil)) (fN tupD (fcons (nm 6) (fcons (nm 7) fnil)))) (f2 eqD (fN c_border (fcons (nm 4) fnil)) (fN tupD (fcons (nm 6) (fcons (nm 7) fnil)))))))))))))))
noncomputable def c__law_turned_right : List D → Option D := callD ["_law_sheet_here", "_law_by", "_law_times", "_law_other", "_law_glass", "_law_great", "_law_arcs", "_law_lines", "_law_some", "_law_by_area", "_law_a", "_law_b", "_law_begin", "_law_wide", "_law_one", "_law_inside", "_law_area_here"] 3 F__law_turned_right
theorem st__law_turned_right (x0 x1 x2 : D) : c__law_turned_right [x0, x1, x2] = endD (F__law_turned_right [.sh x0, .sh x1, .sh x2, .no, .no, .no, .no, .no, .no, .no, .no, .no, .no, .no, .no, .no, .no]) := callD_eq rfl
/-! ### the parts by hand -/
noncomputable def L_pw0 : Env → Option Res :=
  (sown 2 (fN lstD fnil))
noncomputable def L_pwI : Env → Option (List D) :=
  (iseq (f1 sortedC (fM c_Net_bounded (nb 0) fnil)))
noncomputable def L_pwA : Env → Option (List D) :=
  (fcons (f2 ixD (f1 insideD (nb 0)) (nb 3)) fnil)
noncomputable def L_pwB : Env → Option Res :=
  (sseq (sbind (.tup [4, 5]) (nm 3))
  (sapp 2 (fN tupD (fcons (f2 ixD (f1 farsD (nb 0)) (nb 4)) (fcons (f2 ixD (f1 farsD (nb 0)) (f2 addD (nb 4) (kc (.int 1)))) (fcons (f2 ixD (f1 turnsD (nb 0)) (nb 5)) (fcons (fM c_Net_width (nb 0) (fcons (nm 5) fnil)) fnil)))))))
noncomputable def L_pwR : Env → Option Res :=
  (sret (f1 tupleD (nb 2)))
noncomputable def L_plE : Env → Option D :=
  (f1 c_Net (nm 0))
noncomputable def L_bo0 : Env → Option Res :=
  (sset 2 (f1 lenD (nb 0)))
noncomputable def L_bo1 : Env → Option Res :=
  (sset 3 (f1 c_Net (f2 addD (nb 0) (nb 1))))
noncomputable def L_boE : Env → Option D :=
  (nm 3)
noncomputable def L_co0 : Env → Option Res :=
  (sset 2 (f1 lenD (nb 0)))
noncomputable def L_co1 : Env → Option Res :=
  (sset 3 (f1 c_Net (f2 addD (nb 0) (nb 1))))
noncomputable def L_coE : Env → Option D :=
  (nm 3)
noncomputable def L_lam_plain : Env → Option D :=
  (f2 gtD (f1 lenD (nb 0)) (kc (.int 0)))
noncomputable def L_lam_both_of : Env → Option D :=
  (vand (f2 gtD (f1 lenD (nb 0)) (kc (.int 0))) (fch ltD leD (f2 ixD (nb 0) (kc (.int 0))) (nb 1) (f2 ixD (nb 0) (f1 negD (kc (.int 1))))))
noncomputable def L_lam_cut_out : Env → Option D :=
  (vand (f2 gtD (f1 lenD (nb 0)) (kc (.int 0))) (f2 ltD (f2 ixD (nb 0) (f1 negD (kc (.int 1)))) (nb 1)))
/-- what does not lean on where the function value lies -/
noncomputable def anyF (F : Addr × Addr × Str → Option D) : Option D := @ite _ (∀ p, F p = F (0, 0, Str.empty)) (Classical.propDecidable _) (F (0, 0, Str.empty)) none
theorem anyF_e {F : Addr × Addr × Str → Option D} {n : D} (h : anyF F = some n) (p : Addr × Addr × Str) : F p = some n := by
  unfold anyF at h
  split at h
  · rename_i k; rw [k p]; exact h
  · cases h
theorem anyF_i {F : Addr × Addr × Str → Option D} {n : D} (h : ∀ p, F p = some n) : anyF F = some n := by
  unfold anyF
  rw [if_pos fun x => by rw [h, h]]; exact h _
def wishB (p : Addr × Addr × Str) (ρ : Env) : Bool := match ρ[1]? with
  | some (Sl.sh (D.fn a b q)) => decide (a = p.1) && (decide (b = p.2.1) && decide (q = p.2.2))
  | _ => false
def one1 (W : D → Option D) : List D → Option Bool
  | [x] => (W x).bind boolD
  | _ => none
noncomputable def tWish (W : D → Option D) (p : Addr × Addr × Str) : Env → Option Bool := fun ρ => if wishB p ρ = true then (L_pwA ρ).bind (one1 W) else none
noncomputable def F_pw (W : D → Option D) (p : Addr × Addr × Str) : Env → Option Res := sseq L_pw0 (sseq (sfor L_pwI (.one 3) (sif (tWish W p) L_pwB snx)) L_pwR)
abbrev N_pw : List Str := ["net", "is_wished", "found", "cell", "k", "n"]
noncomputable def c_pw (W : D → Option D) (n : D) : Option D := anyF fun p => endD (F_pw W p [.sh n, .sh (.fn p.1 p.2.1 p.2.2), .no, .no, .no, .no])
def intAt (i : Nat) (ρ : Env) : Option Int := match ρ[i]? with
  | some (Sl.sh (D.int m)) => some m
  | _ => none
noncomputable def F_plain : Env → Option Res := sret fun ρ => (L_plE ρ).bind fun n => c_pw (fun x => L_lam_plain [.sh x]) n
noncomputable def F_both_of : Env → Option Res := sseq L_bo0 (sseq L_bo1 (sret fun ρ => (L_boE ρ).bind fun n => (intAt 2 ρ).bind fun m => c_pw (fun x => L_lam_both_of [.sh x, .sh (.int m)]) n))
noncomputable def F_cut_out : Env → Option Res := sseq L_co0 (sseq L_co1 (sret fun ρ => (L_coE ρ).bind fun n => (intAt 2 ρ).bind fun m => c_pw (fun x => L_lam_cut_out [.sh x, .sh (.int m)]) n))
noncomputable def c_plain : List D → Option D := callD ["sheet"] 1 F_plain
noncomputable def c_both_of : List D → Option D := callD ["one", "other", "many", "net"] 2 F_both_of
noncomputable def c_cut_out : List D → Option D := callD ["one", "other", "many", "net"] 2 F_cut_out
theorem st_plain (x0 : D) : c_plain [x0] = endD (F_plain [.sh x0]) := callD_eq rfl
theorem st_both_of (x0 x1 : D) : c_both_of [x0, x1] = endD (F_both_of [.sh x0, .sh x1, .no, .no]) := callD_eq rfl
theorem st_cut_out (x0 x1 : D) : c_cut_out [x0, x1] = endD (F_cut_out [.sh x0, .sh x1, .no, .no]) := callD_eq rfl
noncomputable def F_law : Env → Option Res :=
  (sseq (sfor (irange1 (kc (.int 2))) (.one 1)
  (sseq (sset 2 (fN c__law_cell (fcons (nm 0) (fcons (f2 mulD (kc (.int 3)) (nb 1)) fnil))))
  (sseq (sset 3 (fN c__law_sheet (fcons (nm 2) (fcons (kc (.int 6)) (fcons (kc (.int 5)) fnil)))))
  (sseq (sset 4 (fN c__law_sheet (fcons (fN c__law_cell (fcons (nm 0) (fcons (f2 addD (f2 mulD (kc (.int 3)) (nb 1)) (kc (.int 1))) fnil))) (fcons (kc (.int 6)) (fcons (kc (.int 4)) fnil)))))
  (sseq (sset 5 (fN c__law_cell (fcons (nm 0) (fcons (f2 addD (f2 mulD (kc (.int 3)) (nb 1)) (kc (.int 2))) fnil))))
  (sseq (sif (tnot (tv (fN c__law_turned_right (fcons (nm 3) (fcons (f2 subD (fN c__law_mix (fcons (nm 5) (fcons (kc (.int 9883)) (fcons (kc (.int 49)) fnil)))) (kc (.int 24))) (fcons (f2 addD (kc (.int 1)) (fN c__law_mix (fcons (nm 5) (fcons (kc (.int 9871)) (fcons (kc (.int 9)) fnil))))) fnil))))))
  (sret (kc (.bl false)))
  snx)
  (sseq (sset 6 (fN c__law_cells (fcons (nm 3) (fcons (kc (.int 6)) fnil))))
  (sseq (sset 7 (fN c__law_cells (fcons (nm 4) (fcons (kc (.int 6)) fnil))))
  (sseq (sset 8 (lcF [11] (iseq (nm 6)) (.one 11) (tv (f2 ixD (nb 6) (nb 11))) (nm 11)))
  (sseq (sset 9 (lcF [11] (iseq (nm 8)) (.one 11) (tv (f2 ixD (nb 7) (nb 11))) (nm 11)))
  (sseq (sset 10 (lcF [11] (iseq (nm 8)) (.one 11) (tnot (tv (f2 ixD (nb 7) (nb 11)))) (nm 11)))
  (sseq (sif (tor (tnot (tv (fN c__law_covers (fcons (fN c_plain (fcons (nm 3) fnil)) (fcons (nm 8) (fcons (kc (.int 6)) fnil)))))) (tb (f2 isntD (fN c_unlike (fcons (fN c_plain (fcons (nm 3) fnil)) (fcons (nm 3) fnil))) (kc .non))))
  (sret (kc (.bl false)))
  snx)
  (sseq (sif (tor (tnot (tv (fN c__law_covers (fcons (fN c_both_of (fcons (nm 3) (fcons (nm 4) fnil))) (fcons (nm 9) (fcons (kc (.int 6)) fnil)))))) (tnot (tv (fN c__law_covers (fcons (fN c_cut_out (fcons (nm 3) (fcons (nm 4) fnil))) (fcons (nm 10) (fcons (kc (.int 6)) fnil)))))))
  (sret (kc (.bl false)))
  snx)
  (sseq (sif (tb (f2 isntD (fN c_unlike (fcons (f2 addD (fN c_both_of (fcons (nm 3) (fcons (nm 4) fnil))) (fN c_cut_out (fcons (nm 3) (fcons (nm 4) fnil)))) (fcons (nm 3) fnil))) (kc .non)))
  (sret (kc (.bl false)))
  snx)
  (sif (tb (f2 neD (f2 addD (fN c_covered_area (fcons (fN c_both_of (fcons (nm 3) (fcons (nm 4) fnil))) fnil)) (fN c_covered_area (fcons (fN c_cut_out (fcons (nm 3) (fcons (nm 4) fnil))) fnil))) (fN c_covered_area (fcons (nm 3) fnil))))
  (sret (kc (.bl false)))
  snx)))))))))))))))
  (sret (kc (.bl true))))
noncomputable def c_law : List D → Option D := callD ["_law_script", "_law_k", "_law_cell_here", "_law_one", "_law_other", "_law_more", "_law_mine", "_law_yours", "_law_every", "_law_both", "_law_rest", "_law_place"] 1 F_law
theorem st_law (x0 : D) : c_law [x0] = endD (F_law [.sh x0, .no, .no, .no, .no, .no, .no, .no, .no, .no, .no, .no]) := callD_eq rfl
end Pv
set_option Elab.async false
set_option linter.all false
set_option maxRecDepth 100000
set_option maxHeartbeats 4000000
set_option autoImplicit false
namespace Pv
variable [TabT]
open PySem PySem.Spec PyProof.Rows L2
/-! ### the text by places; the derivations (printed by gen.py) -/
def topS (i : Nat) : Stmt := PySem.Challenge.pw_ringlayers_k09_whole_sheets_changed.main.body.getD i (.Pass ⟨0, 0, 0, 0⟩)
structure Bl (Γ : Gam) : Prop where
  abs : Γ.mg "abs" = none
  any : Γ.mg "any" = none
  enumerate : Γ.mg "enumerate" = none
  int : Γ.mg "int" = none
  len : Γ.mg "len" = none
  range : Γ.mg "range" = none
  set : Γ.mg "set" = none
  sorted : Γ.mg "sorted" = none
  sum : Γ.mg "sum" = none
  tuple : Γ.mg "tuple" = none
abbrev s_common : Stmt := topS 2
theorem sc_common : FnScope ["a", "b"] ["a", "b"] (defScope s_common) := ⟨rfl, rfl, rfl, by decide +kernel, rfl, by decide +kernel, by decide +kernel⟩
theorem ok_common {Γ : Gam} (B : Bl Γ) {f : Addr} {fd : FuncData} (Fn : Fun Γ.K "common" "common" s_common f fd) (hm : Γ.mg "common" = some (.ref f)) : HasD (Γ.at 1) "common" c_common := by
  refine hasD (Γ := Γ) (k := 0) (F := F_common) (ps := ["a", "b"]) Fn hm (Fn.binds (ps := ["a", "b"]) fun _ _ _ _ _ _ us hl => match us, hl with | [_, _], _ => rfl) sc_common ?_
  delta F_common
  exact (ss_cons (s_while (t_c (d_ne (d_nb (i := 1) rfl rfl (by decide) (by decide)) d_int))
  (ss_one (s_par (i := 0) (j := 1) sc_common.nd rfl rfl (by decide) rfl rfl (d_nm (i := 1) rfl rfl (by decide) (by decide)) (d_mod (d_nb (i := 0) rfl rfl (by decide) (by decide)) (d_nb (i := 1) rfl rfl (by decide) (by decide))) (by intro env h; cases env; simp only at h; subst h; rfl))))
  (ss_one (s_ret (d_abs rfl B.abs (d_nb (i := 0) rfl rfl (by decide) (by decide))))))
abbrev s_is_more : Stmt := topS 5
theorem sc_is_more : FnScope ["one", "other"] ["one", "other"] (defScope s_is_more) := ⟨rfl, rfl, rfl, by decide +kernel, rfl, by decide +kernel, by decide +kernel⟩
theorem ok_is_more {Γ : Gam} (B : Bl Γ) {f : Addr} {fd : FuncData} (Fn : Fun Γ.K "is_more" "is_more" s_is_more f fd) (hm : Γ.mg "is_more" = some (.ref f)) : HasD (Γ.at 1) "is_more" c_is_more := by
  refine hasD (Γ := Γ) (k := 0) (F := F_is_more) (ps := ["one", "other"]) Fn hm (Fn.binds (ps := ["one", "other"]) fun _ _ _ _ _ _ us hl => match us, hl with | [_, _], _ => rfl) sc_is_more ?_
  delta F_is_more
  exact (ss_one (s_ret (DC.toE (d_gt (d_mul (d_ix (d_nb (i := 0) rfl rfl (by decide) (by decide)) d_int) (d_ix (d_nb (i := 1) rfl rfl (by decide) (by decide)) d_int)) (d_mul (d_ix (d_nb (i := 1) rfl rfl (by decide) (by decide)) d_int) (d_ix (d_nb (i := 0) rfl rfl (by decide) (by decide)) d_int))))))
abbrev s_Net_width : Stmt := inClass (topS 11) 2
theorem sc_Net_width : FnScope ["self", "n"] ["self", "n"] (defScope s_Net_width) := ⟨rfl, rfl, rfl, by decide +kernel, rfl, by decide +kernel, by decide +kernel⟩
theorem ok_Net_width {Γ : Gam} (B : Bl Γ) {f : Addr} {fd : FuncData} (Fn : Fun Γ.K "width" "Net.width" s_Net_width f fd) (hm : Meth Γ.K Γ.C "width" f) (C : NetC (Γ.at 0)) : HasM (Γ.at 1) "width" c_Net_width := by
  refine ⟨fun _ _ _ => rfl, 1, f, fd, ["self", "n"], Nat.le_refl _, hm, Fn.binds (ps := ["self", "n"]) (fun _ _ _ _ _ _ us hl => match us, hl with | [_, _], _ => rfl), fnD (Γ := Γ.at 0) Fn sc_Net_width (F := F_Net_width) ?_⟩
  delta F_Net_width
  exact (ss_cons (s_if (t_c (d_lt (d_add (d_nb (i := 1) rfl rfl (by decide) (by decide)) d_int) (d_len rfl B.len (d_turns C (d_nb (i := 0) rfl rfl (by decide) (by decide))))))
  (ss_one (s_ret (d_sub (d_ix (d_turns C (d_nb (i := 0) rfl rfl (by decide) (by decide))) (d_add (d_nb (i := 1) rfl rfl (by decide) (by decide)) d_int)) (d_ix (d_turns C (d_nb (i := 0) rfl rfl (by decide) (by decide))) (d_nb (i := 1) rfl rfl (by decide) (by decide))))))
  ss_nil)
  (ss_one (s_ret (d_sub d_int (d_ix (d_turns C (d_nb (i := 0) rfl rfl (by decide) (by decide))) (d_nb (i := 1) rfl rfl (by decide) (by decide)))))))
abbrev s_Net_beside : Stmt := inClass (topS 11) 4
theorem sc_Net_beside : FnScope ["self", "cell", "k", "n", "many", "found"] ["self", "cell"] (defScope s_Net_beside) := ⟨rfl, rfl, rfl, by decide +kernel, rfl, by decide +kernel, by decide +kernel⟩
theorem ok_Net_beside {Γ : Gam} (B : Bl Γ) {f : Addr} {fd : FuncData} (Fn : Fun Γ.K "beside" "Net.beside" s_Net_beside f fd) (hm : Meth Γ.K Γ.C "beside" f) (C : NetC (Γ.at 0)) : HasM (Γ.at 1) "beside" c_Net_beside := by
  refine ⟨fun _ _ _ => rfl, 1, f, fd, ["self", "cell"], Nat.le_refl _, hm, Fn.binds (ps := ["self", "cell"]) (fun _ _ _ _ _ _ us hl => match us, hl with | [_, _], _ => rfl), fnD (Γ := Γ.at 0) Fn sc_Net_beside (F := F_Net_beside) ?_⟩
  delta F_Net_beside
  exact (ss_cons (s_bind (d_nm (i := 1) rfl rfl (by decide) (by decide)) (g_tup (gs_cons (i := 2) sc_Net_beside.nd rfl rfl (gs_cons (i := 3) sc_Net_beside.nd rfl rfl gs_nil))))
  (ss_cons (s_set (i := 4) sc_Net_beside.nd rfl rfl (d_len rfl B.len (d_turns C (d_nb (i := 0) rfl rfl (by decide) (by decide)))))
  (ss_cons (s_own (i := 5) sc_Net_beside.nd rfl rfl (d_lst a_nil))
  (ss_cons (s_if (t_c (d_gt (d_nb (i := 2) rfl rfl (by decide) (by decide)) d_int))
  (ss_one (s_app (i := 5) rfl rfl (by decide) (by decide) (d_tup (a_cons (d_sub (d_nb (i := 2) rfl rfl (by decide) (by decide)) d_int) (a_cons (d_nm (i := 3) rfl rfl (by decide) (by decide)) a_nil)))))
  ss_nil)
  (ss_cons (s_if (t_c (d_lt (d_add (d_nb (i := 2) rfl rfl (by decide) (by decide)) d_int) (d_len rfl B.len (d_fars C (d_nb (i := 0) rfl rfl (by decide) (by decide))))))
  (ss_one (s_app (i := 5) rfl rfl (by decide) (by decide) (d_tup (a_cons (d_add (d_nb (i := 2) rfl rfl (by decide) (by decide)) d_int) (a_cons (d_nm (i := 3) rfl rfl (by decide) (by decide)) a_nil)))))
  ss_nil)
  (ss_cons (s_if (t_c (d_gt (d_nb (i := 4) rfl rfl (by decide) (by decide)) d_int))
  (ss_one (s_ext (i := 5) rfl rfl (by decide) (by decide) (DV.toE (d_lst (a_cons (d_tup (a_cons (d_nm (i := 2) rfl rfl (by decide) (by decide)) (a_cons (d_mod (d_add (d_nb (i := 3) rfl rfl (by decide) (by decide)) d_int) (d_nb (i := 4) rfl rfl (by decide) (by decide))) a_nil))) (a_cons (d_tup (a_cons (d_nm (i := 2) rfl rfl (by decide) (by decide)) (a_cons (d_mod (d_sub (d_nb (i := 3) rfl rfl (by decide) (by decide)) d_int) (d_nb (i := 4) rfl rfl (by decide) (by decide))) a_nil))) a_nil))))))
  ss_nil)
  (ss_frz 5 (ss_one (s_ret (d_nm (i := 5) rfl rfl (by decide) (by decide)))))))))))
abbrev s_Net_bounded : Stmt := inClass (topS 11) 6
theorem sc_Net_bounded : FnScope ["self", "cell"] ["self"] (defScope s_Net_bounded) := ⟨rfl, rfl, rfl, by decide +kernel, rfl, by decide +kernel, by decide +kernel⟩
theorem ok_Net_bounded {Γ : Gam} (B : Bl Γ) {f : Addr} {fd : FuncData} (Fn : Fun Γ.K "bounded" "Net.bounded" s_Net_bounded f fd) (hm : Meth Γ.K Γ.C "bounded" f) (C : NetC (Γ.at 0)) : HasM (Γ.at 1) "bounded" c_Net_bounded := by
  refine ⟨fun _ _ _ => rfl, 1, f, fd, ["self"], Nat.le_refl _, hm, Fn.binds (ps := ["self"]) (fun _ _ _ _ _ _ us hl => match us, hl with | [_], _ => rfl), fnD (Γ := Γ.at 0) Fn sc_Net_bounded (F := F_Net_bounded) ?_⟩
  delta F_Net_bounded
  exact (ss_one (s_ret (DV.toE (DL.f (d_lc (own := [("cell", 1)]) sc_Net_bounded.nd (by decide +kernel) (i_seq (d_inside C (d_nb (i := 0) rfl rfl (by decide) (by decide)))) (g_one (i := 1) sc_Net_bounded.nd rfl rfl) (by decide) (ts_one (t_c (d_lt (d_add (d_ix (d_nb (i := 1) rfl rfl (by decide) (by decide)) d_int) d_int) (d_len rfl B.len (d_fars C (d_nb (i := 0) rfl rfl (by decide) (by decide))))))) (d_nm (i := 1) rfl rfl (by decide) (by decide)))))))
abbrev s_half : Stmt := topS 12
theorem sc_half : FnScope ["number"] ["number"] (defScope s_half) := ⟨rfl, rfl, rfl, by decide +kernel, rfl, by decide +kernel, by decide +kernel⟩
theorem ok_half {Γ : Gam} (B : Bl Γ) {f : Addr} {fd : FuncData} (Fn : Fun Γ.K "half" "half" s_half f fd) (hm : Γ.mg "half" = some (.ref f)) : HasD (Γ.at 1) "half" c_half := by
  refine hasD (Γ := Γ) (k := 0) (F := F_half) (ps := ["number"]) Fn hm (Fn.binds (ps := ["number"]) fun _ _ _ _ _ _ us hl => match us, hl with | [_], _ => rfl) sc_half ?_
  delta F_half
  exact (ss_cons (s_if (t_c (d_eq (d_mod (d_nb (i := 0) rfl rfl (by decide) (by decide)) d_int) d_int))
  (ss_one (s_ret (d_tup (a_cons (d_fdiv (d_nb (i := 0) rfl rfl (by decide) (by decide)) d_int) (a_cons d_int a_nil)))))
  ss_nil)
  (ss_one (s_ret (d_tup (a_cons (d_nm (i := 0) rfl rfl (by decide) (by decide)) (a_cons d_int a_nil))))))
abbrev s_turned : Stmt := topS 15
theorem sc_turned : FnScope ["sheet", "by", "inner", "outer", "begin", "wide"] ["sheet", "by"] (defScope s_turned) := ⟨rfl, rfl, rfl, by decide +kernel, rfl, by decide +kernel, by decide +kernel⟩
theorem ok_turned {Γ : Gam} (B : Bl Γ) {f : Addr} {fd : FuncData} (Fn : Fun Γ.K "turned" "turned" s_turned f fd) (hm : Γ.mg "turned" = some (.ref f)) : HasD (Γ.at 1) "turned" c_turned := by
  refine hasD (Γ := Γ) (k := 0) (F := F_turned) (ps := ["sheet", "by"]) Fn hm (Fn.binds (ps := ["sheet", "by"]) fun _ _ _ _ _ _ us hl => match us, hl with | [_, _], _ => rfl) sc_turned ?_
  delta F_turned
  exact (ss_one (s_ret (d_tuple rfl B.tuple (DL.f (d_lc (own := [("inner", 2), ("outer", 3), ("begin", 4), ("wide", 5)]) sc_turned.nd (by decide +kernel) (i_seq (d_nm (i := 0) rfl rfl (by decide) (by decide))) (g_tup (gs_cons (i := 2) sc_turned.nd rfl rfl (gs_cons (i := 3) sc_turned.nd rfl rfl (gs_cons (i := 4) sc_turned.nd rfl rfl (gs_cons (i := 5) sc_turned.nd rfl rfl gs_nil))))) (by decide) ts_nil (d_tup (a_cons (d_nm (i := 2) rfl rfl (by decide) (by decide)) (a_cons (d_nm (i := 3) rfl rfl (by decide) (by decide)) (a_cons (d_mod (d_add (d_nb (i := 4) rfl rfl (by decide) (by decide)) (d_nb (i := 1) rfl rfl (by decide) (by decide))) d_int) (a_cons (d_nm (i := 5) rfl rfl (by decide) (by decide)) a_nil))))))))))
abbrev s_mirrored : Stmt := topS 16
theorem sc_mirrored : FnScope ["sheet", "inner", "outer", "begin", "wide"] ["sheet"] (defScope s_mirrored) := ⟨rfl, rfl, rfl, by decide +kernel, rfl, by decide +kernel, by decide +kernel⟩
theorem ok_mirrored {Γ : Gam} (B : Bl Γ) {f : Addr} {fd : FuncData} (Fn : Fun Γ.K "mirrored" "mirrored" s_mirrored f fd) (hm : Γ.mg "mirrored" = some (.ref f)) : HasD (Γ.at 1) "mirrored" c_mirrored := by
  refine hasD (Γ := Γ) (k := 0) (F := F_mirrored) (ps := ["sheet"]) Fn hm (Fn.binds (ps := ["sheet"]) fun _ _ _ _ _ _ us hl => match us, hl with | [_], _ => rfl) sc_mirrored ?_
  delta F_mirrored
  exact (ss_one (s_ret (d_tuple rfl B.tuple (DL.f (d_lc (own := [("inner", 1), ("outer", 2), ("begin", 3), ("wide", 4)]) sc_mirrored.nd (by decide +kernel) (i_seq (d_nm (i := 0) rfl rfl (by decide) (by decide))) (g_tup (gs_cons (i := 1) sc_mirrored.nd rfl rfl (gs_cons (i := 2) sc_mirrored.nd rfl rfl (gs_cons (i := 3) sc_mirrored.nd rfl rfl (gs_cons (i := 4) sc_mirrored.nd rfl rfl gs_nil))))) (by decide) ts_nil (d_tup (a_cons (d_nm (i := 1) rfl rfl (by decide) (by decide)) (a_cons (d_nm (i := 2) rfl rfl (by decide) (by decide)) (a_cons (d_mod (d_sub (d_neg (d_nb (i := 3) rfl rfl (by decide) (by decide))) (d_nb (i := 4) rfl rfl (by decide) (by decide))) d_int) (a_cons (d_nm (i := 4) rfl rfl (by decide) (by decide)) a_nil))))))))))
abbrev s_grown : Stmt := topS 17
theorem sc_grown : FnScope ["sheet", "times", "inner", "outer", "begin", "wide"] ["sheet", "times"] (defScope s_grown) := ⟨rfl, rfl, rfl, by decide +kernel, rfl, by decide +kernel, by decide +kernel⟩
theorem ok_grown {Γ : Gam} (B : Bl Γ) {f : Addr} {fd : FuncData} (Fn : Fun Γ.K "grown" "grown" s_grown f fd) (hm : Γ.mg "grown" = some (.ref f)) : HasD (Γ.at 1) "grown" c_grown := by
  refine hasD (Γ := Γ) (k := 0) (F := F_grown) (ps := ["sheet", "times"]) Fn hm (Fn.binds (ps := ["sheet", "times"]) fun _ _ _ _ _ _ us hl => match us, hl with | [_, _], _ => rfl) sc_grown ?_
  delta F_grown
  exact (ss_one (s_ret (d_tuple rfl B.tuple (DL.f (d_lc (own := [("inner", 2), ("outer", 3), ("begin", 4), ("wide", 5)]) sc_grown.nd (by decide +kernel) (i_seq (d_nm (i := 0) rfl rfl (by decide) (by decide))) (g_tup (gs_cons (i := 2) sc_grown.nd rfl rfl (gs_cons (i := 3) sc_grown.nd rfl rfl (gs_cons (i := 4) sc_grown.nd rfl rfl (gs_cons (i := 5) sc_grown.nd rfl rfl gs_nil))))) (by decide) ts_nil (d_tup (a_cons (d_mul (d_nb (i := 1) rfl rfl (by decide) (by decide)) (d_nb (i := 2) rfl rfl (by decide) (by decide))) (a_cons (d_mul (d_nb (i := 1) rfl rfl (by decide) (by decide)) (d_nb (i := 3) rfl rfl (by decide) (by decide))) (a_cons (d_nm (i := 4) rfl rfl (by decide) (by decide)) (a_cons (d_nm (i := 5) rfl rfl (by decide) (by decide)) a_nil))))))))))
abbrev s_is_outermost : Stmt := topS 28
theorem sc_is_outermost : FnScope ["net", "group", "cell"] ["net", "group"] (defScope s_is_outermost) := ⟨rfl, rfl, rfl, by decide +kernel, rfl, by decide +kernel, by decide +kernel⟩
theorem ok_is_outermost {Γ : Gam} (B : Bl Γ) {f : Addr} {fd : FuncData} (Fn : Fun Γ.K "is_outermost" "is_outermost" s_is_outermost f fd) (hm : Γ.mg "is_outermost" = some (.ref f)) (C : NetC (Γ.at 0)) : HasD (Γ.at 1) "is_outermost" c_is_outermost := by
  refine hasD (Γ := Γ) (k := 0) (F := F_is_outermost) (ps := ["net", "group"]) Fn hm (Fn.binds (ps := ["net", "group"]) fun _ _ _ _ _ _ us hl => match us, hl with | [_, _], _ => rfl) sc_is_outermost ?_
  delta F_is_outermost
  exact (ss_one (s_ret (d_any rfl B.any (DL.f (d_lc (own := [("cell", 2)]) sc_is_outermost.nd (by decide +kernel) (i_seq (d_nm (i := 1) rfl rfl (by decide) (by decide))) (g_one (i := 2) sc_is_outermost.nd rfl rfl) (by decide) ts_nil (DC.toE (d_eq (d_add (d_ix (d_nb (i := 2) rfl rfl (by decide) (by decide)) d_int) d_int) (d_len rfl B.len (d_fars C (d_nb (i := 0) rfl rfl (by decide) (by decide)))))))))))
abbrev s_covered : Stmt := topS 31
theorem sc_covered : FnScope ["net", "found", "cell", "inside"] ["net"] (defScope s_covered) := ⟨rfl, rfl, rfl, by decide +kernel, rfl, by decide +kernel, by decide +kernel⟩
theorem ok_covered {Γ : Gam} (B : Bl Γ) {f : Addr} {fd : FuncData} (Fn : Fun Γ.K "covered" "covered" s_covered f fd) (hm : Γ.mg "covered" = some (.ref f)) (C : NetC (Γ.at 0)) : HasD (Γ.at 1) "covered" c_covered := by
  refine hasD (Γ := Γ) (k := 0) (F := F_covered) (ps := ["net"]) Fn hm (Fn.binds (ps := ["net"]) fun _ _ _ _ _ _ us hl => match us, hl with | [_], _ => rfl) sc_covered ?_
  delta F_covered
  exact (ss_cons (s_own (i := 1) sc_covered.nd rfl rfl d_dnew)
  (ss_cons (s_for (i_items (d_inside C (d_nb (i := 0) rfl rfl (by decide) (by decide)))) (g_tup (gs_cons (i := 2) sc_covered.nd rfl rfl (gs_cons (i := 3) sc_covered.nd rfl rfl gs_nil)))
  (ss_one (s_put (i := 1) rfl rfl (by decide) (by decide) (d_nm (i := 2) rfl rfl (by decide) (by decide)) (DC.toE (d_gt (d_len rfl B.len (d_nb (i := 3) rfl rfl (by decide) (by decide))) d_int)))))
  (ss_frz 1 (ss_one (s_ret (d_nm (i := 1) rfl rfl (by decide) (by decide)))))))
abbrev s__law_cell : Stmt := topS 36
theorem sc__law_cell : FnScope ["_law_script", "_law_k"] ["_law_script", "_law_k"] (defScope s__law_cell) := ⟨rfl, rfl, rfl, by decide +kernel, rfl, by decide +kernel, by decide +kernel⟩
theorem ok__law_cell {Γ : Gam} (B : Bl Γ) {f : Addr} {fd : FuncData} (Fn : Fun Γ.K "_law_cell" "_law_cell" s__law_cell f fd) (hm : Γ.mg "_law_cell" = some (.ref f)) : HasD (Γ.at 1) "_law_cell" c__law_cell := by
  refine hasD (Γ := Γ) (k := 0) (F := F__law_cell) (ps := ["_law_script", "_law_k"]) Fn hm (Fn.binds (ps := ["_law_script", "_law_k"]) fun _ _ _ _ _ _ us hl => match us, hl with | [_, _], _ => rfl) sc__law_cell ?_
  delta F__law_cell
  exact (ss_cons (s_if (t_c (d_lt (d_nb (i := 1) rfl rfl (by decide) (by decide)) (d_len rfl B.len (d_nb (i := 0) rfl rfl (by decide) (by decide)))))
  (ss_one (s_ret (d_ix (d_nb (i := 0) rfl rfl (by decide) (by decide)) (d_nb (i := 1) rfl rfl (by decide) (by decide)))))
  ss_nil)
  (ss_one (s_ret d_int)))
abbrev s__law_mix : Stmt := topS 37
theorem sc__law_mix : FnScope ["_law_cell_here", "_law_prime", "_law_many"] ["_law_cell_here", "_law_prime", "_law_many"] (defScope s__law_mix) := ⟨rfl, rfl, rfl, by decide +kernel, rfl, by decide +kernel, by decide +kernel⟩
theorem ok__law_mix {Γ : Gam} (B : Bl Γ) {f : Addr} {fd : FuncData} (Fn : Fun Γ.K "_law_mix" "_law_mix" s__law_mix f fd) (hm : Γ.mg "_law_mix" = some (.ref f)) : HasD (Γ.at 1) "_law_mix" c__law_mix := by
  refine hasD (Γ := Γ) (k := 0) (F := F__law_mix) (ps := ["_law_cell_here", "_law_prime", "_law_many"]) Fn hm (Fn.binds (ps := ["_law_cell_here", "_law_prime", "_law_many"]) fun _ _ _ _ _ _ us hl => match us, hl with | [_, _, _], _ => rfl) sc__law_mix ?_
  delta F__law_mix
  exact (ss_one (s_ret (d_mod (d_mod (d_mul (d_nb (i := 0) rfl rfl (by decide) (by decide)) d_int) (d_nb (i := 1) rfl rfl (by decide) (by decide))) (d_nb (i := 2) rfl rfl (by decide) (by decide)))))
abbrev s__law_has : Stmt := topS 40
theorem sc__law_has : FnScope ["_law_piece_here", "_law_far", "_law_turn", "_law_inner", "_law_outer", "_law_begin", "_law_wide"] ["_law_piece_here", "_law_far", "_law_turn"] (defScope s__law_has) := ⟨rfl, rfl, rfl, by decide +kernel, rfl, by decide +kernel, by decide +kernel⟩
theorem ok__law_has {Γ : Gam} (B : Bl Γ) {f : Addr} {fd : FuncData} (Fn : Fun Γ.K "_law_has" "_law_has" s__law_has f fd) (hm : Γ.mg "_law_has" = some (.ref f)) : HasD (Γ.at 1) "_law_has" c__law_has := by
  refine hasD (Γ := Γ) (k := 0) (F := F__law_has) (ps := ["_law_piece_here", "_law_far", "_law_turn"]) Fn hm (Fn.binds (ps := ["_law_piece_here", "_law_far", "_law_turn"]) fun _ _ _ _ _ _ us hl => match us, hl with | [_, _, _], _ => rfl) sc__law_has ?_
  delta F__law_has
  exact (ss_cons (s_bind (d_nm (i := 0) rfl rfl (by decide) (by decide)) (g_tup (gs_cons (i := 3) sc__law_has.nd rfl rfl (gs_cons (i := 4) sc__law_has.nd rfl rfl (gs_cons (i := 5) sc__law_has.nd rfl rfl (gs_cons (i := 6) sc__law_has.nd rfl rfl gs_nil))))))
  (ss_cons (s_if (DW.t (w_or (t_c (d_lt (d_ix (d_nb (i := 1) rfl rfl (by decide) (by decide)) d_int) (d_mul (d_nb (i := 3) rfl rfl (by decide) (by decide)) (d_ix (d_nb (i := 1) rfl rfl (by decide) (by decide)) d_int)))) (w_or1 (t_c (d_ge (d_ix (d_nb (i := 1) rfl rfl (by decide) (by decide)) d_int) (d_mul (d_nb (i := 4) rfl rfl (by decide) (by decide)) (d_ix (d_nb (i := 1) rfl rfl (by decide) (by decide)) d_int)))))))
  (ss_one (s_ret d_bl))
  ss_nil)
  (ss_one (s_ret (DC.toE (d_lt (d_mod (d_sub (d_ix (d_nb (i := 2) rfl rfl (by decide) (by decide)) d_int) (d_mul (d_nb (i := 5) rfl rfl (by decide) (by decide)) (d_ix (d_nb (i := 2) rfl rfl (by decide) (by decide)) d_int))) (d_mul d_int (d_ix (d_nb (i := 2) rfl rfl (by decide) (by decide)) d_int))) (d_mul (d_nb (i := 6) rfl rfl (by decide) (by decide)) (d_ix (d_nb (i := 2) rfl rfl (by decide) (by decide)) d_int))))))))
abbrev s_fraction : Stmt := topS 3
theorem sc_fraction : FnScope ["upper", "lower", "by"] ["upper", "lower"] (defScope s_fraction) := ⟨rfl, rfl, rfl, by decide +kernel, rfl, by decide +kernel, by decide +kernel⟩
theorem ok_fraction {Γ : Gam} (B : Bl Γ) {f : Addr} {fd : FuncData} (Fn : Fun Γ.K "fraction" "fraction" s_fraction f fd) (hm : Γ.mg "fraction" = some (.ref f)) (h_common : HasD (Γ.at 1) "common" c_common) : HasD (Γ.at 2) "fraction" c_fraction := by
  refine hasD (Γ := Γ) (k := 1) (F := F_fraction) (ps := ["upper", "lower"]) Fn hm (Fn.binds (ps := ["upper", "lower"]) fun _ _ _ _ _ _ us hl => match us, hl with | [_, _], _ => rfl) sc_fraction ?_
  delta F_fraction
  exact (ss_cons (s_if (t_c (d_lt (d_nb (i := 1) rfl rfl (by decide) (by decide)) d_int))
  (ss_cons (s_set (i := 0) sc_fraction.nd rfl rfl (d_neg (d_nb (i := 0) rfl rfl (by decide) (by decide))))
  (ss_one (s_set (i := 1) sc_fraction.nd rfl rfl (d_neg (d_nb (i := 1) rfl rfl (by decide) (by decide))))))
  ss_nil)
  (ss_cons (s_set (i := 2) sc_fraction.nd rfl rfl (d_call h_common rfl (by decide) (a_cons (d_nm (i := 0) rfl rfl (by decide) (by decide)) (a_cons (d_nm (i := 1) rfl rfl (by decide) (by decide)) a_nil))))
  (ss_one (s_ret (d_tup (a_cons (d_fdiv (d_nb (i := 0) rfl rfl (by decide) (by decide)) (d_nb (i := 2) rfl rfl (by decide) (by decide))) (a_cons (d_fdiv (d_nb (i := 1) rfl rfl (by decide) (by decide)) (d_nb (i := 2) rfl rfl (by decide) (by decide))) a_nil)))))))
abbrev s_Net_point_in : Stmt := inClass (topS 11) 1
theorem sc_Net_point_in : FnScope ["self", "cell", "k", "n", "far"] ["self", "cell"] (defScope s_Net_point_in) := ⟨rfl, rfl, rfl, by decide +kernel, rfl, by decide +kernel, by decide +kernel⟩
theorem ok_Net_point_in {Γ : Gam} (B : Bl Γ) {f : Addr} {fd : FuncData} (Fn : Fun Γ.K "point_in" "Net.point_in" s_Net_point_in f fd) (hm : Meth Γ.K Γ.C "point_in" f) (C : NetC (Γ.at 1)) (h_half : HasD (Γ.at 1) "half" c_half) (m_width : HasM (Γ.at 1) "width" c_Net_width) : HasM (Γ.at 2) "point_in" c_Net_point_in := by
  refine ⟨fun _ _ _ => rfl, 2, f, fd, ["self", "cell"], Nat.le_refl _, hm, Fn.binds (ps := ["self", "cell"]) (fun _ _ _ _ _ _ us hl => match us, hl with | [_, _], _ => rfl), fnD (Γ := Γ.at 1) Fn sc_Net_point_in (F := F_Net_point_in) ?_⟩
  delta F_Net_point_in
  exact (ss_cons (s_bind (d_nm (i := 1) rfl rfl (by decide) (by decide)) (g_tup (gs_cons (i := 2) sc_Net_point_in.nd rfl rfl (gs_cons (i := 3) sc_Net_point_in.nd rfl rfl gs_nil))))
  (ss_cons (s_set (i := 4) sc_Net_point_in.nd rfl rfl (d_tup (a_cons (d_add (d_ix (d_fars C (d_nb (i := 0) rfl rfl (by decide) (by decide))) (d_nb (i := 2) rfl rfl (by decide) (by decide))) d_int) (a_cons d_int a_nil))))
  (ss_cons (s_if (t_c (d_lt (d_add (d_nb (i := 2) rfl rfl (by decide) (by decide)) d_int) (d_len rfl B.len (d_fars C (d_nb (i := 0) rfl rfl (by decide) (by decide))))))
  (ss_one (s_set (i := 4) sc_Net_point_in.nd rfl rfl (d_call h_half rfl (by decide) (a_cons (d_add (d_ix (d_fars C (d_nb (i := 0) rfl rfl (by decide) (by decide))) (d_nb (i := 2) rfl rfl (by decide) (by decide))) (d_ix (d_fars C (d_nb (i := 0) rfl rfl (by decide) (by decide))) (d_add (d_nb (i := 2) rfl rfl (by decide) (by decide)) d_int))) a_nil))))
  ss_nil)
  (ss_one (s_ret (d_tup (a_cons (d_nm (i := 4) rfl rfl (by decide) (by decide)) (a_cons (d_call h_half rfl (by decide) (a_cons (d_add (d_mul d_int (d_ix (d_turns C (d_nb (i := 0) rfl rfl (by decide) (by decide))) (d_nb (i := 3) rfl rfl (by decide) (by decide)))) (d_meth C m_width (d_nb (i := 0) rfl rfl (by decide) (by decide)) (a_cons (d_nm (i := 3) rfl rfl (by decide) (by decide)) a_nil))) a_nil)) a_nil))))))))
abbrev s_Net_area : Stmt := inClass (topS 11) 3
theorem sc_Net_area : FnScope ["self", "cell", "k", "n"] ["self", "cell"] (defScope s_Net_area) := ⟨rfl, rfl, rfl, by decide +kernel, rfl, by decide +kernel, by decide +kernel⟩
theorem ok_Net_area {Γ : Gam} (B : Bl Γ) {f : Addr} {fd : FuncData} (Fn : Fun Γ.K "area" "Net.area" s_Net_area f fd) (hm : Meth Γ.K Γ.C "area" f) (C : NetC (Γ.at 1)) (m_width : HasM (Γ.at 1) "width" c_Net_width) : HasM (Γ.at 2) "area" c_Net_area := by
  refine ⟨fun _ _ _ => rfl, 2, f, fd, ["self", "cell"], Nat.le_refl _, hm, Fn.binds (ps := ["self", "cell"]) (fun _ _ _ _ _ _ us hl => match us, hl with | [_, _], _ => rfl), fnD (Γ := Γ.at 1) Fn sc_Net_area (F := F_Net_area) ?_⟩
  delta F_Net_area
  exact (ss_cons (s_bind (d_nm (i := 1) rfl rfl (by decide) (by decide)) (g_tup (gs_cons (i := 2) sc_Net_area.nd rfl rfl (gs_cons (i := 3) sc_Net_area.nd rfl rfl gs_nil))))
  (ss_cons (s_if (t_c (d_eq (d_add (d_nb (i := 2) rfl rfl (by decide) (by decide)) d_int) (d_len rfl B.len (d_fars C (d_nb (i := 0) rfl rfl (by decide) (by decide))))))
  (ss_one (s_ret d_non))
  ss_nil)
  (ss_one (s_ret (d_mul (d_sub (d_mul (d_ix (d_fars C (d_nb (i := 0) rfl rfl (by decide) (by decide))) (d_add (d_nb (i := 2) rfl rfl (by decide) (by decide)) d_int)) (d_ix (d_fars C (d_nb (i := 0) rfl rfl (by decide) (by decide))) (d_add (d_nb (i := 2) rfl rfl (by decide) (by decide)) d_int))) (d_mul (d_ix (d_fars C (d_nb (i := 0) rfl rfl (by decide) (by decide))) (d_nb (i := 2) rfl rfl (by decide) (by decide))) (d_ix (d_fars C (d_nb (i := 0) rfl rfl (by decide) (by decide))) (d_nb (i := 2) rfl rfl (by decide) (by decide))))) (d_meth C m_width (d_nb (i := 0) rfl rfl (by decide) (by decide)) (a_cons (d_nm (i := 3) rfl rfl (by decide) (by decide)) a_nil)))))))
abbrev s_hanging : Stmt := topS 13
theorem sc_hanging : FnScope ["net", "marks", "found", "seen", "cell", "group", "at", "other"] ["net", "marks"] (defScope s_hanging) := ⟨rfl, rfl, rfl, by decide +kernel, rfl, by decide +kernel, by decide +kernel⟩
theorem ok_hanging {Γ : Gam} (B : Bl Γ) {f : Addr} {fd : FuncData} (Fn : Fun Γ.K "hanging" "hanging" s_hanging f fd) (hm : Γ.mg "hanging" = some (.ref f)) (C : NetC (Γ.at 1)) (m_beside : HasM (Γ.at 1) "beside" c_Net_beside) : HasD (Γ.at 2) "hanging" c_hanging := by
  refine hasD (Γ := Γ) (k := 1) (F := F_hanging) (ps := ["net", "marks"]) Fn hm (Fn.binds (ps := ["net", "marks"]) fun _ _ _ _ _ _ us hl => match us, hl with | [_, _], _ => rfl) sc_hanging ?_
  delta F_hanging
  exact (ss_cons (s_own (i := 2) sc_hanging.nd rfl rfl (d_lst a_nil))
  (ss_cons (s_own (i := 3) sc_hanging.nd rfl rfl d_dnew)
  (ss_cons (s_for (i_seq (DV.toE (d_sorted rfl B.sorted (d_inside C (d_nb (i := 0) rfl rfl (by decide) (by decide)))))) (g_one (i := 4) sc_hanging.nd rfl rfl)
  (ss_one (s_if (t_c (d_nin (d_nb (i := 4) rfl rfl (by decide) (by decide)) (d_nb (i := 3) rfl rfl (by decide) (by decide))))
  (ss_cons (s_own (i := 5) sc_hanging.nd rfl rfl (d_lst (a_cons (d_nm (i := 4) rfl rfl (by decide) (by decide)) a_nil)))
  (ss_cons (s_put (i := 3) rfl rfl (by decide) (by decide) (d_nm (i := 4) rfl rfl (by decide) (by decide)) d_bl)
  (ss_cons (s_set (i := 6) sc_hanging.nd rfl rfl d_int)
  (ss_cons (s_while (t_c (d_lt (d_nb (i := 6) rfl rfl (by decide) (by decide)) (d_len rfl B.len (d_nb (i := 5) rfl rfl (by decide) (by decide)))))
  (ss_cons (s_for (i_seq (d_meth C m_beside (d_nb (i := 0) rfl rfl (by decide) (by decide)) (a_cons (d_ix (d_nb (i := 5) rfl rfl (by decide) (by decide)) (d_nb (i := 6) rfl rfl (by decide) (by decide))) a_nil))) (g_one (i := 7) sc_hanging.nd rfl rfl)
  (ss_one (s_if (DW.t (w_and (t_c (d_nin (d_nb (i := 7) rfl rfl (by decide) (by decide)) (d_nb (i := 3) rfl rfl (by decide) (by decide)))) (w_and1 (t_c (d_eq (d_ix (d_nb (i := 1) rfl rfl (by decide) (by decide)) (d_nb (i := 7) rfl rfl (by decide) (by decide))) (d_ix (d_nb (i := 1) rfl rfl (by decide) (by decide)) (d_nb (i := 4) rfl rfl (by decide) (by decide))))))))
  (ss_cons (s_put (i := 3) rfl rfl (by decide) (by decide) (d_nm (i := 7) rfl rfl (by decide) (by decide)) d_bl)
  (ss_one (s_app (i := 5) rfl rfl (by decide) (by decide) (d_nm (i := 7) rfl rfl (by decide) (by decide)))))
  ss_nil)))
  (ss_one (s_set (i := 6) sc_hanging.nd rfl rfl (d_add (d_nb (i := 6) rfl rfl (by decide) (by decide)) d_int)))))
  (ss_frz 5 (ss_one (s_app (i := 2) rfl rfl (by decide) (by decide) (d_nm (i := 5) rfl rfl (by decide) (by decide)))))))))
  ss_nil)))
  (ss_frz 2 (ss_one (s_ret (d_nm (i := 2) rfl rfl (by decide) (by decide))))))))
abbrev s__law_piece : Stmt := topS 38
theorem sc__law_piece : FnScope ["_law_cell_here", "_law_most", "_law_inner", "_law_outer", "_law_wide"] ["_law_cell_here", "_law_most"] (defScope s__law_piece) := ⟨rfl, rfl, rfl, by decide +kernel, rfl, by decide +kernel, by decide +kernel⟩
theorem ok__law_piece {Γ : Gam} (B : Bl Γ) {f : Addr} {fd : FuncData} (Fn : Fun Γ.K "_law_piece" "_law_piece" s__law_piece f fd) (hm : Γ.mg "_law_piece" = some (.ref f)) (h__law_mix : HasD (Γ.at 1) "_law_mix" c__law_mix) : HasD (Γ.at 2) "_law_piece" c__law_piece := by
  refine hasD (Γ := Γ) (k := 1) (F := F__law_piece) (ps := ["_law_cell_here", "_law_most"]) Fn hm (Fn.binds (ps := ["_law_cell_here", "_law_most"]) fun _ _ _ _ _ _ us hl => match us, hl with | [_, _], _ => rfl) sc__law_piece ?_
  delta F__law_piece
  exact (ss_cons (s_set (i := 2) sc__law_piece.nd rfl rfl (d_call h__law_mix rfl (by decide) (a_cons (d_nm (i := 0) rfl rfl (by decide) (by decide)) (a_cons d_int (a_cons (d_nm (i := 1) rfl rfl (by decide) (by decide)) a_nil)))))
  (ss_cons (s_set (i := 3) sc__law_piece.nd rfl rfl (d_add (d_add (d_nb (i := 2) rfl rfl (by decide) (by decide)) d_int) (d_call h__law_mix rfl (by decide) (a_cons (d_nm (i := 0) rfl rfl (by decide) (by decide)) (a_cons d_int (a_cons (d_sub (d_nb (i := 1) rfl rfl (by decide) (by decide)) (d_nb (i := 2) rfl rfl (by decide) (by decide))) a_nil))))))
  (ss_cons (s_set (i := 4) sc__law_piece.nd rfl rfl (d_add d_int (d_call h__law_mix rfl (by decide) (a_cons (d_nm (i := 0) rfl rfl (by decide) (by decide)) (a_cons d_int (a_cons d_int a_nil))))))
  (ss_cons (s_if (t_c (d_eq (d_mod (d_nb (i := 0) rfl rfl (by decide) (by decide)) d_int) d_int))
  (ss_one (s_set (i := 4) sc__law_piece.nd rfl rfl d_int))
  ss_nil)
  (ss_one (s_ret (d_tup (a_cons (d_nm (i := 2) rfl rfl (by decide) (by decide)) (a_cons (d_nm (i := 3) rfl rfl (by decide) (by decide)) (a_cons (d_call h__law_mix rfl (by decide) (a_cons (d_nm (i := 0) rfl rfl (by decide) (by decide)) (a_cons d_int (a_cons d_int a_nil)))) (a_cons (d_nm (i := 4) rfl rfl (by decide) (by decide)) a_nil)))))))))))
abbrev s__law_layers : Stmt := topS 41
theorem sc__law_layers : FnScope ["_law_sheet_here", "_law_point", "_law_k", "_law_piece_here"] ["_law_sheet_here", "_law_point"] (defScope s__law_layers) := ⟨rfl, rfl, rfl, by decide +kernel, rfl, by decide +kernel, by decide +kernel⟩
theorem ok__law_layers {Γ : Gam} (B : Bl Γ) {f : Addr} {fd : FuncData} (Fn : Fun Γ.K "_law_layers" "_law_layers" s__law_layers f fd) (hm : Γ.mg "_law_layers" = some (.ref f)) (h__law_has : HasD (Γ.at 1) "_law_has" c__law_has) : HasD (Γ.at 2) "_law_layers" c__law_layers := by
  refine hasD (Γ := Γ) (k := 1) (F := F__law_layers) (ps := ["_law_sheet_here", "_law_point"]) Fn hm (Fn.binds (ps := ["_law_sheet_here", "_law_point"]) fun _ _ _ _ _ _ us hl => match us, hl with | [_, _], _ => rfl) sc__law_layers ?_
  delta F__law_layers
  exact (ss_one (s_ret (d_tuple rfl B.tuple (DL.f (d_lc (own := [("_law_k", 2), ("_law_piece_here", 3)]) sc__law_layers.nd (by decide +kernel) (i_enum rfl B.enumerate (d_nm (i := 0) rfl rfl (by decide) (by decide))) (g_tup (gs_cons (i := 2) sc__law_layers.nd rfl rfl (gs_cons (i := 3) sc__law_layers.nd rfl rfl gs_nil))) (by decide) (ts_one (t_v (d_call h__law_has rfl (by decide) (a_cons (d_nm (i := 3) rfl rfl (by decide) (by decide)) (a_cons (d_ix (d_nb (i := 1) rfl rfl (by decide) (by decide)) d_int) (a_cons (d_ix (d_nb (i := 1) rfl rfl (by decide) (by decide)) d_int) a_nil)))))) (d_nm (i := 2) rfl rfl (by decide) (by decide)))))))
abbrev s_less : Stmt := topS 4
theorem sc_less : FnScope ["one", "other"] ["one", "other"] (defScope s_less) := ⟨rfl, rfl, rfl, by decide +kernel, rfl, by decide +kernel, by decide +kernel⟩
theorem ok_less {Γ : Gam} (B : Bl Γ) {f : Addr} {fd : FuncData} (Fn : Fun Γ.K "less" "less" s_less f fd) (hm : Γ.mg "less" = some (.ref f)) (h_fraction : HasD (Γ.at 2) "fraction" c_fraction) : HasD (Γ.at 3) "less" c_less := by
  refine hasD (Γ := Γ) (k := 2) (F := F_less) (ps := ["one", "other"]) Fn hm (Fn.binds (ps := ["one", "other"]) fun _ _ _ _ _ _ us hl => match us, hl with | [_, _], _ => rfl) sc_less ?_
  delta F_less
  exact (ss_one (s_ret (d_call h_fraction rfl (by decide) (a_cons (d_sub (d_mul (d_ix (d_nb (i := 0) rfl rfl (by decide) (by decide)) d_int) (d_ix (d_nb (i := 1) rfl rfl (by decide) (by decide)) d_int)) (d_mul (d_ix (d_nb (i := 1) rfl rfl (by decide) (by decide)) d_int) (d_ix (d_nb (i := 0) rfl rfl (by decide) (by decide)) d_int))) (a_cons (d_mul (d_ix (d_nb (i := 0) rfl rfl (by decide) (by decide)) d_int) (d_ix (d_nb (i := 1) rfl rfl (by decide) (by decide)) d_int)) a_nil)))))
abbrev s_on_round : Stmt := topS 6
theorem sc_on_round : FnScope ["one"] ["one"] (defScope s_on_round) := ⟨rfl, rfl, rfl, by decide +kernel, rfl, by decide +kernel, by decide +kernel⟩
theorem ok_on_round {Γ : Gam} (B : Bl Γ) {f : Addr} {fd : FuncData} (Fn : Fun Γ.K "on_round" "on_round" s_on_round f fd) (hm : Γ.mg "on_round" = some (.ref f)) (h_fraction : HasD (Γ.at 2) "fraction" c_fraction) : HasD (Γ.at 3) "on_round" c_on_round := by
  refine hasD (Γ := Γ) (k := 2) (F := F_on_round) (ps := ["one"]) Fn hm (Fn.binds (ps := ["one"]) fun _ _ _ _ _ _ us hl => match us, hl with | [_], _ => rfl) sc_on_round ?_
  delta F_on_round
  exact (ss_one (s_ret (d_call h_fraction rfl (by decide) (a_cons (d_mod (d_ix (d_nb (i := 0) rfl rfl (by decide) (by decide)) d_int) (d_mul d_int (d_ix (d_nb (i := 0) rfl rfl (by decide) (by decide)) d_int))) (a_cons (d_ix (d_nb (i := 0) rfl rfl (by decide) (by decide)) d_int) a_nil)))))
abbrev s_face_groups : Stmt := topS 27
theorem sc_face_groups : FnScope ["net"] ["net"] (defScope s_face_groups) := ⟨rfl, rfl, rfl, by decide +kernel, rfl, by decide +kernel, by decide +kernel⟩
theorem ok_face_groups {Γ : Gam} (B : Bl Γ) {f : Addr} {fd : FuncData} (Fn : Fun Γ.K "face_groups" "face_groups" s_face_groups f fd) (hm : Γ.mg "face_groups" = some (.ref f)) (C : NetC (Γ.at 2)) (h_hanging : HasD (Γ.at 2) "hanging" c_hanging) : HasD (Γ.at 3) "face_groups" c_face_groups := by
  refine hasD (Γ := Γ) (k := 2) (F := F_face_groups) (ps := ["net"]) Fn hm (Fn.binds (ps := ["net"]) fun _ _ _ _ _ _ us hl => match us, hl with | [_], _ => rfl) sc_face_groups ?_
  delta F_face_groups
  exact (ss_one (s_ret (d_call h_hanging rfl (by decide) (a_cons (d_nm (i := 0) rfl rfl (by decide) (by decide)) (a_cons (d_inside C (d_nb (i := 0) rfl rfl (by decide) (by decide))) a_nil)))))
abbrev s__law_sheet : Stmt := topS 39
theorem sc__law_sheet : FnScope ["_law_cell_here", "_law_most", "_law_many", "_law_k"] ["_law_cell_here", "_law_most", "_law_many"] (defScope s__law_sheet) := ⟨rfl, rfl, rfl, by decide +kernel, rfl, by decide +kernel, by decide +kernel⟩
theorem ok__law_sheet {Γ : Gam} (B : Bl Γ) {f : Addr} {fd : FuncData} (Fn : Fun Γ.K "_law_sheet" "_law_sheet" s__law_sheet f fd) (hm : Γ.mg "_law_sheet" = some (.ref f)) (h__law_mix : HasD (Γ.at 2) "_law_mix" c__law_mix) (h__law_piece : HasD (Γ.at 2) "_law_piece" c__law_piece) : HasD (Γ.at 3) "_law_sheet" c__law_sheet := by
  refine hasD (Γ := Γ) (k := 2) (F := F__law_sheet) (ps := ["_law_cell_here", "_law_most", "_law_many"]) Fn hm (Fn.binds (ps := ["_law_cell_here", "_law_most", "_law_many"]) fun _ _ _ _ _ _ us hl => match us, hl with | [_, _, _], _ => rfl) sc__law_sheet ?_
  delta F__law_sheet
  exact (ss_one (s_ret (d_tuple rfl B.tuple (DL.f (d_lc (own := [("_law_k", 3)]) sc__law_sheet.nd (by decide +kernel) (i_range1 rfl B.range (d_call h__law_mix rfl (by decide) (a_cons (d_nm (i := 0) rfl rfl (by decide) (by decide)) (a_cons d_int (a_cons (d_add (d_nb (i := 2) rfl rfl (by decide) (by decide)) d_int) a_nil))))) (g_one (i := 3) sc__law_sheet.nd rfl rfl) (by decide) ts_nil (d_call h__law_piece rfl (by decide) (a_cons (d_add (d_nb (i := 0) rfl rfl (by decide) (by decide)) (d_mul d_int (d_nb (i := 3) rfl rfl (by decide) (by decide)))) (a_cons (d_nm (i := 1) rfl rfl (by decide) (by decide)) a_nil))))))))
abbrev s__law_cells : Stmt := topS 42
theorem sc__law_cells : FnScope ["_law_sheet_here", "_law_most", "_law_found", "_law_ring", "_law_turn"] ["_law_sheet_here", "_law_most"] (defScope s__law_cells) := ⟨rfl, rfl, rfl, by decide +kernel, rfl, by decide +kernel, by decide +kernel⟩
theorem ok__law_cells {Γ : Gam} (B : Bl Γ) {f : Addr} {fd : FuncData} (Fn : Fun Γ.K "_law_cells" "_law_cells" s__law_cells f fd) (hm : Γ.mg "_law_cells" = some (.ref f)) (h__law_layers : HasD (Γ.at 2) "_law_layers" c__law_layers) : HasD (Γ.at 3) "_law_cells" c__law_cells := by
  refine hasD (Γ := Γ) (k := 2) (F := F__law_cells) (ps := ["_law_sheet_here", "_law_most"]) Fn hm (Fn.binds (ps := ["_law_sheet_here", "_law_most"]) fun _ _ _ _ _ _ us hl => match us, hl with | [_, _], _ => rfl) sc__law_cells ?_
  delta F__law_cells
  exact (ss_cons (s_own (i := 2) sc__law_cells.nd rfl rfl d_dnew)
  (ss_cons (s_for (i_range1 rfl B.range (d_add (d_nb (i := 1) rfl rfl (by decide) (by decide)) d_int)) (g_one (i := 3) sc__law_cells.nd rfl rfl)
  (ss_one (s_for (i_range1 rfl B.range d_int) (g_one (i := 4) sc__law_cells.nd rfl rfl)
  (ss_one (s_put (i := 2) rfl rfl (by decide) (by decide) (d_tup (a_cons (d_nm (i := 3) rfl rfl (by decide) (by decide)) (a_cons (d_nm (i := 4) rfl rfl (by decide) (by decide)) a_nil))) (d_call h__law_layers rfl (by decide) (a_cons (d_nm (i := 0) rfl rfl (by decide) (by decide)) (a_cons (d_tup (a_cons (d_tup (a_cons (d_add (d_mul d_int (d_nb (i := 3) rfl rfl (by decide) (by decide))) d_int) (a_cons d_int a_nil))) (a_cons (d_tup (a_cons (d_add (d_mul d_int (d_nb (i := 4) rfl rfl (by decide) (by decide))) d_int) (a_cons d_int a_nil))) a_nil))) a_nil))))))))
  (ss_frz 2 (ss_one (s_ret (d_nm (i := 2) rfl rfl (by decide) (by decide)))))))
abbrev s_has : Stmt := topS 8
theorem sc_has : FnScope ["piece", "point", "inner", "outer", "begin", "wide", "far", "turn"] ["piece", "point"] (defScope s_has) := ⟨rfl, rfl, rfl, by decide +kernel, rfl, by decide +kernel, by decide +kernel⟩
theorem ok_has {Γ : Gam} (B : Bl Γ) {f : Addr} {fd : FuncData} (Fn : Fun Γ.K "has" "has" s_has f fd) (hm : Γ.mg "has" = some (.ref f)) (h_is_more : HasD (Γ.at 3) "is_more" c_is_more) (h_on_round : HasD (Γ.at 3) "on_round" c_on_round) (h_less : HasD (Γ.at 3) "less" c_less) : HasD (Γ.at 4) "has" c_has := by
  refine hasD (Γ := Γ) (k := 3) (F := F_has) (ps := ["piece", "point"]) Fn hm (Fn.binds (ps := ["piece", "point"]) fun _ _ _ _ _ _ us hl => match us, hl with | [_, _], _ => rfl) sc_has ?_
  delta F_has
  exact (ss_cons (s_bind (d_nm (i := 0) rfl rfl (by decide) (by decide)) (g_tup (gs_cons (i := 2) sc_has.nd rfl rfl (gs_cons (i := 3) sc_has.nd rfl rfl (gs_cons (i := 4) sc_has.nd rfl rfl (gs_cons (i := 5) sc_has.nd rfl rfl gs_nil))))))
  (ss_cons (s_bind (d_nm (i := 1) rfl rfl (by decide) (by decide)) (g_tup (gs_cons (i := 6) sc_has.nd rfl rfl (gs_cons (i := 7) sc_has.nd rfl rfl gs_nil))))
  (ss_cons (s_if (DW.t (w_or (t_v (d_call h_is_more rfl (by decide) (a_cons (d_tup (a_cons (d_nm (i := 2) rfl rfl (by decide) (by decide)) (a_cons d_int a_nil))) (a_cons (d_nm (i := 6) rfl rfl (by decide) (by decide)) a_nil)))) (w_or1 (t_not (t_v (d_call h_is_more rfl (by decide) (a_cons (d_tup (a_cons (d_nm (i := 3) rfl rfl (by decide) (by decide)) (a_cons d_int a_nil))) (a_cons (d_nm (i := 6) rfl rfl (by decide) (by decide)) a_nil))))))))
  (ss_one (s_ret d_bl))
  ss_nil)
  (ss_one (s_ret (d_call h_is_more rfl (by decide) (a_cons (d_tup (a_cons (d_nm (i := 5) rfl rfl (by decide) (by decide)) (a_cons d_int a_nil))) (a_cons (d_call h_on_round rfl (by decide) (a_cons (d_call h_less rfl (by decide) (a_cons (d_nm (i := 7) rfl rfl (by decide) (by decide)) (a_cons (d_tup (a_cons (d_nm (i := 4) rfl rfl (by decide) (by decide)) (a_cons d_int a_nil))) a_nil))) a_nil)) a_nil))))))))
abbrev s__law_covers : Stmt := topS 45
theorem sc__law_covers : FnScope ["_law_sheet_here", "_law_wish", "_law_most", "_law_cells_here", "_law_place"] ["_law_sheet_here", "_law_wish", "_law_most"] (defScope s__law_covers) := ⟨rfl, rfl, rfl, by decide +kernel, rfl, by decide +kernel, by decide +kernel⟩
theorem ok__law_covers {Γ : Gam} (B : Bl Γ) {f : Addr} {fd : FuncData} (Fn : Fun Γ.K "_law_covers" "_law_covers" s__law_covers f fd) (hm : Γ.mg "_law_covers" = some (.ref f)) (h__law_cells : HasD (Γ.at 3) "_law_cells" c__law_cells) : HasD (Γ.at 4) "_law_covers" c__law_covers := by
  refine hasD (Γ := Γ) (k := 3) (F := F__law_covers) (ps := ["_law_sheet_here", "_law_wish", "_law_most"]) Fn hm (Fn.binds (ps := ["_law_sheet_here", "_law_wish", "_law_most"]) fun _ _ _ _ _ _ us hl => match us, hl with | [_, _, _], _ => rfl) sc__law_covers ?_
  delta F__law_covers
  exact (ss_cons (s_set (i := 3) sc__law_covers.nd rfl rfl (d_call h__law_cells rfl (by decide) (a_cons (d_nm (i := 0) rfl rfl (by decide) (by decide)) (a_cons (d_nm (i := 2) rfl rfl (by decide) (by decide)) a_nil))))
  (ss_cons (s_for (i_seq (d_nm (i := 3) rfl rfl (by decide) (by decide))) (g_one (i := 4) sc__law_covers.nd rfl rfl)
  (ss_one (s_if (t_c (d_ne (d_len rfl B.len (d_ix (d_nb (i := 3) rfl rfl (by decide) (by decide)) (d_nb (i := 4) rfl rfl (by decide) (by decide)))) (d_int1 rfl B.int (DC.toE (d_in (d_nb (i := 4) rfl rfl (by decide) (by decide)) (d_nb (i := 1) rfl rfl (by decide) (by decide)))))))
  (ss_one (s_ret d_bl))
  ss_nil)))
  (ss_one (s_ret d_bl))))
abbrev s_layers : Stmt := topS 9
theorem sc_layers : FnScope ["sheet", "point", "number", "piece"] ["sheet", "point"] (defScope s_layers) := ⟨rfl, rfl, rfl, by decide +kernel, rfl, by decide +kernel, by decide +kernel⟩
theorem ok_layers {Γ : Gam} (B : Bl Γ) {f : Addr} {fd : FuncData} (Fn : Fun Γ.K "layers" "layers" s_layers f fd) (hm : Γ.mg "layers" = some (.ref f)) (h_has : HasD (Γ.at 4) "has" c_has) : HasD (Γ.at 5) "layers" c_layers := by
  refine hasD (Γ := Γ) (k := 4) (F := F_layers) (ps := ["sheet", "point"]) Fn hm (Fn.binds (ps := ["sheet", "point"]) fun _ _ _ _ _ _ us hl => match us, hl with | [_, _], _ => rfl) sc_layers ?_
  delta F_layers
  exact (ss_one (s_ret (d_tuple rfl B.tuple (DL.f (d_lc (own := [("number", 2), ("piece", 3)]) sc_layers.nd (by decide +kernel) (i_enum rfl B.enumerate (d_nm (i := 0) rfl rfl (by decide) (by decide))) (g_tup (gs_cons (i := 2) sc_layers.nd rfl rfl (gs_cons (i := 3) sc_layers.nd rfl rfl gs_nil))) (by decide) (ts_one (t_v (d_call h_has rfl (by decide) (a_cons (d_nm (i := 3) rfl rfl (by decide) (by decide)) (a_cons (d_nm (i := 1) rfl rfl (by decide) (by decide)) a_nil))))) (d_nm (i := 2) rfl rfl (by decide) (by decide)))))))
abbrev s_Net___init__ : Stmt := inClass (topS 11) 0
theorem sc_Net___init__ : FnScope ["self", "sheet", "fars", "turns", "inner", "outer", "begin", "wide", "k", "n"] ["self", "sheet"] (defScope s_Net___init__) := ⟨rfl, rfl, rfl, by decide +kernel, rfl, by decide +kernel, by decide +kernel⟩
theorem ok_Net___init__ {Γ : Gam} (B : Bl Γ) {f : Addr} {fd : FuncData} (Fn : Fun Γ.K "__init__" "Net.__init__" s_Net___init__ f fd) (g : Γ.mg "Net" = some (.ref Γ.C)) (mk : Mk Γ.K Γ.C f) (C : NetC (Γ.at 5)) (h_layers : HasD (Γ.at 5) "layers" c_layers) (m_point_in : HasM (Γ.at 5) "point_in" c_Net_point_in) : HasN (Γ.at 7) "Net" c_Net := by
  refine ⟨6, f, fd, ["self", "sheet"], Nat.le_refl _, g, mk, Fn.binds (ps := ["self", "sheet"]) (fun _ _ _ _ _ _ us hl => match us, hl with | [_, _], _ => rfl), net_init (Γ := Γ) (k := 5) (F1 := n_F1) (F2 := n_F2) (F3 := n_F3) (Ef := n_Ef) (Et := n_Et) (Ik := n_Ik) (In := n_In) (Kf := n_Kf) (Vf := n_Vf) (fun d n h x => anyX_e h x) Fn sc_Net___init__ C rfl rfl ?_ ?_ ?_ ?_ ?_ ?_ (g_one (i := 8) sc_Net___init__.nd rfl rfl) ?_ (g_one (i := 9) sc_Net___init__.nd rfl rfl) (by decide) (by decide) ?_ ?_⟩
  · delta n_F1
    exact (s_own (i := 2) sc_Net___init__.nd rfl rfl (d_lst (a_cons d_int a_nil)))
  · delta n_F2
    exact (s_own (i := 3) sc_Net___init__.nd rfl rfl (d_lst a_nil))
  · delta n_F3
    exact (s_for (i_seq (d_nm (i := 1) rfl rfl (by decide) (by decide))) (g_tup (gs_cons (i := 4) sc_Net___init__.nd rfl rfl (gs_cons (i := 5) sc_Net___init__.nd rfl rfl (gs_cons (i := 6) sc_Net___init__.nd rfl rfl (gs_cons (i := 7) sc_Net___init__.nd rfl rfl gs_nil)))))
  (ss_cons (s_ext (i := 2) rfl rfl (by decide) (by decide) (DV.toE (d_lst (a_cons (d_nm (i := 4) rfl rfl (by decide) (by decide)) (a_cons (d_nm (i := 5) rfl rfl (by decide) (by decide)) a_nil)))))
  (ss_one (s_ext (i := 3) rfl rfl (by decide) (by decide) (DV.toE (d_lst (a_cons (d_nm (i := 6) rfl rfl (by decide) (by decide)) (a_cons (d_mod (d_add (d_nb (i := 6) rfl rfl (by decide) (by decide)) (d_nb (i := 7) rfl rfl (by decide) (by decide))) d_int) a_nil))))))))
  · delta n_Ef
    exact (DV.toE (d_sortset rfl B.sorted rfl B.set (d_nb (i := 2) rfl rfl (by decide) (by decide))))
  · delta n_Et
    exact (DV.toE (d_sortset rfl B.sorted rfl B.set (d_add (d_nb (i := 3) rfl rfl (by decide) (by decide)) (d_lst (a_cons d_int a_nil)))))
  · delta n_Ik
    exact (i_range1 rfl B.range (d_len rfl B.len (d_fars C (d_nb (i := 0) rfl rfl (by decide) (by decide)))))
  · delta n_In
    exact (i_range1 rfl B.range (d_len rfl B.len (d_turns C (d_nb (i := 0) rfl rfl (by decide) (by decide)))))
  · delta n_Kf
    exact (d_tup (a_cons (d_nm (i := 8) rfl rfl (by decide) (by decide)) (a_cons (d_nm (i := 9) rfl rfl (by decide) (by decide)) a_nil)))
  · delta n_Vf
    exact (d_call h_layers rfl (by decide) (a_cons (d_nm (i := 1) rfl rfl (by decide) (by decide)) (a_cons (d_meth C m_point_in (d_nb (i := 0) rfl rfl (by decide) (by decide)) (a_cons (d_tup (a_cons (d_nm (i := 8) rfl rfl (by decide) (by decide)) (a_cons (d_nm (i := 9) rfl rfl (by decide) (by decide)) a_nil))) a_nil)) a_nil)))
abbrev s_depth_areas : Stmt := topS 23
theorem sc_depth_areas : FnScope ["sheet", "net", "found", "cell", "many", "piece"] ["sheet"] (defScope s_depth_areas) := ⟨rfl, rfl, rfl, by decide +kernel, rfl, by decide +kernel, by decide +kernel⟩
theorem ok_depth_areas {Γ : Gam} (B : Bl Γ) {f : Addr} {fd : FuncData} (Fn : Fun Γ.K "depth_areas" "depth_areas" s_depth_areas f fd) (hm : Γ.mg "depth_areas" = some (.ref f)) (C : NetC (Γ.at 7)) (h_Net : HasN (Γ.at 7) "Net" c_Net) (m_bounded : HasM (Γ.at 7) "bounded" c_Net_bounded) (m_area : HasM (Γ.at 7) "area" c_Net_area) : HasD (Γ.at 8) "depth_areas" c_depth_areas := by
  refine hasD (Γ := Γ) (k := 7) (F := F_depth_areas) (ps := ["sheet"]) Fn hm (Fn.binds (ps := ["sheet"]) fun _ _ _ _ _ _ us hl => match us, hl with | [_], _ => rfl) sc_depth_areas ?_
  delta F_depth_areas
  exact (ss_cons (s_set (i := 1) sc_depth_areas.nd rfl rfl (d_make h_Net rfl (by decide) (d_nm (i := 0) rfl rfl (by decide) (by decide))))
  (ss_cons (s_ownL (i := 2) sc_depth_areas.nd rfl rfl rfl (d_lc (own := [("piece", 5)]) sc_depth_areas.nd (by decide +kernel) (i_seq (d_nm (i := 0) rfl rfl (by decide) (by decide))) (g_one (i := 5) sc_depth_areas.nd rfl rfl) (by decide) ts_nil d_int))
  (ss_cons (s_for (i_seq (d_meth0 C m_bounded (d_nb (i := 1) rfl rfl (by decide) (by decide)))) (g_one (i := 3) sc_depth_areas.nd rfl rfl)
  (ss_cons (s_set (i := 4) sc_depth_areas.nd rfl rfl (d_len rfl B.len (d_ix (d_inside C (d_nb (i := 1) rfl rfl (by decide) (by decide))) (d_nb (i := 3) rfl rfl (by decide) (by decide)))))
  (ss_one (s_if (t_c (d_gt (d_nb (i := 4) rfl rfl (by decide) (by decide)) d_int))
  (ss_one (s_put (i := 2) rfl rfl (by decide) (by decide) (d_sub (d_nb (i := 4) rfl rfl (by decide) (by decide)) d_int) (d_add (d_ix (d_nb (i := 2) rfl rfl (by decide) (by decide)) (d_sub (d_nb (i := 4) rfl rfl (by decide) (by decide)) d_int)) (d_meth C m_area (d_nb (i := 1) rfl rfl (by decide) (by decide)) (a_cons (d_nm (i := 3) rfl rfl (by decide) (by decide)) a_nil)))))
  ss_nil))))
  (ss_one (s_ret (d_tuple rfl B.tuple (d_nb (i := 2) rfl rfl (by decide) (by decide))))))))
abbrev s_unlike : Stmt := topS 25
theorem sc_unlike : FnScope ["one", "other", "net", "cell", "inside", "mine", "number"] ["one", "other"] (defScope s_unlike) := ⟨rfl, rfl, rfl, by decide +kernel, rfl, by decide +kernel, by decide +kernel⟩
theorem ok_unlike {Γ : Gam} (B : Bl Γ) {f : Addr} {fd : FuncData} (Fn : Fun Γ.K "unlike" "unlike" s_unlike f fd) (hm : Γ.mg "unlike" = some (.ref f)) (C : NetC (Γ.at 7)) (h_Net : HasN (Γ.at 7) "Net" c_Net) (m_point_in : HasM (Γ.at 7) "point_in" c_Net_point_in) : HasD (Γ.at 8) "unlike" c_unlike := by
  refine hasD (Γ := Γ) (k := 7) (F := F_unlike) (ps := ["one", "other"]) Fn hm (Fn.binds (ps := ["one", "other"]) fun _ _ _ _ _ _ us hl => match us, hl with | [_, _], _ => rfl) sc_unlike ?_
  delta F_unlike
  exact (ss_cons (s_set (i := 2) sc_unlike.nd rfl rfl (d_make h_Net rfl (by decide) (d_add (d_nb (i := 0) rfl rfl (by decide) (by decide)) (d_nb (i := 1) rfl rfl (by decide) (by decide)))))
  (ss_cons (s_for (i_items (d_inside C (d_nb (i := 2) rfl rfl (by decide) (by decide)))) (g_tup (gs_cons (i := 3) sc_unlike.nd rfl rfl (gs_cons (i := 4) sc_unlike.nd rfl rfl gs_nil)))
  (ss_cons (s_setL (i := 5) sc_unlike.nd rfl rfl rfl (d_lc (own := [("number", 6)]) sc_unlike.nd (by decide +kernel) (i_seq (d_nm (i := 4) rfl rfl (by decide) (by decide))) (g_one (i := 6) sc_unlike.nd rfl rfl) (by decide) (ts_one (t_c (d_lt (d_nb (i := 6) rfl rfl (by decide) (by decide)) (d_len rfl B.len (d_nb (i := 0) rfl rfl (by decide) (by decide)))))) (d_nm (i := 6) rfl rfl (by decide) (by decide))))
  (ss_one (s_if (t_c (d_ne (DC.toE (d_gt (d_len rfl B.len (d_nb (i := 5) rfl rfl (by decide) (by decide))) d_int)) (DC.toE (d_gt (d_len rfl B.len (d_nb (i := 4) rfl rfl (by decide) (by decide))) (d_len rfl B.len (d_nb (i := 5) rfl rfl (by decide) (by decide)))))))
  (ss_one (s_ret (d_meth C m_point_in (d_nb (i := 2) rfl rfl (by decide) (by decide)) (a_cons (d_nm (i := 3) rfl rfl (by decide) (by decide)) a_nil))))
  ss_nil))))
  (ss_one (s_ret d_non))))
abbrev s_faces : Stmt := topS 29
theorem sc_faces : FnScope ["sheet", "net", "found", "group", "cell"] ["sheet"] (defScope s_faces) := ⟨rfl, rfl, rfl, by decide +kernel, rfl, by decide +kernel, by decide +kernel⟩
theorem ok_faces {Γ : Gam} (B : Bl Γ) {f : Addr} {fd : FuncData} (Fn : Fun Γ.K "faces" "faces" s_faces f fd) (hm : Γ.mg "faces" = some (.ref f)) (C : NetC (Γ.at 7)) (h_Net : HasN (Γ.at 7) "Net" c_Net) (h_face_groups : HasD (Γ.at 7) "face_groups" c_face_groups) (h_is_outermost : HasD (Γ.at 7) "is_outermost" c_is_outermost) (m_area : HasM (Γ.at 7) "area" c_Net_area) : HasD (Γ.at 8) "faces" c_faces := by
  refine hasD (Γ := Γ) (k := 7) (F := F_faces) (ps := ["sheet"]) Fn hm (Fn.binds (ps := ["sheet"]) fun _ _ _ _ _ _ us hl => match us, hl with | [_], _ => rfl) sc_faces ?_
  delta F_faces
  exact (ss_cons (s_set (i := 1) sc_faces.nd rfl rfl (d_make h_Net rfl (by decide) (d_nm (i := 0) rfl rfl (by decide) (by decide))))
  (ss_cons (s_own (i := 2) sc_faces.nd rfl rfl (d_lst a_nil))
  (ss_cons (s_for (i_seq (d_call h_face_groups rfl (by decide) (a_cons (d_nm (i := 1) rfl rfl (by decide) (by decide)) a_nil))) (g_one (i := 3) sc_faces.nd rfl rfl)
  (ss_one (s_if (t_not (t_v (d_call h_is_outermost rfl (by decide) (a_cons (d_nm (i := 1) rfl rfl (by decide) (by decide)) (a_cons (d_nm (i := 3) rfl rfl (by decide) (by decide)) a_nil)))))
  (ss_one (s_app (i := 2) rfl rfl (by decide) (by decide) (d_tup (a_cons (d_ix (d_inside C (d_nb (i := 1) rfl rfl (by decide) (by decide))) (d_ix (d_nb (i := 3) rfl rfl (by decide) (by decide)) d_int)) (a_cons (d_sum rfl B.sum (DL.f (d_lc (own := [("cell", 4)]) sc_faces.nd (by decide +kernel) (i_seq (d_nm (i := 3) rfl rfl (by decide) (by decide))) (g_one (i := 4) sc_faces.nd rfl rfl) (by decide) ts_nil (d_meth C m_area (d_nb (i := 1) rfl rfl (by decide) (by decide)) (a_cons (d_nm (i := 4) rfl rfl (by decide) (by decide)) a_nil))))) a_nil)))))
  ss_nil)))
  (ss_one (s_ret (d_tuple rfl B.tuple (d_sorted rfl B.sorted (d_nb (i := 2) rfl rfl (by decide) (by decide)))))))))
abbrev s_lands : Stmt := topS 32
theorem sc_lands : FnScope ["sheet", "net", "marks", "group"] ["sheet"] (defScope s_lands) := ⟨rfl, rfl, rfl, by decide +kernel, rfl, by decide +kernel, by decide +kernel⟩
theorem ok_lands {Γ : Gam} (B : Bl Γ) {f : Addr} {fd : FuncData} (Fn : Fun Γ.K "lands" "lands" s_lands f fd) (hm : Γ.mg "lands" = some (.ref f)) (C : NetC (Γ.at 7)) (h_Net : HasN (Γ.at 7) "Net" c_Net) (h_covered : HasD (Γ.at 7) "covered" c_covered) (h_hanging : HasD (Γ.at 7) "hanging" c_hanging) : HasD (Γ.at 8) "lands" c_lands := by
  refine hasD (Γ := Γ) (k := 7) (F := F_lands) (ps := ["sheet"]) Fn hm (Fn.binds (ps := ["sheet"]) fun _ _ _ _ _ _ us hl => match us, hl with | [_], _ => rfl) sc_lands ?_
  delta F_lands
  exact (ss_cons (s_set (i := 1) sc_lands.nd rfl rfl (d_make h_Net rfl (by decide) (d_nm (i := 0) rfl rfl (by decide) (by decide))))
  (ss_cons (s_set (i := 2) sc_lands.nd rfl rfl (d_call h_covered rfl (by decide) (a_cons (d_nm (i := 1) rfl rfl (by decide) (by decide)) a_nil)))
  (ss_one (s_ret (d_len rfl B.len (DL.f (d_lc (own := [("group", 3)]) sc_lands.nd (by decide +kernel) (i_seq (d_call h_hanging rfl (by decide) (a_cons (d_nm (i := 1) rfl rfl (by decide) (by decide)) (a_cons (d_nm (i := 2) rfl rfl (by decide) (by decide)) a_nil)))) (g_one (i := 3) sc_lands.nd rfl rfl) (by decide) (ts_one (t_v (d_ix (d_nb (i := 2) rfl rfl (by decide) (by decide)) (d_ix (d_nb (i := 3) rfl rfl (by decide) (by decide)) d_int)))) (d_nm (i := 3) rfl rfl (by decide) (by decide)))))))))
abbrev s_holes : Stmt := topS 33
theorem sc_holes : FnScope ["sheet", "net", "marks", "group"] ["sheet"] (defScope s_holes) := ⟨rfl, rfl, rfl, by decide +kernel, rfl, by decide +kernel, by decide +kernel⟩
theorem ok_holes {Γ : Gam} (B : Bl Γ) {f : Addr} {fd : FuncData} (Fn : Fun Γ.K "holes" "holes" s_holes f fd) (hm : Γ.mg "holes" = some (.ref f)) (C : NetC (Γ.at 7)) (h_Net : HasN (Γ.at 7) "Net" c_Net) (h_covered : HasD (Γ.at 7) "covered" c_covered) (h_hanging : HasD (Γ.at 7) "hanging" c_hanging) : HasD (Γ.at 8) "holes" c_holes := by
  refine hasD (Γ := Γ) (k := 7) (F := F_holes) (ps := ["sheet"]) Fn hm (Fn.binds (ps := ["sheet"]) fun _ _ _ _ _ _ us hl => match us, hl with | [_], _ => rfl) sc_holes ?_
  delta F_holes
  exact (ss_cons (s_set (i := 1) sc_holes.nd rfl rfl (d_make h_Net rfl (by decide) (d_nm (i := 0) rfl rfl (by decide) (by decide))))
  (ss_cons (s_set (i := 2) sc_holes.nd rfl rfl (d_call h_covered rfl (by decide) (a_cons (d_nm (i := 1) rfl rfl (by decide) (by decide)) a_nil)))
  (ss_one (s_ret (d_sub (d_len rfl B.len (DL.f (d_lc (own := [("group", 3)]) sc_holes.nd (by decide +kernel) (i_seq (d_call h_hanging rfl (by decide) (a_cons (d_nm (i := 1) rfl rfl (by decide) (by decide)) (a_cons (d_nm (i := 2) rfl rfl (by decide) (by decide)) a_nil)))) (g_one (i := 3) sc_holes.nd rfl rfl) (by decide) (ts_one (t_not (t_v (d_ix (d_nb (i := 2) rfl rfl (by decide) (by decide)) (d_ix (d_nb (i := 3) rfl rfl (by decide) (by decide)) d_int))))) (d_nm (i := 3) rfl rfl (by decide) (by decide))))) d_int)))))
abbrev s_border : Stmt := topS 34
theorem sc_border : FnScope ["sheet", "net", "marks", "arcs", "lines", "k", "n"] ["sheet"] (defScope s_border) := ⟨rfl, rfl, rfl, by decide +kernel, rfl, by decide +kernel, by decide +kernel⟩
theorem ok_border {Γ : Gam} (B : Bl Γ) {f : Addr} {fd : FuncData} (Fn : Fun Γ.K "border" "border" s_border f fd) (hm : Γ.mg "border" = some (.ref f)) (C : NetC (Γ.at 7)) (h_Net : HasN (Γ.at 7) "Net" c_Net) (h_covered : HasD (Γ.at 7) "covered" c_covered) (m_bounded : HasM (Γ.at 7) "bounded" c_Net_bounded) (m_width : HasM (Γ.at 7) "width" c_Net_width) : HasD (Γ.at 8) "border" c_border := by
  refine hasD (Γ := Γ) (k := 7) (F := F_border) (ps := ["sheet"]) Fn hm (Fn.binds (ps := ["sheet"]) fun _ _ _ _ _ _ us hl => match us, hl with | [_], _ => rfl) sc_border ?_
  delta F_border
  exact (ss_cons (s_set (i := 1) sc_border.nd rfl rfl (d_make h_Net rfl (by decide) (d_nm (i := 0) rfl rfl (by decide) (by decide))))
  (ss_cons (s_set (i := 2) sc_border.nd rfl rfl (d_call h_covered rfl (by decide) (a_cons (d_nm (i := 1) rfl rfl (by decide) (by decide)) a_nil)))
  (ss_cons (s_set (i := 3) sc_border.nd rfl rfl d_int)
  (ss_cons (s_set (i := 4) sc_border.nd rfl rfl d_int)
  (ss_cons (s_for (i_seq (d_meth0 C m_bounded (d_nb (i := 1) rfl rfl (by decide) (by decide)))) (g_tup (gs_cons (i := 5) sc_border.nd rfl rfl (gs_cons (i := 6) sc_border.nd rfl rfl gs_nil)))
  (ss_cons (s_if (t_c (d_ne (d_ix (d_nb (i := 2) rfl rfl (by decide) (by decide)) (d_tup (a_cons (d_nm (i := 5) rfl rfl (by decide) (by decide)) (a_cons (d_nm (i := 6) rfl rfl (by decide) (by decide)) a_nil)))) (d_ix (d_nb (i := 2) rfl rfl (by decide) (by decide)) (d_tup (a_cons (d_add (d_nb (i := 5) rfl rfl (by decide) (by decide)) d_int) (a_cons (d_nm (i := 6) rfl rfl (by decide) (by decide)) a_nil))))))
  (ss_one (s_set (i := 3) sc_border.nd rfl rfl (d_add (d_nb (i := 3) rfl rfl (by decide) (by decide)) (d_mul (d_ix (d_fars C (d_nb (i := 1) rfl rfl (by decide) (by decide))) (d_add (d_nb (i := 5) rfl rfl (by decide) (by decide)) d_int)) (d_meth C m_width (d_nb (i := 1) rfl rfl (by decide) (by decide)) (a_cons (d_nm (i := 6) rfl rfl (by decide) (by decide)) a_nil))))))
  ss_nil)
  (ss_one (s_if (t_c (d_ne (d_ix (d_nb (i := 2) rfl rfl (by decide) (by decide)) (d_tup (a_cons (d_nm (i := 5) rfl rfl (by decide) (by decide)) (a_cons (d_nm (i := 6) rfl rfl (by decide) (by decide)) a_nil)))) (d_ix (d_nb (i := 2) rfl rfl (by decide) (by decide)) (d_tup (a_cons (d_nm (i := 5) rfl rfl (by decide) (by decide)) (a_cons (d_mod (d_add (d_nb (i := 6) rfl rfl (by decide) (by decide)) d_int) (d_len rfl B.len (d_turns C (d_nb (i := 1) rfl rfl (by decide) (by decide))))) a_nil))))))
  (ss_one (s_set (i := 4) sc_border.nd rfl rfl (d_sub (d_add (d_nb (i := 4) rfl rfl (by decide) (by decide)) (d_ix (d_fars C (d_nb (i := 1) rfl rfl (by decide) (by decide))) (d_add (d_nb (i := 5) rfl rfl (by decide) (by decide)) d_int))) (d_ix (d_fars C (d_nb (i := 1) rfl rfl (by decide) (by decide))) (d_nb (i := 5) rfl rfl (by decide) (by decide))))))
  ss_nil))))
  (ss_one (s_ret (d_tup (a_cons (d_nm (i := 3) rfl rfl (by decide) (by decide)) (a_cons (d_nm (i := 4) rfl rfl (by decide) (by decide)) a_nil))))))))))
abbrev s_covered_area : Stmt := topS 24
theorem sc_covered_area : FnScope ["sheet"] ["sheet"] (defScope s_covered_area) := ⟨rfl, rfl, rfl, by decide +kernel, rfl, by decide +kernel, by decide +kernel⟩
theorem ok_covered_area {Γ : Gam} (B : Bl Γ) {f : Addr} {fd : FuncData} (Fn : Fun Γ.K "covered_area" "covered_area" s_covered_area f fd) (hm : Γ.mg "covered_area" = some (.ref f)) (h_depth_areas : HasD (Γ.at 8) "depth_areas" c_depth_areas) : HasD (Γ.at 9) "covered_area" c_covered_area := by
  refine hasD (Γ := Γ) (k := 8) (F := F_covered_area) (ps := ["sheet"]) Fn hm (Fn.binds (ps := ["sheet"]) fun _ _ _ _ _ _ us hl => match us, hl with | [_], _ => rfl) sc_covered_area ?_
  delta F_covered_area
  exact (ss_one (s_ret (d_sum rfl B.sum (d_call h_depth_areas rfl (by decide) (a_cons (d_nm (i := 0) rfl rfl (by decide) (by decide)) a_nil)))))
abbrev s_face_count : Stmt := topS 30
theorem sc_face_count : FnScope ["sheet"] ["sheet"] (defScope s_face_count) := ⟨rfl, rfl, rfl, by decide +kernel, rfl, by decide +kernel, by decide +kernel⟩
theorem ok_face_count {Γ : Gam} (B : Bl Γ) {f : Addr} {fd : FuncData} (Fn : Fun Γ.K "face_count" "face_count" s_face_count f fd) (hm : Γ.mg "face_count" = some (.ref f)) (h_faces : HasD (Γ.at 8) "faces" c_faces) : HasD (Γ.at 9) "face_count" c_face_count := by
  refine hasD (Γ := Γ) (k := 8) (F := F_face_count) (ps := ["sheet"]) Fn hm (Fn.binds (ps := ["sheet"]) fun _ _ _ _ _ _ us hl => match us, hl with | [_], _ => rfl) sc_face_count ?_
  delta F_face_count
  exact (ss_one (s_ret (d_add (d_len rfl B.len (d_call h_faces rfl (by decide) (a_cons (d_nm (i := 0) rfl rfl (by decide) (by decide)) a_nil))) d_int)))
abbrev s__law_turned_right : Stmt := topS 44
theorem sc__law_turned_right : FnScope ["_law_sheet_here", "_law_by", "_law_times", "_law_other", "_law_glass", "_law_great", "_law_arcs", "_law_lines", "_law_some", "_law_by_area", "_law_a", "_law_b", "_law_begin", "_law_wide", "_law_one", "_law_inside", "_law_area_here"] ["_law_sheet_here", "_law_by", "_law_times"] (defScope s__law_turned_right) := ⟨rfl, rfl, rfl, by decide +kernel, rfl, by decide +kernel, by decide +kernel⟩
theorem ok__law_turned_right {Γ : Gam} (B : Bl Γ) {f : Addr} {fd : FuncData} (Fn : Fun Γ.K "_law_turned_right" "_law_turned_right" s__law_turned_right f fd) (hm : Γ.mg "_law_turned_right" = some (.ref f)) (h_turned : HasD (Γ.at 9) "turned" c_turned) (h_mirrored : HasD (Γ.at 9) "mirrored" c_mirrored) (h_grown : HasD (Γ.at 9) "grown" c_grown) (h_border : HasD (Γ.at 9) "border" c_border) (h_depth_areas : HasD (Γ.at 9) "depth_areas" c_depth_areas) (h_face_count : HasD (Γ.at 9) "face_count" c_face_count) (h_lands : HasD (Γ.at 9) "lands" c_lands) (h_holes : HasD (Γ.at 9) "holes" c_holes) (h_faces : HasD (Γ.at 9) "faces" c_faces) : HasD (Γ.at 10) "_law_turned_right" c__law_turned_right := by
  refine hasD (Γ := Γ) (k := 9) (F := F__law_turned_right) (ps := ["_law_sheet_here", "_law_by", "_law_times"]) Fn hm (Fn.binds (ps := ["_law_sheet_here", "_law_by", "_law_times"]) fun _ _ _ _ _ _ us hl => match us, hl with | [_, _, _], _ => rfl) sc__law_turned_right ?_
  delta F__law_turned_right
  exact (ss_cons (s_set (i := 3) sc__law_turned_right.nd rfl rfl (d_call h_turned rfl (by decide) (a_cons (d_nm (i := 0) rfl rfl (by decide) (by decide)) (a_cons (d_nm (i := 1) rfl rfl (by decide) (by decide)) a_nil))))
  (ss_cons (s_set (i := 4) sc__law_turned_right.nd rfl rfl (d_call h_mirrored rfl (by decide) (a_cons (d_nm (i := 0) rfl rfl (by decide) (by decide)) a_nil)))
  (ss_cons (s_set (i := 5) sc__law_turned_right.nd rfl rfl (d_call h_grown rfl (by decide) (a_cons (d_nm (i := 0) rfl rfl (by decide) (by decide)) (a_cons (d_nm (i := 2) rfl rfl (by decide) (by decide)) a_nil))))
  (ss_cons (s_if (t_c (d_ne (d_nb (i := 3) rfl rfl (by decide) (by decide)) (d_tuple rfl B.tuple (DL.f (d_lc (own := [("_law_a", 10), ("_law_b", 11), ("_law_begin", 12), ("_law_wide", 13)]) sc__law_turned_right.nd (by decide +kernel) (i_seq (d_nm (i := 0) rfl rfl (by decide) (by decide))) (g_tup (gs_cons (i := 10) sc__law_turned_right.nd rfl rfl (gs_cons (i := 11) sc__law_turned_right.nd rfl rfl (gs_cons (i := 12) sc__law_turned_right.nd rfl rfl (gs_cons (i := 13) sc__law_turned_right.nd rfl rfl gs_nil))))) (by decide) ts_nil (d_tup (a_cons (d_nm (i := 10) rfl rfl (by decide) (by decide)) (a_cons (d_nm (i := 11) rfl rfl (by decide) (by decide)) (a_cons (d_mod (d_add (d_nb (i := 12) rfl rfl (by decide) (by decide)) (d_nb (i := 1) rfl rfl (by decide) (by decide))) d_int) (a_cons (d_nm (i := 13) rfl rfl (by decide) (by decide)) a_nil))))))))))
  (ss_one (s_ret d_bl))
  ss_nil)
  (ss_cons (s_if (t_c (d_ne (d_nb (i := 4) rfl rfl (by decide) (by decide)) (d_tuple rfl B.tuple (DL.f (d_lc (own := [("_law_a", 10), ("_law_b", 11), ("_law_begin", 12), ("_law_wide", 13)]) sc__law_turned_right.nd (by decide +kernel) (i_seq (d_nm (i := 0) rfl rfl (by decide) (by decide))) (g_tup (gs_cons (i := 10) sc__law_turned_right.nd rfl rfl (gs_cons (i := 11) sc__law_turned_right.nd rfl rfl (gs_cons (i := 12) sc__law_turned_right.nd rfl rfl (gs_cons (i := 13) sc__law_turned_right.nd rfl rfl gs_nil))))) (by decide) ts_nil (d_tup (a_cons (d_nm (i := 10) rfl rfl (by decide) (by decide)) (a_cons (d_nm (i := 11) rfl rfl (by decide) (by decide)) (a_cons (d_mod (d_sub (d_sub d_int (d_nb (i := 12) rfl rfl (by decide) (by decide))) (d_nb (i := 13) rfl rfl (by decide) (by decide))) d_int) (a_cons (d_nm (i := 13) rfl rfl (by decide) (by decide)) a_nil))))))))))
  (ss_one (s_ret d_bl))
  ss_nil)
  (ss_cons (s_if (t_c (d_ne (d_nb (i := 5) rfl rfl (by decide) (by decide)) (d_tuple rfl B.tuple (DL.f (d_lc (own := [("_law_a", 10), ("_law_b", 11), ("_law_begin", 12), ("_law_wide", 13)]) sc__law_turned_right.nd (by decide +kernel) (i_seq (d_nm (i := 0) rfl rfl (by decide) (by decide))) (g_tup (gs_cons (i := 10) sc__law_turned_right.nd rfl rfl (gs_cons (i := 11) sc__law_turned_right.nd rfl rfl (gs_cons (i := 12) sc__law_turned_right.nd rfl rfl (gs_cons (i := 13) sc__law_turned_right.nd rfl rfl gs_nil))))) (by decide) ts_nil (d_tup (a_cons (d_mul (d_nb (i := 10) rfl rfl (by decide) (by decide)) (d_nb (i := 2) rfl rfl (by decide) (by decide))) (a_cons (d_mul (d_nb (i := 11) rfl rfl (by decide) (by decide)) (d_nb (i := 2) rfl rfl (by decide) (by decide))) (a_cons (d_nm (i := 12) rfl rfl (by decide) (by decide)) (a_cons (d_nm (i := 13) rfl rfl (by decide) (by decide)) a_nil))))))))))
  (ss_one (s_ret d_bl))
  ss_nil)
  (ss_cons (s_bind (d_call h_border rfl (by decide) (a_cons (d_nm (i := 0) rfl rfl (by decide) (by decide)) a_nil)) (g_tup (gs_cons (i := 6) sc__law_turned_right.nd rfl rfl (gs_cons (i := 7) sc__law_turned_right.nd rfl rfl gs_nil))))
  (ss_cons (s_for (i_seq (DV.toE (d_lst (a_cons (d_nm (i := 3) rfl rfl (by decide) (by decide)) (a_cons (d_nm (i := 4) rfl rfl (by decide) (by decide)) (a_cons (d_nm (i := 5) rfl rfl (by decide) (by decide)) a_nil)))))) (g_one (i := 8) sc__law_turned_right.nd rfl rfl)
  (ss_cons (s_set (i := 9) sc__law_turned_right.nd rfl rfl d_int)
  (ss_cons (s_if (t_c (d_eq (d_nb (i := 8) rfl rfl (by decide) (by decide)) (d_nb (i := 5) rfl rfl (by decide) (by decide))))
  (ss_one (s_set (i := 9) sc__law_turned_right.nd rfl rfl (d_mul (d_nb (i := 2) rfl rfl (by decide) (by decide)) (d_nb (i := 2) rfl rfl (by decide) (by decide)))))
  ss_nil)
  (ss_cons (s_if (t_c (d_ne (d_call h_depth_areas rfl (by decide) (a_cons (d_nm (i := 8) rfl rfl (by decide) (by decide)) a_nil)) (d_tuple rfl B.tuple (DL.f (d_lc (own := [("_law_one", 14)]) sc__law_turned_right.nd (by decide +kernel) (i_seq (d_call h_depth_areas rfl (by decide) (a_cons (d_nm (i := 0) rfl rfl (by decide) (by decide)) a_nil))) (g_one (i := 14) sc__law_turned_right.nd rfl rfl) (by decide) ts_nil (d_mul (d_nb (i := 14) rfl rfl (by decide) (by decide)) (d_nb (i := 9) rfl rfl (by decide) (by decide))))))))
  (ss_one (s_ret d_bl))
  ss_nil)
  (ss_cons (s_if (t_c (d_ne (d_tup (a_cons (d_call h_face_count rfl (by decide) (a_cons (d_nm (i := 8) rfl rfl (by decide) (by decide)) a_nil)) (a_cons (d_call h_lands rfl (by decide) (a_cons (d_nm (i := 8) rfl rfl (by decide) (by decide)) a_nil)) (a_cons (d_call h_holes rfl (by decide) (a_cons (d_nm (i := 8) rfl rfl (by decide) (by decide)) a_nil)) a_nil)))) (d_tup (a_cons (d_call h_face_count rfl (by decide) (a_cons (d_nm (i := 0) rfl rfl (by decide) (by decide)) a_nil)) (a_cons (d_call h_lands rfl (by decide) (a_cons (d_nm (i := 0) rfl rfl (by decide) (by decide)) a_nil)) (a_cons (d_call h_holes rfl (by decide) (a_cons (d_nm (i := 0) rfl rfl (by decide) (by decide)) a_nil)) a_nil))))))
  (ss_one (s_ret d_bl))
  ss_nil)
  (ss_one (s_if (t_c (d_ne (d_sortedN rfl B.sorted (DL.f (d_lc (own := [("_law_inside", 15), ("_law_area_here", 16)]) sc__law_turned_right.nd (by decide +kernel) (i_seq (d_call h_faces rfl (by decide) (a_cons (d_nm (i := 8) rfl rfl (by decide) (by decide)) a_nil))) (g_tup (gs_cons (i := 15) sc__law_turned_right.nd rfl rfl (gs_cons (i := 16) sc__law_turned_right.nd rfl rfl gs_nil))) (by decide) ts_nil (d_nm (i := 16) rfl rfl (by decide) (by decide))))) (d_sortedN rfl B.sorted (DL.f (d_lc (own := [("_law_inside", 15), ("_law_area_here", 16)]) sc__law_turned_right.nd (by decide +kernel) (i_seq (d_call h_faces rfl (by decide) (a_cons (d_nm (i := 0) rfl rfl (by decide) (by decide)) a_nil))) (g_tup (gs_cons (i := 15) sc__law_turned_right.nd rfl rfl (gs_cons (i := 16) sc__law_turned_right.nd rfl rfl gs_nil))) (by decide) ts_nil (d_mul (d_nb (i := 16) rfl rfl (by decide) (by decide)) (d_nb (i := 9) rfl rfl (by decide) (by decide))))))))
  (ss_one (s_ret d_bl))
  ss_nil)))))))
  (ss_cons (s_if (t_c (d_ne (d_call h_border rfl (by decide) (a_cons (d_nm (i := 5) rfl rfl (by decide) (by decide)) a_nil)) (d_tup (a_cons (d_mul (d_nb (i := 6) rfl rfl (by decide) (by decide)) (d_nb (i := 2) rfl rfl (by decide) (by decide))) (a_cons (d_mul (d_nb (i := 7) rfl rfl (by decide) (by decide)) (d_nb (i := 2) rfl rfl (by decide) (by decide))) a_nil)))))
  (ss_one (s_ret d_bl))
  ss_nil)
  (ss_one (s_ret (d_and (DC.toE (d_eq (d_call h_border rfl (by decide) (a_cons (d_nm (i := 3) rfl rfl (by decide) (by decide)) a_nil)) (d_tup (a_cons (d_nm (i := 6) rfl rfl (by decide) (by decide)) (a_cons (d_nm (i := 7) rfl rfl (by decide) (by decide)) a_nil))))) (d_one (DC.toE (d_eq (d_call h_border rfl (by decide) (a_cons (d_nm (i := 4) rfl rfl (by decide) (by decide)) a_nil)) (d_tup (a_cons (d_nm (i := 6) rfl rfl (by decide) (by decide)) (a_cons (d_nm (i := 7) rfl rfl (by decide) (by decide)) a_nil))))))))))))))))))
abbrev s_pieces_where : Stmt := topS 18
theorem sc_pieces_where : FnScope ["net", "is_wished", "found", "cell", "k", "n"] ["net", "is_wished"] (defScope s_pieces_where) := ⟨rfl, rfl, rfl, by decide +kernel, rfl, by decide +kernel, by decide +kernel⟩
abbrev s_plain : Stmt := topS 19
theorem sc_plain : FnScope ["sheet"] ["sheet"] (defScope s_plain) := ⟨rfl, rfl, rfl, by decide +kernel, rfl, by decide +kernel, by decide +kernel⟩
abbrev s_both_of : Stmt := topS 20
theorem sc_both_of : FnScope ["one", "other", "many", "net"] ["one", "other"] (defScope s_both_of) := ⟨rfl, rfl, rfl, by decide +kernel, rfl, by decide +kernel, by decide +kernel⟩
abbrev s_cut_out : Stmt := topS 21
theorem sc_cut_out : FnScope ["one", "other", "many", "net"] ["one", "other"] (defScope s_cut_out) := ⟨rfl, rfl, rfl, by decide +kernel, rfl, by decide +kernel, by decide +kernel⟩
end Pv
set_option Elab.async false
set_option linter.all false
set_option maxRecDepth 100000
set_option maxHeartbeats 4000000
set_option autoImplicit false
namespace Pv
variable [TabT]
open PySem PySem.Spec PyProof.Rows L2 LamX NdefX
/-! ### the defs with function values -/
section
variable {Γ : Gam} {N : List Str} {sc : Scope} {G H : Hp}
theorem sem_seqS {t1 t2 : TS} {F K : Env → Option Res} (s1 : SemS Γ t1 F) (s2 : SemS Γ t2 K) : SemS Γ (tSeq t1 t2) (sseq F K) := fun G0 H0 ρ σ G H De r g E e q1 q2 => by
  unfold sseq at e
  cases ef : F ρ with
  | none => rw [ef] at e; cases e
  | some r1 =>
    rw [ef] at e
    refine s1 G0 H0 ρ σ G H _ r1 g E ef (fun ρ' G' H' σ' er g' sl E' => ?_) fun d G' H' v er g' rr => ?_
    · subst er
      exact s2 G0 H0 ρ' σ' G' H' De r g' E' e (fun ρ2 G2 H2 σ2 e2 g2 sl2 E2 => q1 ρ2 G2 H2 σ2 e2 g2 (sl.trans sl2) E2) q2
    · subst er
      cases e
      exact q2 d G' H' v rfl g' rr
theorem sem_ifS {tc : TT} {ta tb : TS} {fc : Env → Option Bool} {fa fb : Env → Option Res} (sc1 : SemT Γ tc fc) (sa : SemS Γ ta fa) (sb : SemS Γ tb fb) : SemS Γ (tIfS tc ta tb) (sif fc fa fb) := fun G0 H0 ρ σ G H De r g E e q1 q2 => by
  unfold sif at e
  cases ec : fc ρ with
  | none => rw [ec] at e; cases e
  | some k =>
    rw [ec] at e
    refine sc1 H0 ρ σ G H _ k g.s E ec fun G1 H1 g1 => ?_
    cases k with
    | true => rw [if_pos rfl]; exact sa G0 H0 ρ σ G1 H1 De r (g.trans g1) (E.grow g1) e (fun ρ2 G2 H2 σ2 e2 g2 sl2 E2 => q1 ρ2 G2 H2 σ2 e2 g2 (g1.g.trans sl2) E2) q2
    | false => rw [if_neg Bool.false_ne_true]; exact sb G0 H0 ρ σ G1 H1 De r (g.trans g1) (E.grow g1) e (fun ρ2 G2 H2 σ2 e2 g2 sl2 E2 => q1 ρ2 G2 H2 σ2 e2 g2 (g1.g.trans sl2) E2) q2
theorem sem_retS {t : TE} {a : Env → Option D} (sa : SemV Γ .e t a) : SemS Γ (tRet t) (sret a) := fun G0 H0 ρ σ G H De r g E e q1 q2 => by
  unfold sret at e
  cases ea : a ρ with
  | none => rw [ea] at e; cases e
  | some d =>
    rw [ea] at e
    cases e
    exact sa H0 ρ σ G H _ d g.s E ea fun G1 H1 v g1 o1 => q2 d G1 H1 v rfl (g.trans g1) o1
theorem sem_nilS : SemS Γ tNext snx := fun G0 H0 ρ σ G H De r g E e q1 q2 => by cases e; exact q1 ρ G H σ rfl g (SL.refl _) E
theorem sem_forS {wi : TI} {gt : TG} {tb : TS} {I : Env → Option (List D)} {p : Pat} {b : Env → Option Res} (si : SemI Γ wi I) (sg : SemG Γ gt p) (sb : SemS Γ tb b) : SemS Γ (tFor wi gt tb) (sfor I p b) := fun G0 H0 ρ σ G H De r g E e q1 q2 => by
  unfold sfor at e
  cases ei : I ρ with
  | none => rw [ei] at e; cases e
  | some items =>
    rw [ei] at e
    have e : forD p b items ρ = some r := e
    refine si H0 ρ σ G H _ items g.s E ei fun J Gp Y G1 H1 g1 wk hGp hY => ?_
    refine for_it wk (fun i σ' H' => ∃ G' ρ', Grow G0 H0 G' H' ∧ SL G1 G' ∧ EnvOk Γ H0 G' H' ρ' σ' ∧ forD p b (items.drop i) ρ' = some r) ⟨G1, ρ, g.trans g1, SL.refl _, E.grow g1, by rw [List.drop_zero]; exact e⟩ (fun i σ' H' _ h => ?_) (fun i x σ2 H2 H3 hlt h y => ?_) fun σ' H' h => ?_
    · obtain ⟨G', ρ', g2, s1, _⟩ := h
      exact hGp G' H' s1 g2.s
    · obtain ⟨G2, ρ2, g2, s2, E2, h2⟩ := h
      obtain ⟨G3, d, hd, g3, r3⟩ := hY i H2 x H3 G2 hlt s2 g2.s y
      have hdrop : items.drop i = d :: items.drop (i + 1) := by
        obtain ⟨hl, e1⟩ := List.getElem?_eq_some_iff.mp hd
        rw [List.drop_eq_getElem_cons hl, e1]
      rw [hdrop] at h2
      have h2 : ((bindP p d ρ2).bind fun ρ1 => (b ρ1).bind fun r => match r with
        | .nx ρ' => forD p b (items.drop (i + 1)) ρ'
        | .rt d => some (.rt d)) = some r := h2
      cases eb : bindP p d ρ2 with
      | none => rw [eb] at h2; cases h2
      | some ρ3 =>
        simp only [eb, Option.bind_some] at h2
        cases er : b ρ3 with
        | none => rw [er] at h2; cases h2
        | some r3' =>
          simp only [er, Option.bind_some] at h2
          refine sg H0 ρ2 ρ3 σ2 G3 H3 x d _ g3.s (E2.grow g3) eb r3 fun vs E3 => ?_
          refine sb G0 H0 ρ3 _ G3 H3 _ r3' (g2.trans g3) E3 er (fun ρ4 G4 H4 σ4 e4 g4 s4 E4 => ?_) fun d' G4 H4 v4 e4 g4 r4 => ?_
          · subst e4
            exact ⟨G4, ρ4, g4, (s2.trans g3.g).trans s4, E4, h2⟩
          · subst e4
            cases h2
            exact q2 d' G4 H4 v4 rfl g4 r4
    · obtain ⟨G2, ρ2, g2, s2, E2, h2⟩ := h
      rw [List.drop_length] at h2
      cases h2
      exact q1 ρ2 G2 H' σ' rfl g2 (g1.g.trans s2) E2
end
/-! the statements by their places -/
abbrev stA (l : List Stmt) (i : Nat) : Stmt := l.getD i (.Pass ⟨0, 0, 0, 0⟩)
abbrev forB : Stmt → List Stmt
  | .For _ _ b _ _ => b
  | _ => []
abbrev forT : Stmt → Expr
  | .For t _ _ _ _ => t
  | _ => .Name "" ⟨0, 0, 0, 0⟩
abbrev forI : Stmt → Expr
  | .For _ t _ _ _ => t
  | _ => .Name "" ⟨0, 0, 0, 0⟩
abbrev ifC : Stmt → Expr
  | .If t _ _ _ => t
  | _ => .Name "" ⟨0, 0, 0, 0⟩
abbrev ifT : Stmt → List Stmt
  | .If _ b _ _ => b
  | _ => []
abbrev callA : Expr → List Expr
  | .Call _ es _ _ => es
  | _ => []
abbrev argE : Expr → Nat → Expr
  | .Call _ es _ _, i => es.getD i (.Name "" ⟨0, 0, 0, 0⟩)
  | _, _ => .Name "" ⟨0, 0, 0, 0⟩
abbrev retE : Stmt → Expr
  | .Return (some e) _ => e
  | _ => .Name "" ⟨0, 0, 0, 0⟩
abbrev lamB : Expr → Expr
  | .Lambda _ b _ _ => b
  | _ => .Name "" ⟨0, 0, 0, 0⟩
abbrev lamS : Expr → Scope
  | .Lambda _ _ s _ => s
  | _ => defScope (.Pass ⟨0, 0, 0, 0⟩)
abbrev lamP : Expr → Arguments
  | .Lambda p _ _ _ => p
  | _ => defArgs (.Pass ⟨0, 0, 0, 0⟩)
abbrev bpw : List Stmt := defBody s_pieces_where
abbrev spw : Scope := defScope s_pieces_where
section
variable {Γ : Gam}
theorem pw_0 : DS (Γ.at 1) N_pw spw (stA bpw 0) L_pw0 := (s_own (i := 2) sc_pieces_where.nd rfl rfl (d_lst a_nil))
theorem pw_I (B : Bl Γ) (C : NetC (Γ.at 1)) (m_bounded : HasM (Γ.at 1) "bounded" c_Net_bounded) : DI (Γ.at 1) N_pw spw (forT (stA bpw 1)) (forI (stA bpw 1)) L_pwI := by
  delta L_pwI
  exact (i_seq (DV.toE (d_sortedC rfl B.sorted (d_meth0 C m_bounded (d_nb (i := 0) rfl rfl (by decide) (by decide))))))
theorem pw_G : DG (Γ.at 1) N_pw spw true (forT (stA bpw 1)) (.one 3) := (g_one (i := 3) sc_pieces_where.nd rfl rfl)
theorem pw_A (C : NetC (Γ.at 1)) : DA (Γ.at 1) N_pw spw (callA (ifC (stA (forB (stA bpw 1)) 0))) L_pwA := by
  delta L_pwA
  exact (a_cons (d_ix (d_inside C (d_nb (i := 0) rfl rfl (by decide) (by decide))) (d_nb (i := 3) rfl rfl (by decide) (by decide))) a_nil)
theorem pw_B (C : NetC (Γ.at 1)) (m_width : HasM (Γ.at 1) "width" c_Net_width) : DSs (Γ.at 1) N_pw spw (ifT (stA (forB (stA bpw 1)) 0)) L_pwB := by
  delta L_pwB
  exact (ss_cons (s_bind (d_nm (i := 3) rfl rfl (by decide) (by decide)) (g_tup (gs_cons (i := 4) sc_pieces_where.nd rfl rfl (gs_cons (i := 5) sc_pieces_where.nd rfl rfl gs_nil))))
  (ss_one (s_app (i := 2) rfl rfl (by decide) (by decide) (d_tup (a_cons (d_ix (d_fars C (d_nb (i := 0) rfl rfl (by decide) (by decide))) (d_nb (i := 4) rfl rfl (by decide) (by decide))) (a_cons (d_ix (d_fars C (d_nb (i := 0) rfl rfl (by decide) (by decide))) (d_add (d_nb (i := 4) rfl rfl (by decide) (by decide)) d_int)) (a_cons (d_ix (d_turns C (d_nb (i := 0) rfl rfl (by decide) (by decide))) (d_nb (i := 5) rfl rfl (by decide) (by decide))) (a_cons (d_meth C m_width (d_nb (i := 0) rfl rfl (by decide) (by decide)) (a_cons (d_nm (i := 5) rfl rfl (by decide) (by decide)) a_nil)) a_nil))))))))
theorem pw_R (B : Bl Γ) : DSs (Γ.at 1) N_pw spw (bpw.drop 2) L_pwR := by
  delta L_pwR
  exact (ss_one (s_ret (d_tuple rfl B.tuple (d_nb (i := 2) rfl rfl (by decide) (by decide)))))
/-- what pieces_where makes of a net and a function value -/
def PWc (Γ : Gam) (q : Str) (Nl : List Str) (Fb : Env → Option D) (c' : Addr) (ws : List (Option V)) (v1 : V) (H : Hp) (Q : VK) : Prop := ∃ (G : Hp) (n d : D) (vms : List V) (ms : List D), SL G H ∧ TbH H ∧ Rep Γ.K Γ.C G v1 n ∧ G c' = some (CodeO c' q) ∧ ws = vms.map some ∧ (∀ G, RepL Γ.K Γ.C G vms ms) ∧
  c_pw (fun x => Fb (startE Nl (x :: ms))) n = some d ∧ ∀ G' H' v, Grow G H G' H' → Rep Γ.K Γ.C G' v d → Q v H'
theorem startF_eq {Nl : List Str} {v : V} {vms : List V} : startF Nl [v] (vms.map some) = L2.start Nl (v :: vms) := by
  unfold startF L2.start
  simp [Nat.sub_sub, Nat.add_comm]
theorem pw_body (B : Bl Γ) (C : NetC (Γ.at 1)) (m_bounded : HasM (Γ.at 1) "bounded" c_Net_bounded) (m_width : HasM (Γ.at 1) "width" c_Net_width) {X : Cx} (hP : X.prog = Γ.P) (hw : X.w = Γ.w) (hK : X.K = Γ.K) (hm : X.mg = Γ.mg) (hb : X.base = Γ.base)
    {s : Shared} {H : Hp} {f c' g : Addr} {q : Str} {params : Arguments} {body : Expr} {scope : Scope} {cl : List (Str × Addr)} {fr Nl : List Str} {ws : List (Option V)} {cdv : Value} {Fb : Env → Option D} {v1 : V} {Q : VK}
    (L : LamK X s H f c' q params body scope cl fr ws) (S : NScope Nl ["inside"] fr scope) (hbind : ∀ (pm ctv : Value) (us : List Value), us.length = 1 → bindArgs (PySem.W.kla_fn "<lambda>" q params body scope cl pm (.ref c') ctv) ⟨us, []⟩ = pure (([("inside" : Str)] : List Str).zip us))
    (hr : Room 1 (X.A.deeper (envOfC "pieces_where" spw s.heap.objs.size g cdv))) (hDV : DV (Γ.at 0) Nl scope .e body Fb) (h : PWc Γ q Nl Fb c' ws v1 H Q) :
    ∃ t, PSs (cxOf C8.CX0 X.prog X.w X.K X.mg X.base N_pw "pieces_where" spw g cdv X.A X.stack s H C8.E0).nox bpw t ∧ t { nx := fun _ H' => Q .non H', rt := Q } (L2.start N_pw [v1, .ref f]) H := by
  obtain ⟨t0, p0, m0⟩ := (pw_0 (Γ := Γ)).ex
  obtain ⟨tI, pI, mI⟩ := (pw_I B C m_bounded).ex
  obtain ⟨tG, pG, mG⟩ := (pw_G (Γ := Γ)).ex
  obtain ⟨tA, pA, mA⟩ := (pw_A C).ex
  obtain ⟨tB', pB, mB⟩ := (pw_B C m_width).ex
  obtain ⟨tR, pR, mR⟩ := (pw_R B).ex
  obtain ⟨tb, pb, sb⟩ := hDV.ex
  obtain ⟨G, n, d, vms, ms, s1, tH, r1, gc, rfl, rms, e, k⟩ := h
  have gd : Good (Γ.at 1) N_pw spw (cxOf C8.CX0 X.prog X.w X.K X.mg X.base N_pw "pieces_where" spw g cdv X.A X.stack s H C8.E0).nox := ⟨hP, hw, hK, hm, hb, rfl, rfl, hr, rfl, rfl⟩
  have fnX : ∀ y, (cxOf C8.CX0 X.prog X.w X.K X.mg X.base N_pw "pieces_where" spw g cdv X.A X.stack s H C8.E0).nox.fn y = true := fun _ => rfl
  have act := pe_act1 (CXg := C8.CX0) (Eg := C8.E0) (Ng := N_pw) (Nl := Nl) (ps := ["inside"]) (qg := "pieces_where") (sg := spw) (g := g) (cdg := cdv) (k := 0) (i := 1) (a := "is_wished") (e := argE (ifC (stA (forB (stA bpw 1)) 0)) 0) (es := []) (ta := tA) (tb := tb)
    (p1 := (match ifC (stA (forB (stA bpw 1)) 0) with | .Call (.Name _ p) _ _ _ => p | _ => ⟨0, 0, 0, 0⟩)) (pos := (match ifC (stA (forB (stA bpw 1)) 0) with | .Call _ _ _ p => p | _ => ⟨0, 0, 0, 0⟩)) L S hr hbind
    (fun A outer s1 H1 hr2 => pb _ ⟨hP, hw, hK, hm, hb, rfl, rfl, hr2, rfl, rfl⟩) rfl (vis_of (by decide +kernel)) (by decide) (by decide) (pA _ gd) rfl rfl
  have act' : PE (cxOf C8.CX0 X.prog X.w X.K X.mg X.base N_pw "pieces_where" spw g cdv X.A X.stack s H C8.E0).nox (ifC (stA (forB (stA bpw 1)) 0)) _ := act
  refine ⟨tSeq t0 (tSeq (tFor tI tG (tIfS (tB fun σZ HZ Q => σZ[1]? = some (some (V.ref f)) ∧ tA σZ HZ fun vs H1 => vs.length = 1 ∧ H1 c' = some (CodeO c' q) ∧ tb (startF Nl vs (vms.map some)) H1 Q) tB' tNext)) tR),
    pss_cons (p0 _ gd fnX) (pss_cons (ps_for PassesOwn.never rfl (pI _ gd) (pG _ gd fun _ => fnX) (pss_one (ps_if (pt_val act') (pB _ gd fnX) pss_nil)) (fun _ => rfl)) (pR _ gd fnX)), ?_⟩
  have mT : SemT (Γ.at 1) (tB fun σZ HZ Q => σZ[1]? = some (some (V.ref f)) ∧ tA σZ HZ fun vs H1 => vs.length = 1 ∧ H1 c' = some (CodeO c' q) ∧ tb (startF Nl vs (vms.map some)) H1 Q) (tWish (fun x => Fb (startE Nl (x :: ms))) (f, c', q)) := fun H0 ρ σ G H Q c s E e q1 => by
    unfold tWish at e
    split at e
    · rename_i hwB
      obtain ⟨ds, ea, e⟩ := Option.bind_eq_some_iff.mp e
      have slot : σ[1]? = some (some (.ref f)) ∧ G c' = some (CodeO c' q) := by
        unfold wishB at hwB
        split at hwB
        · rename_i a b q2 hy
          simp only [Bool.and_eq_true, decide_eq_true_eq] at hwB
          obtain ⟨rfl, rfl, rfl⟩ := hwB
          obtain ⟨u, h4, h5⟩ := E.sl 1 _ hy
          cases h5 with
          | fn hc => exact ⟨h4, hc⟩
        · cases hwB
      refine ⟨slot.1, mA H0 ρ σ G H _ ds s E ea fun G1 H1 vs g1 o1 => ?_⟩
      match ds, e, o1 with
      | [x], e, .cons (v := v) rx .nil =>
        refine ⟨rfl, g1.s.code (g1.g.code slot.2), ?_⟩
        obtain ⟨b, eb, e⟩ := Option.bind_eq_some_iff.mp (show (Fb (startE Nl (x :: ms))).bind boolD = some c from e)
        cases b <;> try cases e
        rw [startF_eq]
        refine sb H1 _ _ G1 H1 _ _ g1.s (env_start Nl (g1.t E.tb) (.cons rx (rms G1))) eb fun G2 H2 u g2 o2 => ?_
        have o2 : Rep Γ.K Γ.C G2 u (.bl c) := o2
        cases o2
        exact ⟨c, rfl, q1 G2 H2 (g1.trans g2)⟩
    · cases e
  have sem := sem_seqS m0 (sem_seqS (sem_forS mI mG (sem_ifS mT mB sem_nilS)) mR)
  have e2 := anyF_e e (f, c', q)
  have E0 : EnvOk (Γ.at 1) H G H [.sh n, .sh (.fn f c' q), .no, .no, .no, .no] (L2.start N_pw [v1, .ref f]) := env_start (Γ := Γ.at 1) N_pw tH (.cons r1 (.cons (.fn gc) .nil))
  cases eF : F_pw (fun x => Fb (startE Nl (x :: ms))) (f, c', q) [.sh n, .sh (.fn f c' q), .no, .no, .no, .no] with
  | none => rw [eF] at e2; cases e2
  | some r =>
    rw [eF] at e2
    refine sem G H _ _ G H _ r (Grow.refl s1) E0 eF (fun ρ' G' H' σ' er g' _ _ => ?_) fun d2 G' H' v er g' rr => ?_
    · subst er
      cases e2
      exact k G' H' .non g' .non
    · subst er
      cases e2
      exact k G' H' v g' rr
/-! the defs that make a function value -/
def codeV (K : PySem.W.Frag) (f : Addr) : Option Value := match K.lookup f with
  | some ⟨_, _, .func fd, _⟩ => some fd.code
  | _ => none
structure LamC (Γ : Gam) (f : Addr) (q : Str) : Prop where
  ex : ∃ c P, codeV Γ.K f = some (.ref c) ∧ TabB Γ.base Γ.mg c P ∧ (P, q) ∈ TabT.T ∧ ∀ p ∈ TabT.T, p.1 = P → p.2 = q
theorem fnC {N ps : List Str} {x qual : Str} {st : Stmt} {f : Addr} {fd : FuncData} {k : Nat} {F : Env → Option Res} {c : Addr} (Fn : Fun Γ.K x qual st f fd) (S : FnScope N ps (defScope st)) (hc : codeV Γ.K f = some (.ref c))
    (h : ∃ t, (∀ X, Good (Γ.at k) N (defScope st) X → (∀ y, X.fn y = true) → X.env.code = .ref c → X.env.qual = qual ++ ".<locals>." → PSs X (defBody st) t) ∧ SemS (Γ.at k) t F) : FnOk Γ.P Γ.w Γ.K Γ.mg Γ.base CX0 (k + 1) f fd ps (spD Γ.K Γ.C (callD N ps.length F)) := by
  obtain ⟨t, p, sm⟩ := h
  obtain ⟨oc, od, kV, doc, pm, an, cdv, ct, osl, rfl, lk, hcd⟩ := Fn.ex
  have ec : cdv = .ref c := by
    unfold codeV at hc
    rw [lk] at hc
    exact Option.some.inj hc
  subst ec
  refine fn_of lk hcd S (fun vs H Q E h => ?_) (fun A outer s H vs Q E hr hsp => ?_)
  · obtain ⟨G, ds, d, _, _, r, e, _⟩ := h
    unfold callD at e
    split at e
    · rename_i hl; rw [r.length]; exact hl
    · cases e
  · obtain ⟨G, ds, d, s1, tb, r, e, q⟩ := hsp
    have p1 : PSs (cxOf CX0 Γ.P Γ.w Γ.K Γ.mg Γ.base N qual (defScope st) f (.ref c) A outer s H E).nox (defBody st) t := p _ ⟨rfl, rfl, rfl, rfl, rfl, rfl, rfl, hr, rfl, rfl⟩ (fun _ => rfl) rfl rfl
    refine ⟨t, p1.nox, ?_⟩
    unfold callD at e
    split at e
    · split at e
      · rename_i d' eF
        cases e
        exact sm G H (startE N ds) (L2.start N vs) G H _ _ (Grow.refl s1) (env_start N tb r) eF (fun ρ' G' H' σ' er => by cases er) fun d2 G' H' v er g' rr => by cases er; exact q G' H' v g' rr
      · rename_i ρ' eF
        cases e
        exact sm G H (startE N ds) (L2.start N vs) G H _ _ (Grow.refl s1) (env_start N tb r) eF (fun ρ2 G' H' σ' er g' _ _ => q G' H' .non g' .non) fun d2 G' H' v er => by cases er
      · cases e
    · cases e
theorem tabs_new {H1 H2 : Hp} {P c' : Addr} {q : Str} (t : TbH H1) (n : NewC H1 H2 P c' q) (t2 : TabS H2 P q) (hu : ∀ p ∈ TabT.T, p.1 = P → p.2 = q) : TbH H2 := fun p hp => by
  by_cases hb : p.1 = P
  · rw [hb, hu p hp hb]; exact t2
  · rcases n with ⟨rfl, _⟩ | ⟨ps, more, h1, h2, rfl⟩
    · exact t p hp
    · obtain ⟨ps', a1, a2, a3⟩ := t p hp
      refine ⟨ps', by rw [upd_ne (ne_of_none a1 h2), upd_ne hb]; exact a1, a2, fun p' cv hcv => ?_⟩
      obtain ⟨c0, e1, e2⟩ := a3 p' cv hcv
      refine ⟨c0, e1, ?_⟩
      rw [upd_ne (ne_of_none e2 h2), upd_ne]
      · exact e2
      · rintro rfl
        rw [h1] at e2
        exact codeO_ne _ (Option.some.inj e2).symm
abbrev tPW (Γ : Gam) (P : Addr) (q : Str) (Nl : List Str) (Fb : Env → Option D) (js : List Nat) (t1 : TE) : TE := fun σ H Q => t1 σ H fun v1 H1 => TabS H1 P q ∧ ∀ (f c' : Addr) (H2 : Hp), NewC H1 H2 P c' q → TabS H2 P q → PWc Γ q Nl Fb c' (js.map (slotAt σ)) v1 H2 Q
theorem sem_pw {t1 : TE} {Ev : Env → Option D} {msF : Env → Option (List D)} {js : List Nat} {P : Addr} {q : Str} {Nl : List Str} {Fb : Env → Option D} (s1 : SemV Γ .e t1 Ev) (hT : (P, q) ∈ TabT.T) (hu : ∀ p ∈ TabT.T, p.1 = P → p.2 = q)
    (hms : ∀ (H0 G H : Hp) (ρ : Env) (σ : L2.St) (ms : List D), EnvOk Γ H0 G H ρ σ → msF ρ = some ms → ∃ vms, js.map (slotAt σ) = vms.map some ∧ ∀ G, RepL Γ.K Γ.C G vms ms) :
    SemV Γ .e (tPW Γ P q Nl Fb js t1) (fun ρ => (Ev ρ).bind fun n => (msF ρ).bind fun ms => c_pw (fun x => Fb (startE Nl (x :: ms))) n) := fun H0 ρ σ G H Q d s E e k => by
  obtain ⟨n, e1, e⟩ := Option.bind_eq_some_iff.mp e
  obtain ⟨ms, e2, e⟩ := Option.bind_eq_some_iff.mp e
  obtain ⟨vms, ej, rms⟩ := hms H0 G H ρ σ ms E e2
  refine s1 H0 ρ σ G H _ n s E e1 fun G1 H1 v1 g1 o1 => ⟨g1.t E.tb _ hT, fun f c' H2 new T2 => ?_⟩
  have t2 := tabs_new (g1.t E.tb) new T2 hu
  have g2 := new_grow g1.s new t2
  exact ⟨ghC G1 c' q, n, d, vms, ms, g2.s, t2, Rep.mono g2.g o1, ghC_at, ej, rms, e, fun G' H' v g' r => k G' H' v ((g1.trans g2).trans g') r⟩
theorem pe_pw (B : Bl Γ) (C : NetC (Γ.at 1)) (m_bounded : HasM (Γ.at 1) "bounded" c_Net_bounded) (m_width : HasM (Γ.at 1) "width" c_Net_width) {fpw : Addr} {fdpw : FuncData} (Fpw : Fun Γ.K "pieces_where" "pieces_where" s_pieces_where fpw fdpw) (gpw : Γ.mg "pieces_where" = some (.ref fpw))
    {N : List Str} {sc : Scope} {X : Cx} (gd : Good (Γ.at 7) N sc X) {c P : Addr} {q : Str} (TB : TabB Γ.base Γ.mg c P) (code : X.env.code = .ref c) (eq : X.env.qual ++ "<lambda>" = q) {params : Arguments} {body e1 : Expr} {scope : Scope} {p lpos pos : Pos} {t1 : TE} {Nl fr : List Str} {js : List Nat} {Fb : Env → Option D}
    (hg : glB sc "pieces_where" = true) (hfree : ∀ y ∈ scope.names, y.2 = .free → sc.names.lookup y.1 = some .cell ∨ sc.names.lookup y.1 = some .free) (hfr : ∀ y ∈ fr, (y, NameKind.free) ∈ scope.names) (hjs : js.map (fun j => N[j]?) = fr.map some) (S : NScope Nl ["inside"] fr scope)
    (hbind : ∀ (cl : List (Str × Addr)) (c' : Addr) (pm ctv : Value) (us : List Value), us.length = 1 → bindArgs (PySem.W.kla_fn "<lambda>" q params body scope cl pm (.ref c') ctv) ⟨us, []⟩ = pure (([("inside" : Str)] : List Str).zip us)) (hDV : DV (Γ.at 0) Nl scope .e body Fb) (ha : PE X e1 t1)
    (df : ∀ env : PySem.Env, defaultsOf params env = ([], [])) (hs : ∀ env : PySem.Env, starEach (e1 :: [.Lambda params body scope lpos]) env = (false, eval e1 env) :: starEach [.Lambda params body scope lpos] env) (hpl : ∀ env : PySem.Env, (backTo pos (starEach [.Lambda params body scope lpos] env)).any (·.1) = false) :
    PE X (.Call (.Name "pieces_where" p) [e1, .Lambda params body scope lpos] [] pos) (tPW Γ P q Nl Fb js t1) := by
  have bpw' : L2.Binds Γ.K fdpw ["net", "is_wished"] [] := Fpw.binds fun _ _ _ _ _ _ us hl => match us, hl with | [_, _], _ => rfl
  have kp := Fpw.kp
  obtain ⟨oc, od, kV, doc, pm, an, cdv, ct, osl, rfl, lk, hcd⟩ := Fpw.ex
  have hP : X.prog = Γ.P := gd.prog
  have hw : X.w = Γ.w := gd.w
  have hK : X.K = Γ.K := gd.K
  have hm : X.mg = Γ.mg := gd.mg
  have hb : X.base = Γ.base := gd.base
  have hN : X.N = N := gd.N
  have hsc : X.env.scope = sc := gd.sc
  have free' : ∀ y ∈ scope.names, y.2 = .free → X.env.scope.names.lookup y.1 = some .cell ∨ X.env.scope.names.lookup y.1 = some .free := by rw [hsc]; exact hfree
  exact pe_pwcall (PW := fun f c' ws v1 H Q => PWc Γ q Nl Fb c' ws v1 H Q) (k := 1) (n0 := "net") (a := "is_wished") (Ng := N_pw) (gl_of gd hg) (by rw [hm]; exact gpw) (by rw [hK]; exact kp) (by rw [hK]; exact lk) (by rw [hK]; exact hcd) (by rw [hK]; exact bpw') sc_pieces_where
    (by rw [hb, hm]; exact TB) code eq (gd.room.mono (show 2 ≤ 7 by decide)) (df _) (fun ok y hy e => (free' y hy e).elim (fun z => ok.has _ (.inl z)) fun z => ok.has _ (.inr z)) (fun ok => Caps.made ok free' hfr (by rw [hN]; exact hjs)) ha
    (fun f c' s H ws v1 Q L hr' h => pw_body B C m_bounded m_width hP hw hK hm hb L S (hbind _ _) hr' hDV h) (by decide) (hs _) (hpl _)
/-! plain -/
abbrev q_plain : Str := (("plain" : Str) ++ ".<locals>.") ++ "<lambda>"
abbrev e_plain : Expr := retE (stA (defBody s_plain) 0)
abbrev l_plain : Expr := argE e_plain 1
theorem dl_plain (B : Bl Γ) : DV (Γ.at 0) ["inside"] (lamS l_plain) .e (lamB l_plain) L_lam_plain := by
  delta L_lam_plain
  exact (DC.toE (d_gt (d_len rfl B.len (d_nb (i := 0) rfl rfl (by decide) (by decide))) d_int))
theorem ns_plain : NScope ["inside"] ["inside"] [] (lamS l_plain) := nscope_by (by decide +kernel)
theorem de_plain (h_Net : HasN (Γ.at 7) "Net" c_Net) : DV (Γ.at 7) ["sheet"] (defScope s_plain) .e (argE e_plain 0) L_plE := by
  delta L_plE
  exact (d_make h_Net rfl (by decide) (d_nm (i := 0) rfl rfl (by decide) (by decide)))
theorem ok_plain (B : Bl Γ) (C : NetC (Γ.at 1)) (h_Net : HasN (Γ.at 7) "Net" c_Net) (m_bounded : HasM (Γ.at 1) "bounded" c_Net_bounded) (m_width : HasM (Γ.at 1) "width" c_Net_width) {fpw : Addr} {fdpw : FuncData} (Fpw : Fun Γ.K "pieces_where" "pieces_where" s_pieces_where fpw fdpw) (gpw : Γ.mg "pieces_where" = some (.ref fpw))
    {f : Addr} {fd : FuncData} (Fn : Fun Γ.K "plain" "plain" s_plain f fd) (hm : Γ.mg "plain" = some (.ref f)) (hl : LamC Γ f q_plain) : HasD (Γ.at 8) "plain" c_plain := by
  obtain ⟨c, P, hc, TB, hT, hu⟩ := hl.ex
  obtain ⟨te, pe, se⟩ := (de_plain h_Net).ex
  have sem : SemS (Γ.at 7) (tRet (tPW Γ P q_plain ["inside"] L_lam_plain [] te)) F_plain := sem_retS (Γ := Γ.at 7) (sem_pw (Γ := Γ.at 7) (msF := fun _ => some []) (Nl := ["inside"]) (Fb := L_lam_plain) se hT hu fun H0 G H ρ σ ms E e => by cases e; exact ⟨[], rfl, fun _ => .nil⟩)
  refine ⟨8, f, fd, ["sheet"], Nat.le_refl _, hm, Fn.kp, (Fn.binds (ps := ["sheet"]) fun _ _ _ _ _ _ us hl => match us, hl with | [_], _ => rfl), fnC (Γ := Γ) (k := 7) (F := F_plain) Fn sc_plain hc ⟨_, fun X g fnX code qual => ?_, sem⟩⟩
  exact pss_one (ps_ret (pe_pw B C m_bounded m_width Fpw gpw g TB code (by rw [qual]) (params := lamP l_plain) (body := lamB l_plain) (scope := lamS l_plain) (Nl := ["inside"]) (fr := []) (js := []) (by decide +kernel) (by decide +kernel) (by decide +kernel) (by rfl) ns_plain (fun _ _ _ _ us hl => match us, hl with | [_], _ => rfl) (dl_plain B) (pe _ g) (fun _ => rfl) (fun _ => rfl) (fun _ => rfl)))
/-! both_of -/
abbrev q_both_of : Str := (("both_of" : Str) ++ ".<locals>.") ++ "<lambda>"
abbrev e_both_of : Expr := retE (stA (defBody s_both_of) 2)
abbrev l_both_of : Expr := argE e_both_of 1
theorem dl_both_of (B : Bl Γ) : DV (Γ.at 0) ["inside", "many"] (lamS l_both_of) .e (lamB l_both_of) L_lam_both_of := by
  delta L_lam_both_of
  exact (d_and (DC.toE (d_gt (d_len rfl B.len (d_nb (i := 0) rfl rfl (by decide) (by decide))) d_int)) (d_one (DC.toE (d_ltle (d_ix (d_nb (i := 0) rfl rfl (by decide) (by decide)) d_int) (d_nb (i := 1) rfl rfl (by decide) (by decide)) (d_ix (d_nb (i := 0) rfl rfl (by decide) (by decide)) (d_neg d_int))))))
theorem ns_both_of : NScope ["inside", "many"] ["inside"] ["many"] (lamS l_both_of) := nscope_by (by decide +kernel)
theorem d0_both_of (B : Bl Γ) : DS (Γ.at 7) ["one", "other", "many", "net"] (defScope s_both_of) (stA (defBody s_both_of) 0) L_bo0 := by
  delta L_bo0
  exact (s_set (i := 2) sc_both_of.nd rfl rfl (d_len rfl B.len (d_nb (i := 0) rfl rfl (by decide) (by decide))))
theorem d1_both_of (B : Bl Γ) (h_Net : HasN (Γ.at 7) "Net" c_Net) : DS (Γ.at 7) ["one", "other", "many", "net"] (defScope s_both_of) (stA (defBody s_both_of) 1) L_bo1 := by
  delta L_bo1
  exact (s_set (i := 3) sc_both_of.nd rfl rfl (d_make h_Net rfl (by decide) (d_add (d_nb (i := 0) rfl rfl (by decide) (by decide)) (d_nb (i := 1) rfl rfl (by decide) (by decide)))))
theorem de_both_of : DV (Γ.at 7) ["one", "other", "many", "net"] (defScope s_both_of) .e (argE e_both_of 0) L_boE := by
  delta L_boE
  exact (d_nm (i := 3) rfl rfl (by decide) (by decide))
theorem ok_both_of (B : Bl Γ) (C : NetC (Γ.at 1)) (h_Net : HasN (Γ.at 7) "Net" c_Net) (m_bounded : HasM (Γ.at 1) "bounded" c_Net_bounded) (m_width : HasM (Γ.at 1) "width" c_Net_width) {fpw : Addr} {fdpw : FuncData} (Fpw : Fun Γ.K "pieces_where" "pieces_where" s_pieces_where fpw fdpw) (gpw : Γ.mg "pieces_where" = some (.ref fpw))
    {f : Addr} {fd : FuncData} (Fn : Fun Γ.K "both_of" "both_of" s_both_of f fd) (hm : Γ.mg "both_of" = some (.ref f)) (hl : LamC Γ f q_both_of) : HasD (Γ.at 8) "both_of" c_both_of := by
  obtain ⟨c, P, hc, TB, hT, hu⟩ := hl.ex
  obtain ⟨t0, p0, s0⟩ := (d0_both_of B).ex
  obtain ⟨t1, p1, s1⟩ := (d1_both_of B h_Net).ex
  obtain ⟨te, pe, se⟩ := (de_both_of (Γ := Γ)).ex
  have eF : F_both_of = sseq L_bo0 (sseq L_bo1 (sret fun ρ => (L_boE ρ).bind fun n => ((intAt 2 ρ).map fun m => [D.int m]).bind fun ms => c_pw (fun x => L_lam_both_of (startE ["inside", "many"] (x :: ms))) n)) := by
    unfold F_both_of
    congr 2
    congr 1
    funext ρ
    congr 1
    funext n
    cases intAt 2 ρ <;> rfl
  have sem : SemS (Γ.at 7) (tSeq t0 (tSeq t1 (tRet (tPW Γ P q_both_of ["inside", "many"] L_lam_both_of [2] te)))) F_both_of := by
    rw [eF]
    refine sem_seqS s0 (sem_seqS s1 (sem_retS (Γ := Γ.at 7) (sem_pw (Γ := Γ.at 7) (msF := fun ρ => (intAt 2 ρ).map fun m => [D.int m]) (Nl := ["inside", "many"]) (Fb := L_lam_both_of) se hT hu fun H0 G H ρ σ ms E e => ?_)))
    obtain ⟨m, em, rfl⟩ := Option.map_eq_some_iff.mp e
    unfold intAt at em
    split at em
    · rename_i m' hm'
      cases em
      obtain ⟨v, hv, rv⟩ := E.sl 2 _ hm'
      cases rv
      refine ⟨[.int m], ?_, fun _ => .cons (.int m) .nil⟩
      show [NdefX.slotAt σ 2] = [some (V.int m)]
      unfold NdefX.slotAt
      rw [hv]
    · cases em
  refine ⟨8, f, fd, ["one", "other"], Nat.le_refl _, hm, Fn.kp, (Fn.binds (ps := ["one", "other"]) fun _ _ _ _ _ _ us hl => match us, hl with | [_, _], _ => rfl), fnC (Γ := Γ) (k := 7) (F := F_both_of) Fn sc_both_of hc ⟨_, fun X g fnX code qual => ?_, sem⟩⟩
  exact pss_cons (p0 _ g fnX) (pss_cons (p1 _ g fnX) (pss_one (ps_ret (pe_pw B C m_bounded m_width Fpw gpw g TB code (by rw [qual]) (params := lamP l_both_of) (body := lamB l_both_of) (scope := lamS l_both_of) (Nl := ["inside", "many"]) (fr := ["many"]) (js := [2]) (by decide +kernel) (by decide +kernel) (by decide +kernel) (by rfl) ns_both_of (fun _ _ _ _ us hl => match us, hl with | [_], _ => rfl) (dl_both_of B) (pe _ g) (fun _ => rfl) (fun _ => rfl) (fun _ => rfl)))))
/-! cut_out -/
abbrev q_cut_out : Str := (("cut_out" : Str) ++ ".<locals>.") ++ "<lambda>"
abbrev e_cut_out : Expr := retE (stA (defBody s_cut_out) 2)
abbrev l_cut_out : Expr := argE e_cut_out 1
theorem dl_cut_out (B : Bl Γ) : DV (Γ.at 0) ["inside", "many"] (lamS l_cut_out) .e (lamB l_cut_out) L_lam_cut_out := by
  delta L_lam_cut_out
  exact (d_and (DC.toE (d_gt (d_len rfl B.len (d_nb (i := 0) rfl rfl (by decide) (by decide))) d_int)) (d_one (DC.toE (d_lt (d_ix (d_nb (i := 0) rfl rfl (by decide) (by decide)) (d_neg d_int)) (d_nb (i := 1) rfl rfl (by decide) (by decide))))))
theorem ns_cut_out : NScope ["inside", "many"] ["inside"] ["many"] (lamS l_cut_out) := nscope_by (by decide +kernel)
theorem d0_cut_out (B : Bl Γ) : DS (Γ.at 7) ["one", "other", "many", "net"] (defScope s_cut_out) (stA (defBody s_cut_out) 0) L_co0 := by
  delta L_co0
  exact (s_set (i := 2) sc_cut_out.nd rfl rfl (d_len rfl B.len (d_nb (i := 0) rfl rfl (by decide) (by decide))))
theorem d1_cut_out (B : Bl Γ) (h_Net : HasN (Γ.at 7) "Net" c_Net) : DS (Γ.at 7) ["one", "other", "many", "net"] (defScope s_cut_out) (stA (defBody s_cut_out) 1) L_co1 := by
  delta L_co1
  exact (s_set (i := 3) sc_cut_out.nd rfl rfl (d_make h_Net rfl (by decide) (d_add (d_nb (i := 0) rfl rfl (by decide) (by decide)) (d_nb (i := 1) rfl rfl (by decide) (by decide)))))
theorem de_cut_out : DV (Γ.at 7) ["one", "other", "many", "net"] (defScope s_cut_out) .e (argE e_cut_out 0) L_coE := by
  delta L_coE
  exact (d_nm (i := 3) rfl rfl (by decide) (by decide))
theorem ok_cut_out (B : Bl Γ) (C : NetC (Γ.at 1)) (h_Net : HasN (Γ.at 7) "Net" c_Net) (m_bounded : HasM (Γ.at 1) "bounded" c_Net_bounded) (m_width : HasM (Γ.at 1) "width" c_Net_width) {fpw : Addr} {fdpw : FuncData} (Fpw : Fun Γ.K "pieces_where" "pieces_where" s_pieces_where fpw fdpw) (gpw : Γ.mg "pieces_where" = some (.ref fpw))
    {f : Addr} {fd : FuncData} (Fn : Fun Γ.K "cut_out" "cut_out" s_cut_out f fd) (hm : Γ.mg "cut_out" = some (.ref f)) (hl : LamC Γ f q_cut_out) : HasD (Γ.at 8) "cut_out" c_cut_out := by
  obtain ⟨c, P, hc, TB, hT, hu⟩ := hl.ex
  obtain ⟨t0, p0, s0⟩ := (d0_cut_out B).ex
  obtain ⟨t1, p1, s1⟩ := (d1_cut_out B h_Net).ex
  obtain ⟨te, pe, se⟩ := (de_cut_out (Γ := Γ)).ex
  have eF : F_cut_out = sseq L_co0 (sseq L_co1 (sret fun ρ => (L_coE ρ).bind fun n => ((intAt 2 ρ).map fun m => [D.int m]).bind fun ms => c_pw (fun x => L_lam_cut_out (startE ["inside", "many"] (x :: ms))) n)) := by
    unfold F_cut_out
    congr 2
    congr 1
    funext ρ
    congr 1
    funext n
    cases intAt 2 ρ <;> rfl
  have sem : SemS (Γ.at 7) (tSeq t0 (tSeq t1 (tRet (tPW Γ P q_cut_out ["inside", "many"] L_lam_cut_out [2] te)))) F_cut_out := by
    rw [eF]
    refine sem_seqS s0 (sem_seqS s1 (sem_retS (Γ := Γ.at 7) (sem_pw (Γ := Γ.at 7) (msF := fun ρ => (intAt 2 ρ).map fun m => [D.int m]) (Nl := ["inside", "many"]) (Fb := L_lam_cut_out) se hT hu fun H0 G H ρ σ ms E e => ?_)))
    obtain ⟨m, em, rfl⟩ := Option.map_eq_some_iff.mp e
    unfold intAt at em
    split at em
    · rename_i m' hm'
      cases em
      obtain ⟨v, hv, rv⟩ := E.sl 2 _ hm'
      cases rv
      refine ⟨[.int m], ?_, fun _ => .cons (.int m) .nil⟩
      show [NdefX.slotAt σ 2] = [some (V.int m)]
      unfold NdefX.slotAt
      rw [hv]
    · cases em
  refine ⟨8, f, fd, ["one", "other"], Nat.le_refl _, hm, Fn.kp, (Fn.binds (ps := ["one", "other"]) fun _ _ _ _ _ _ us hl => match us, hl with | [_, _], _ => rfl), fnC (Γ := Γ) (k := 7) (F := F_cut_out) Fn sc_cut_out hc ⟨_, fun X g fnX code qual => ?_, sem⟩⟩
  exact pss_cons (p0 _ g fnX) (pss_cons (p1 _ g fnX) (pss_one (ps_ret (pe_pw B C m_bounded m_width Fpw gpw g TB code (by rw [qual]) (params := lamP l_cut_out) (body := lamB l_cut_out) (scope := lamS l_cut_out) (Nl := ["inside", "many"]) (fr := ["many"]) (js := [2]) (by decide +kernel) (by decide +kernel) (by decide +kernel) (by rfl) ns_cut_out (fun _ _ _ _ us hl => match us, hl with | [_], _ => rfl) (dl_cut_out B) (pe _ g) (fun _ => rfl) (fun _ => rfl) (fun _ => rfl)))))
end
end Pv
set_option Elab.async false
set_option linter.all false
set_option maxRecDepth 100000
set_option maxHeartbeats 4000000
set_option autoImplicit false
namespace Pv
variable [TabT]
open PySem PySem.Spec PyProof.Rows L2
abbrev s_law : Stmt := topS 46
theorem sc_law : FnScope ["_law_script", "_law_k", "_law_cell_here", "_law_one", "_law_other", "_law_more", "_law_mine", "_law_yours", "_law_every", "_law_both", "_law_rest", "_law_place"] ["_law_script"] (defScope s_law) := ⟨rfl, rfl, rfl, by decide +kernel, rfl, by decide +kernel, by decide +kernel⟩
theorem fnD_law {Γ : Gam} (B : Bl Γ) {f : Addr} {fd : FuncData} (Fn : Fun Γ.K "law" "law" s_law f fd) (h__law_cell : HasD (Γ.at 10) "_law_cell" c__law_cell) (h__law_sheet : HasD (Γ.at 10) "_law_sheet" c__law_sheet) (h__law_turned_right : HasD (Γ.at 10) "_law_turned_right" c__law_turned_right) (h__law_mix : HasD (Γ.at 10) "_law_mix" c__law_mix) (h__law_cells : HasD (Γ.at 10) "_law_cells" c__law_cells) (h__law_covers : HasD (Γ.at 10) "_law_covers" c__law_covers) (h_plain : HasD (Γ.at 10) "plain" c_plain) (h_unlike : HasD (Γ.at 10) "unlike" c_unlike) (h_both_of : HasD (Γ.at 10) "both_of" c_both_of) (h_cut_out : HasD (Γ.at 10) "cut_out" c_cut_out) (h_covered_area : HasD (Γ.at 10) "covered_area" c_covered_area) : FnOk Γ.P Γ.w Γ.K Γ.mg Γ.base CX0 11 f fd ["_law_script"] (spD Γ.K Γ.C c_law) := by
  refine fnD (Γ := Γ) (k := 10) (F := F_law) Fn sc_law ?_
  delta F_law
  exact (ss_cons (s_for (i_range1 rfl B.range d_int) (g_one (i := 1) sc_law.nd rfl rfl)
  (ss_cons (s_set (i := 2) sc_law.nd rfl rfl (d_call h__law_cell rfl (by decide) (a_cons (d_nm (i := 0) rfl rfl (by decide) (by decide)) (a_cons (d_mul d_int (d_nb (i := 1) rfl rfl (by decide) (by decide))) a_nil))))
  (ss_cons (s_set (i := 3) sc_law.nd rfl rfl (d_call h__law_sheet rfl (by decide) (a_cons (d_nm (i := 2) rfl rfl (by decide) (by decide)) (a_cons d_int (a_cons d_int a_nil)))))
  (ss_cons (s_set (i := 4) sc_law.nd rfl rfl (d_call h__law_sheet rfl (by decide) (a_cons (d_call h__law_cell rfl (by decide) (a_cons (d_nm (i := 0) rfl rfl (by decide) (by decide)) (a_cons (d_add (d_mul d_int (d_nb (i := 1) rfl rfl (by decide) (by decide))) d_int) a_nil))) (a_cons d_int (a_cons d_int a_nil)))))
  (ss_cons (s_set (i := 5) sc_law.nd rfl rfl (d_call h__law_cell rfl (by decide) (a_cons (d_nm (i := 0) rfl rfl (by decide) (by decide)) (a_cons (d_add (d_mul d_int (d_nb (i := 1) rfl rfl (by decide) (by decide))) d_int) a_nil))))
  (ss_cons (s_if (t_not (t_v (d_call h__law_turned_right rfl (by decide) (a_cons (d_nm (i := 3) rfl rfl (by decide) (by decide)) (a_cons (d_sub (d_call h__law_mix rfl (by decide) (a_cons (d_nm (i := 5) rfl rfl (by decide) (by decide)) (a_cons d_int (a_cons d_int a_nil)))) d_int) (a_cons (d_add d_int (d_call h__law_mix rfl (by decide) (a_cons (d_nm (i := 5) rfl rfl (by decide) (by decide)) (a_cons d_int (a_cons d_int a_nil))))) a_nil))))))
  (ss_one (s_ret d_bl))
  ss_nil)
  (ss_cons (s_set (i := 6) sc_law.nd rfl rfl (d_call h__law_cells rfl (by decide) (a_cons (d_nm (i := 3) rfl rfl (by decide) (by decide)) (a_cons d_int a_nil))))
  (ss_cons (s_set (i := 7) sc_law.nd rfl rfl (d_call h__law_cells rfl (by decide) (a_cons (d_nm (i := 4) rfl rfl (by decide) (by decide)) (a_cons d_int a_nil))))
  (ss_cons (s_setL (i := 8) sc_law.nd rfl rfl rfl (d_lc (own := [("_law_place", 11)]) sc_law.nd (by decide +kernel) (i_seq (d_nm (i := 6) rfl rfl (by decide) (by decide))) (g_one (i := 11) sc_law.nd rfl rfl) (by decide) (ts_one (t_v (d_ix (d_nb (i := 6) rfl rfl (by decide) (by decide)) (d_nb (i := 11) rfl rfl (by decide) (by decide))))) (d_nm (i := 11) rfl rfl (by decide) (by decide))))
  (ss_cons (s_setL (i := 9) sc_law.nd rfl rfl rfl (d_lc (own := [("_law_place", 11)]) sc_law.nd (by decide +kernel) (i_seq (d_nm (i := 8) rfl rfl (by decide) (by decide))) (g_one (i := 11) sc_law.nd rfl rfl) (by decide) (ts_one (t_v (d_ix (d_nb (i := 7) rfl rfl (by decide) (by decide)) (d_nb (i := 11) rfl rfl (by decide) (by decide))))) (d_nm (i := 11) rfl rfl (by decide) (by decide))))
  (ss_cons (s_setL (i := 10) sc_law.nd rfl rfl rfl (d_lc (own := [("_law_place", 11)]) sc_law.nd (by decide +kernel) (i_seq (d_nm (i := 8) rfl rfl (by decide) (by decide))) (g_one (i := 11) sc_law.nd rfl rfl) (by decide) (ts_one (t_not (t_v (d_ix (d_nb (i := 7) rfl rfl (by decide) (by decide)) (d_nb (i := 11) rfl rfl (by decide) (by decide)))))) (d_nm (i := 11) rfl rfl (by decide) (by decide))))
  (ss_cons (s_if (DW.t (w_or (t_not (t_v (d_call h__law_covers rfl (by decide) (a_cons (d_call h_plain rfl (by decide) (a_cons (d_nm (i := 3) rfl rfl (by decide) (by decide)) a_nil)) (a_cons (d_nm (i := 8) rfl rfl (by decide) (by decide)) (a_cons d_int a_nil)))))) (w_or1 (t_c (d_isnt (d_call h_unlike rfl (by decide) (a_cons (d_call h_plain rfl (by decide) (a_cons (d_nm (i := 3) rfl rfl (by decide) (by decide)) a_nil)) (a_cons (d_nm (i := 3) rfl rfl (by decide) (by decide)) a_nil))) d_non)))))
  (ss_one (s_ret d_bl))
  ss_nil)
  (ss_cons (s_if (DW.t (w_or (t_not (t_v (d_call h__law_covers rfl (by decide) (a_cons (d_call h_both_of rfl (by decide) (a_cons (d_nm (i := 3) rfl rfl (by decide) (by decide)) (a_cons (d_nm (i := 4) rfl rfl (by decide) (by decide)) a_nil))) (a_cons (d_nm (i := 9) rfl rfl (by decide) (by decide)) (a_cons d_int a_nil)))))) (w_or1 (t_not (t_v (d_call h__law_covers rfl (by decide) (a_cons (d_call h_cut_out rfl (by decide) (a_cons (d_nm (i := 3) rfl rfl (by decide) (by decide)) (a_cons (d_nm (i := 4) rfl rfl (by decide) (by decide)) a_nil))) (a_cons (d_nm (i := 10) rfl rfl (by decide) (by decide)) (a_cons d_int a_nil)))))))))
  (ss_one (s_ret d_bl))
  ss_nil)
  (ss_cons (s_if (t_c (d_isnt (d_call h_unlike rfl (by decide) (a_cons (d_add (d_call h_both_of rfl (by decide) (a_cons (d_nm (i := 3) rfl rfl (by decide) (by decide)) (a_cons (d_nm (i := 4) rfl rfl (by decide) (by decide)) a_nil))) (d_call h_cut_out rfl (by decide) (a_cons (d_nm (i := 3) rfl rfl (by decide) (by decide)) (a_cons (d_nm (i := 4) rfl rfl (by decide) (by decide)) a_nil)))) (a_cons (d_nm (i := 3) rfl rfl (by decide) (by decide)) a_nil))) d_non))
  (ss_one (s_ret d_bl))
  ss_nil)
  (ss_one (s_if (t_c (d_ne (d_add (d_call h_covered_area rfl (by decide) (a_cons (d_call h_both_of rfl (by decide) (a_cons (d_nm (i := 3) rfl rfl (by decide) (by decide)) (a_cons (d_nm (i := 4) rfl rfl (by decide) (by decide)) a_nil))) a_nil)) (d_call h_covered_area rfl (by decide) (a_cons (d_call h_cut_out rfl (by decide) (a_cons (d_nm (i := 3) rfl rfl (by decide) (by decide)) (a_cons (d_nm (i := 4) rfl rfl (by decide) (by decide)) a_nil))) a_nil))) (d_call h_covered_area rfl (by decide) (a_cons (d_nm (i := 3) rfl rfl (by decide) (by decide)) a_nil))))
  (ss_one (s_ret d_bl))
  ss_nil))))))))))))))))
  (ss_one (s_ret d_bl)))
end Pv
set_option Elab.async false
set_option linter.all false
set_option maxRecDepth 100000
set_option maxHeartbeats 4000000
set_option autoImplicit false
namespace Pv
variable [TabT]
open PySem PySem.Spec PyProof.Rows L2
local macro_rules | `(tactic| walk_at "pv") => `(tactic| simp only [wipe_nil, wipe_cons, sext_eq, sapp_eq, sput_eq, nxE_nx, farsD_n, turnsD_n, insideD_n, fM_eq, netB_n, seqD_d, sdrop_eq, slT_1, slL_1, slS_1, slT_2, slL_2, slS_2, slT_3, slL_3, slS_3, slT_4, slL_4, slS_4, slT_5, slL_5, slS_5, slT_6, slL_6, slS_6, slT_7, slL_7, slS_7, slT_8, slL_8, slS_8, slT_9, slL_9, slS_9, slT_10, slL_10, slS_10, slT_12, slL_12, slS_12, slT_16, slL_16, slS_16, listD_t, listD_l, sseq_eq, seqR_nx, seqR_rt, seqR_ite, endD_ite, bind_ite, sret_eq, sset_eq, sown_eq, sbind_eq, snx_eq, sif_eq, f1_eq, f2_eq, fN_eq, fcons_eq, fnil_eq, kc_eq, tv_eq, tb_eq, boolD_b, tor_eq, tand_eq, tnot_eq, vand_eq, vor_eq, spar_eq, iseq_eq, seqD_l, seqD_t, ienum_eq, enumD_l, enumD_t, irange1_eq, irange2_eq, fch_eq, chL_t, chL_f, fsl_eq, onone_eq, osome_eq, intO_i, sfor_eq, nm_0, nb_0, nbo_0, nm_s, nb_s, obs, obn, ls0, lsS, bindP1, bindT1, bindT2, bindT3, bindT4, tup0, tup1, tup2, tup3, tup4, lst0, lst1, lst2, lst3, lst4, lst5, lst7, lst8, isiD_i, isiD_ib, isiD_is, isiD_in, isiD_it, isiD_il, isiB_i, isiB_b, isiB_s, isiT_i, isiT_b, isiT_s, isiT_n, isiT_t, isiT_l, setE, addD_i, subD_i, negD_i, absD_i, ltD_i, leD_i, gtD_i, geD_i, eqD_i, neD_i, eqD_b, neD_b, isD_b, isntD_b, ixT0, ixT1, ixT2, ixT3, truD_b, truD_t, truD_l, lenD_t, lenD_l, notD_b, tupleD_l, tupleD_t, endD_ret, endD_rt, reduceIte, if_true, if_false, Bool.false_eq_true, Bool.not_true, Bool.not_false, decide_true, decide_false, Bool.true_eq, ne_eq])
local macro_rules | `(tactic| walk_at "pvs") => `(tactic| simp only [*, wipe_nil, wipe_cons, sext_eq, sapp_eq, sput_eq, nxE_nx, farsD_n, turnsD_n, insideD_n, fM_eq, netB_n, seqD_d, sdrop_eq, slT_1, slL_1, slS_1, slT_2, slL_2, slS_2, slT_3, slL_3, slS_3, slT_4, slL_4, slS_4, slT_5, slL_5, slS_5, slT_6, slL_6, slS_6, slT_7, slL_7, slS_7, slT_8, slL_8, slS_8, slT_9, slL_9, slS_9, slT_10, slL_10, slS_10, slT_12, slL_12, slS_12, slT_16, slL_16, slS_16, listD_t, listD_l, mulD_r, mulD_l, modD_i, fdivD_i, sseq_eq, seqR_nx, seqR_rt, seqR_ite, endD_ite, bind_ite, sret_eq, sset_eq, sown_eq, sbind_eq, snx_eq, sif_eq, f1_eq, f2_eq, fN_eq, fcons_eq, fnil_eq, kc_eq, tv_eq, tb_eq, boolD_b, tor_eq, tand_eq, tnot_eq, vand_eq, vor_eq, spar_eq, iseq_eq, seqD_l, seqD_t, ienum_eq, enumD_l, enumD_t, irange1_eq, irange2_eq, fch_eq, chL_t, chL_f, fsl_eq, onone_eq, osome_eq, intO_i, sfor_eq, nm_0, nb_0, nbo_0, nm_s, nb_s, obs, obn, ls0, lsS, bindP1, bindT1, bindT2, bindT3, bindT4, tup0, tup1, tup2, tup3, tup4, lst0, lst1, lst2, lst3, lst4, lst5, lst7, lst8, isiD_i, isiD_ib, isiD_is, isiD_in, isiD_it, isiD_il, isiB_i, isiB_b, isiB_s, isiT_i, isiT_b, isiT_s, isiT_n, isiT_t, isiT_l, setE, addD_i, subD_i, negD_i, absD_i, ltD_i, leD_i, gtD_i, geD_i, eqD_i, neD_i, eqD_b, neD_b, isD_b, isntD_b, ixT0, ixT1, ixT2, ixT3, truD_b, truD_t, truD_l, lenD_t, lenD_l, notD_b, tupleD_l, tupleD_t, endD_ret, endD_rt, reduceIte, if_true, if_false, Bool.false_eq_true, Bool.not_true, Bool.not_false, decide_true, decide_false, Bool.true_eq, ne_eq])
local macro_rules | `(tactic| walk_at "pvo") => `(tactic| simp (disch := omega) only [addD_l, addD_t, rng1D_i, rng2D_i, wipe_nil, wipe_cons, sext_eq, sapp_eq, sput_eq, nxE_nx, farsD_n, turnsD_n, insideD_n, fM_eq, netB_n, seqD_d, sdrop_eq, slT_1, slL_1, slS_1, slT_2, slL_2, slS_2, slT_3, slL_3, slS_3, slT_4, slL_4, slS_4, slT_5, slL_5, slS_5, slT_6, slL_6, slS_6, slT_7, slL_7, slS_7, slT_8, slL_8, slS_8, slT_9, slL_9, slS_9, slT_10, slL_10, slS_10, slT_12, slL_12, slS_12, slT_16, slL_16, slS_16, listD_t, listD_l, mulD_r, mulD_l, modD_i, fdivD_i, sseq_eq, seqR_nx, seqR_rt, seqR_ite, endD_ite, bind_ite, sret_eq, sset_eq, sown_eq, sbind_eq, snx_eq, sif_eq, f1_eq, f2_eq, fN_eq, fcons_eq, fnil_eq, kc_eq, tv_eq, tb_eq, boolD_b, tor_eq, tand_eq, tnot_eq, vand_eq, vor_eq, spar_eq, iseq_eq, seqD_l, seqD_t, ienum_eq, enumD_l, enumD_t, irange1_eq, irange2_eq, fch_eq, chL_t, chL_f, fsl_eq, onone_eq, osome_eq, intO_i, sfor_eq, nm_0, nb_0, nbo_0, nm_s, nb_s, obs, obn, ls0, lsS, bindP1, bindT1, bindT2, bindT3, bindT4, tup0, tup1, tup2, tup3, tup4, lst0, lst1, lst2, lst3, lst4, lst5, lst7, lst8, isiD_i, isiD_ib, isiD_is, isiD_in, isiD_it, isiD_il, isiB_i, isiB_b, isiB_s, isiT_i, isiT_b, isiT_s, isiT_n, isiT_t, isiT_l, setE, addD_i, subD_i, negD_i, absD_i, ltD_i, leD_i, gtD_i, geD_i, eqD_i, neD_i, eqD_b, neD_b, isD_b, isntD_b, ixT0, ixT1, ixT2, ixT3, truD_b, truD_t, truD_l, lenD_t, lenD_l, notD_b, tupleD_l, tupleD_t, endD_ret, endD_rt, reduceIte, if_true, if_false, Bool.false_eq_true, Bool.not_true, Bool.not_false, decide_true, decide_false, Bool.true_eq, ne_eq])
def gcdI (a b : Int) : Int := (Int.gcd a b : Nat)
theorem gcd_pos {a b : Int} (h : 0 < b) : 0 < gcdI a b := by
  unfold gcdI
  have : 0 < Int.gcd a b := Int.gcd_pos_of_ne_zero_right a (by omega)
  omega
theorem gcd_le {a b : Int} (h : 0 < b) : gcdI a b ≤ b := Int.le_of_dvd h (Int.gcd_dvd_right a b)
theorem gcd_dl {a b : Int} : gcdI a b ∣ a := Int.gcd_dvd_left a b
theorem gcd_dr {a b : Int} : gcdI a b ∣ b := Int.gcd_dvd_right a b
theorem gcd_step (a b : Int) : Int.gcd b (a % b) = Int.gcd a b := by
  have h : a % b + b * (a / b) = a := Int.emod_add_mul_ediv a b
  conv => rhs; rw [← h]
  rw [Int.gcd_comm b, Int.gcd_add_mul_left_left]
theorem c_common_t {a b : Int} (h : 0 ≤ b) (hb : b < 1000000000) : c_common [.int a, .int b] = some (.int (gcdI a b)) := by
  rw [st_common]
  unfold F_common
  walk_at "pv"
  rw [swhile_eq]
  obtain ⟨z, e, ok, g, j⟩ := whileD_ind (c := tb (f2 neD (nb 1) (kc (.int 0)))) (b := spar 0 1 (nm 1) (f2 modD (nb 0) (nb 1))) (fun s : Int × Int => [.sh (.int s.1), .sh (.int s.2)]) (fun s => 0 ≤ s.2) (fun s => !(s.2 == 0)) (fun s => (s.2, s.1 % s.2)) (fun s => s.2.toNat)
    (fun s hs => by walk_at "pv") (fun s hs hg => by
      have h0 : 0 < s.2 := by
        rcases Int.lt_or_eq_of_le hs with h | h
        · exact h
        · rw [← h] at hg; cases hg
      have h1 : 0 ≤ s.1 % s.2 := Int.emod_nonneg _ (by omega)
      have h2 : s.1 % s.2 < s.2 := Int.emod_lt_of_pos _ h0
      refine ⟨?_, h1, by show (s.1 % s.2).toNat < s.2.toNat; omega⟩
      walk_at "pvo") (fun s => Int.gcd s.1 s.2 = Int.gcd a b) (fun s hs hg hj => by rw [← hj]; exact gcd_step _ _) fuel (a, b) h rfl (by unfold fuel; show b.toNat < _; omega)
  rw [e]
  have h0 : z.2 = 0 := by simpa using g
  walk_at "pv"
  have j : Int.gcd z.1 z.2 = Int.gcd a b := j
  rw [h0, Int.gcd_zero_right] at j
  unfold gcdI
  rw [← j]
  congr 2
  split <;> omega
def nf (u l : Int) : D := .tup [.int (u / gcdI u l), .int (l / gcdI u l)]
theorem c_fraction_t {u l : Int} (h : 0 < l) (hl : l < 1000000000) : c_fraction [.int u, .int l] = some (nf u l) := by
  rw [st_fraction]
  unfold F_fraction
  have h1 := gcd_pos (a := u) h
  have h2 := gcd_le (a := u) h
  have h3 : ¬ l < 0 := by omega
  have h4 := c_common_t (a := u) (b := l) (by omega) hl
  walk_at "pv"
  rw [decide_eq_false h3, if_neg Bool.false_ne_true]
  rw [h4]
  walk_at "pvo"
  rfl
theorem c_less_t {a b c d : Int} (hb : 0 < b) (hd : 0 < d) (hl : b * d < 1000000000) (hb1 : b < 1000000000) (hd1 : d < 1000000000) : c_less [.tup [.int a, .int b], .tup [.int c, .int d]] = some (nf (a * d - c * b) (b * d)) := by
  rw [st_less]
  unfold F_less
  have h := c_fraction_t (u := a * d - c * b) (l := b * d) (Int.mul_pos hb hd) hl
  walk_at "pvo"
  rw [h]
theorem c_is_more_t {a b c d : Int} (hb : b.natAbs < 2 ^ 64) (hd : d.natAbs < 2 ^ 64) : c_is_more [.tup [.int a, .int b], .tup [.int c, .int d]] = some (.bl (decide (c * b < a * d))) := by
  rw [st_is_more]
  unfold F_is_more
  walk_at "pvo"
theorem c_on_round_t {u l : Int} (h : 0 < l) (hl : l < 1000000000) : c_on_round [.tup [.int u, .int l]] = some (nf (u % (24 * l)) l) := by
  rw [st_on_round]
  unfold F_on_round
  have h1 := c_fraction_t (u := u % (24 * l)) (l := l) h hl
  walk_at "pvo"
  rw [h1]
/-- a piece, a sheet, a point -/
structure Pc where
  i : Int
  o : Int
  b : Int
  w : Int
def eQ (q : Pc) : D := .tup [.int q.i, .int q.o, .int q.b, .int q.w]
def eS (s : List Pc) : D := .tup (s.map eQ)
structure Pc.Ok (m : Int) (q : Pc) : Prop where
  i0 : 0 ≤ q.i
  io : q.i < q.o
  om : q.o ≤ m
  b0 : 0 ≤ q.b
  b1 : q.b < 24
  w0 : 0 < q.w
  w1 : q.w ≤ 24
structure Pt where
  u : Int
  l : Int
  tu : Int
  tl : Int
def eP (p : Pt) : D := .tup [.tup [.int p.u, .int p.l], .tup [.int p.tu, .int p.tl]]
structure Pt.Ok (p : Pt) : Prop where
  l0 : 0 < p.l
  l1 : p.l < 1000000
  tl0 : 0 < p.tl
  tl1 : p.tl < 1000000
def hasM (q : Pc) (p : Pt) : Bool := decide (q.i * p.l ≤ p.u) && (decide (p.u < q.o * p.l) && decide ((p.tu - q.b * p.tl) % (24 * p.tl) < q.w * p.tl))
/-- two fractions made less, compared -/
theorem nf_lt {x y w g g' : Int} (hy : 0 < y) (hg : 0 < g) (hg' : 0 < g') (d1 : g ∣ x) (d2 : g ∣ y) (d3 : g' ∣ (x / g) % (24 * (y / g))) (d4 : g' ∣ y / g) : ((x / g) % (24 * (y / g)) / g' < w * ((y / g) / g')) ↔ x % (24 * y) < w * y := by
  obtain ⟨x1, rfl⟩ := d1
  obtain ⟨y1, rfl⟩ := d2
  rw [Int.mul_ediv_cancel_left _ (by omega), Int.mul_ediv_cancel_left _ (by omega)] at *
  have e : (g * x1) % (24 * (g * y1)) = g * (x1 % (24 * y1)) := by
    rw [← Int.mul_emod_mul_of_pos _ _ hg, Int.mul_left_comm]
  rw [e]
  generalize x1 % (24 * y1) = r at *
  obtain ⟨r1, rfl⟩ := d3
  obtain ⟨y2, rfl⟩ := d4
  rw [Int.mul_ediv_cancel_left _ (by omega), Int.mul_ediv_cancel_left _ (by omega)]
  rw [show w * (g * (g' * y2)) = (g * g') * (w * y2) by simp only [Int.mul_left_comm, Int.mul_comm], show g * (g' * r1) = (g * g') * r1 by rw [Int.mul_assoc]]
  exact (Int.mul_lt_mul_left (Int.mul_pos hg hg')).symm
theorem ediv_le' {y g : Int} (hy : 0 < y) (hg : 0 < g) : y / g ≤ y := Int.ediv_le_self _ (by omega)
theorem ediv_pos' {y g : Int} (hy : 0 < y) (hg : 0 < g) (d : g ∣ y) : 0 < y / g := Int.ediv_pos_of_pos_of_dvd hy (by omega) d
theorem c_has_t {m : Int} {q : Pc} {p : Pt} (hm : m < 1000000) (hq : q.Ok m) (hp : p.Ok) : c_has [eQ q, eP p] = some (.bl (hasM q p)) := by
  obtain ⟨i, o, b, w⟩ := q
  obtain ⟨u, l, tu, tl⟩ := p
  obtain ⟨i0, io, om, b0, b1, w0, w1⟩ := hq
  obtain ⟨l0, l1, t0, t1⟩ := hp
  simp only at *
  have e1 := c_is_more_t (a := i) (b := 1) (c := u) (d := l) (by omega) (by omega)
  have e2 := c_is_more_t (a := o) (b := 1) (c := u) (d := l) (by omega) (by omega)
  have e3 := c_less_t (a := tu) (b := tl) (c := b) (d := 1) t0 (by omega) (by omega) (by omega) (by omega)
  rw [Int.mul_one, Int.mul_one] at e3
  have g0 := gcd_pos (a := tu - b * tl) t0
  have y0 := ediv_pos' t0 g0 gcd_dr
  have y1 := ediv_le' t0 g0
  have e4 := c_on_round_t (u := (tu - b * tl) / gcdI (tu - b * tl) tl) (l := tl / gcdI (tu - b * tl) tl) y0 (by omega)
  have g1 := gcd_pos (a := (tu - b * tl) / gcdI (tu - b * tl) tl % (24 * (tl / gcdI (tu - b * tl) tl))) y0
  have y2 := ediv_pos' y0 g1 gcd_dr
  have y3 := ediv_le' y0 g1
  have k := nf_lt (w := w) t0 g0 g1 gcd_dl gcd_dr gcd_dl gcd_dr
  have e5 := c_is_more_t (a := w) (b := 1) (c := (tu - b * tl) / gcdI (tu - b * tl) tl % (24 * (tl / gcdI (tu - b * tl) tl)) / gcdI ((tu - b * tl) / gcdI (tu - b * tl) tl % (24 * (tl / gcdI (tu - b * tl) tl))) (tl / gcdI (tu - b * tl) tl)) (d := tl / gcdI (tu - b * tl) tl / gcdI ((tu - b * tl) / gcdI (tu - b * tl) tl % (24 * (tl / gcdI (tu - b * tl) tl))) (tl / gcdI (tu - b * tl) tl)) (by omega) (by omega)
  rw [Int.mul_one, decide_eq_decide.mpr k] at e5
  unfold nf at e3 e4
  rw [Int.mul_one] at e1 e2
  rw [st_has]
  unfold F_has eQ eP
  walk_at "pv"
  rw [e1, e2]
  walk_at "pv"
  rw [e3]
  walk_at "pv"
  rw [e4]
  walk_at "pv"
  rw [e5]
  unfold hasM
  simp only
  by_cases j1 : u < i * l
  · rw [decide_eq_true j1, decide_eq_false (show ¬ i * l ≤ u by omega)]; rfl
  · rw [decide_eq_false j1, decide_eq_true (show i * l ≤ u by omega)]
    by_cases j2 : u < o * l
    · rw [decide_eq_true j2]; rfl
    · rw [decide_eq_false j2]; rfl
def layersM (s : List Pc) (p : Pt) : List Nat := (s.zipIdx.filter fun q => hasM q.1 p).map Prod.snd
def eL (ns : List Nat) : D := .tup (ns.map fun k : Nat => D.int (k : Int))
theorem c_layers_t {m : Int} {s : List Pc} {p : Pt} (hm : m < 1000000) (hs : ∀ q ∈ s, q.Ok m) (hl : s.length < 1000) (hp : p.Ok) : c_layers [eS s, eP p] = some (eL (layersM s p)) := by
  rw [st_layers]
  unfold F_layers
  walk_at "pv"
  rw [lcF_map (fun q : Pc × Nat => D.tup [.int (q.2 : Int), eQ q.1]) (fun q => hasM q.1 p) (fun q => .int (q.2 : Int)) s.zipIdx (by
    unfold eS
    walk_at "pv"
    rw [numL_map]) (by rw [List.length_zipIdx]; unfold big; omega) (fun q hq => by
    have hq' : q.1 ∈ s := by
      have := List.mem_zipIdx hq
      obtain ⟨_, h1, h2⟩ := this
      rw [h2]; exact List.getElem_mem _
    have e := c_has_t hm (hs _ hq') hp
    refine ⟨_, bindT2, ?_, fun _ => ?_⟩
    · walk_at "pv"
      rw [e]
      walk_at "pv"
    · walk_at "pv")]
  walk_at "pv"
  unfold eL layersM
  rw [List.map_map]; rfl
def mixM (c p m : Int) : Int := c * 48271 % p % m
theorem mix_b {c p m : Int} (h : 0 < m) : 0 ≤ mixM c p m ∧ mixM c p m < m := ⟨Int.emod_nonneg _ (by omega), Int.emod_lt_of_pos _ h⟩
theorem c__law_mix_t {c p m : Int} (hp : 0 < p) (hm : 0 < m) : c__law_mix [.int c, .int p, .int m] = some (.int (mixM c p m)) := by
  rw [st__law_mix]
  unfold F__law_mix
  walk_at "pvo"
  rfl
def pieceM (c m : Int) : Pc := ⟨mixM c 9973 m, mixM c 9973 m + 1 + mixM c 9967 (m - mixM c 9973 m), mixM c 9941 24, if c % 4 = 0 then 24 else 1 + mixM c 9949 24⟩
theorem pieceM_ok {c m : Int} (hm : 0 < m) : (pieceM c m).Ok m := by
  have h1 := mix_b (c := c) (p := 9973) hm
  have h2 := mix_b (c := c) (p := 9967) (m := m - mixM c 9973 m) (by omega)
  have h3 := mix_b (c := c) (p := 9941) (m := 24) (by omega)
  have h4 := mix_b (c := c) (p := 9949) (m := 24) (by omega)
  refine ⟨?_, ?_, ?_, ?_, ?_, ?_, ?_⟩ <;> simp only [pieceM] <;> (try split) <;> omega
theorem c__law_piece_t {c m : Int} (hm : 0 < m) : c__law_piece [.int c, .int m] = some (eQ (pieceM c m)) := by
  have h1 := mix_b (c := c) (p := 9973) hm
  have e1 := c__law_mix_t (c := c) (p := 9973) (m := m) (by omega) hm
  have e2 := c__law_mix_t (c := c) (p := 9967) (m := m - mixM c 9973 m) (by omega) (by omega)
  have e3 := c__law_mix_t (c := c) (p := 9949) (m := 24) (by omega) (by omega)
  have e4 := c__law_mix_t (c := c) (p := 9941) (m := 24) (by omega) (by omega)
  rw [st__law_piece]
  unfold F__law_piece
  walk_at "pv"
  rw [e1]
  walk_at "pv"
  rw [e2]
  walk_at "pv"
  rw [e3]
  walk_at "pvo"
  unfold eQ pieceM
  by_cases h : c % 4 = 0
  · rw [if_pos (by rw [h]; rfl)]
    walk_at "pv"
    rw [e4]
    walk_at "pv"
    simp only [h, if_true]
  · rw [if_neg (by simpa using h)]
    walk_at "pv"
    rw [e4]
    walk_at "pv"
    simp only [h, if_false]
def sheetM (c m n : Int) : List Pc := (List.range (mixM c 9931 (n + 1)).toNat).map fun k : Nat => pieceM (c + 11 * (k : Int)) m
theorem sheetM_len {c m n : Int} (hn : 0 ≤ n) : ((sheetM c m n).length : Int) ≤ n := by
  have h1 := mix_b (c := c) (p := 9931) (m := n + 1) (by omega)
  unfold sheetM
  rw [List.length_map, List.length_range]
  omega
theorem sheetM_ok {c m n : Int} (hm : 0 < m) : ∀ q ∈ sheetM c m n, q.Ok m := fun q hq => by
  obtain ⟨k, _, rfl⟩ := List.mem_map.mp hq
  exact pieceM_ok hm
theorem c__law_sheet_t {c m n : Int} (hm : 0 < m) (hn : 0 ≤ n) (hn1 : n < 1000) : c__law_sheet [.int c, .int m, .int n] = some (eS (sheetM c m n)) := by
  have h1 := mix_b (c := c) (p := 9931) (m := n + 1) (by omega)
  have e1 := c__law_mix_t (c := c) (p := 9931) (m := n + 1) (by omega) (by omega)
  rw [st__law_sheet]
  unfold F__law_sheet eS sheetM
  obtain ⟨k, hk⟩ := Int.ex_nat h1.1
  walk_at "pv"
  rw [lcF_all (fun i : Nat => D.int (i : Int)) (fun i => eQ (pieceM (c + 11 * (i : Int)) m)) (List.range k) (by
    walk_at "pv"
    rw [e1, hk]
    walk_at "pv"
    rw [rng1D_i (by omega), rangeL_nat]) (by rw [List.length_range]; unfold big; omega) (fun i _ => ⟨_, bindP1, by
      have e := c__law_piece_t (c := c + 11 * (i : Int)) hm
      walk_at "pv"
      rw [mulD_l (by decide)]
      walk_at "pv"
      rw [e]⟩)]
  walk_at "pv"
  rw [hk, Int.toNat_natCast, List.map_map]; rfl
theorem c__law_has_t {m : Int} {q : Pc} {p : Pt} (hm : m < 1000000) (hq : q.Ok m) (hp : p.Ok) : c__law_has [eQ q, .tup [.int p.u, .int p.l], .tup [.int p.tu, .int p.tl]] = some (.bl (hasM q p)) := by
  obtain ⟨i, o, b, w⟩ := q
  obtain ⟨u, l, tu, tl⟩ := p
  obtain ⟨i0, io, om, b0, b1, w0, w1⟩ := hq
  obtain ⟨l0, l1, t0, t1⟩ := hp
  simp only at *
  rw [st__law_has]
  unfold F__law_has eQ
  walk_at "pvo"
  unfold hasM
  simp only
  by_cases j1 : u < i * l
  · rw [decide_eq_true j1, decide_eq_false (show ¬ i * l ≤ u by omega)]; rfl
  · rw [decide_eq_false j1, decide_eq_true (show i * l ≤ u by omega)]
    by_cases j2 : u < o * l
    · rw [decide_eq_true j2, decide_eq_false (show ¬ o * l ≤ u by omega)]; rfl
    · rw [decide_eq_false j2, decide_eq_true (show o * l ≤ u by omega)]; rfl
theorem c__law_layers_t {m : Int} {s : List Pc} {p : Pt} (hm : m < 1000000) (hs : ∀ q ∈ s, q.Ok m) (hl : s.length < 1000) (hp : p.Ok) : c__law_layers [eS s, eP p] = some (eL (layersM s p)) := by
  rw [st__law_layers]
  unfold F__law_layers
  walk_at "pv"
  rw [lcF_map (fun q : Pc × Nat => D.tup [.int (q.2 : Int), eQ q.1]) (fun q => hasM q.1 p) (fun q => .int (q.2 : Int)) s.zipIdx (by
    unfold eS
    walk_at "pv"
    rw [numL_map]) (by rw [List.length_zipIdx]; unfold big; omega) (fun q hq => by
    have hq' : q.1 ∈ s := by
      have := List.mem_zipIdx hq
      obtain ⟨_, h1, h2⟩ := this
      rw [h2]; exact List.getElem_mem _
    have e := c__law_has_t hm (hs _ hq') hp
    refine ⟨_, bindT2, ?_, fun _ => ?_⟩
    · unfold eP
      walk_at "pv"
      rw [e]
      walk_at "pv"
    · walk_at "pv")]
  walk_at "pv"
  unfold eL layersM
  rw [List.map_map]; rfl
def hfU (x : Int) : Int := if x % 2 = 0 then x / 2 else x
def hfL (x : Int) : Int := if x % 2 = 0 then 1 else 2
theorem hf_cases (x : Int) : (x % 2 = 0 ∧ hfU x = x / 2 ∧ hfL x = 1) ∨ (x % 2 = 1 ∧ hfU x = x ∧ hfL x = 2) := by
  by_cases h : x % 2 = 0
  · exact .inl ⟨h, if_pos h, if_pos h⟩
  · exact .inr ⟨by omega, if_neg h, if_neg h⟩
def wd (T : List Int) (n : Nat) : Int := T.getD (n + 1) 24 - T.getD n 0
abbrev netD (L T : List Int) (i : D) : D := .net (.lst (L.map D.int)) (.lst (T.map D.int)) i
theorem c_half_t {x : Int} : c_half [.int x] = some (.tup [.int (hfU x), .int (hfL x)]) := by
  rw [st_half]
  unfold F_half
  walk_at "pvo"
  unfold hfU hfL
  by_cases h : x % 2 = 0
  · rw [if_pos (by rw [h]; rfl), if_pos h, if_pos h]
  · rw [if_neg (by simpa using h), if_neg h, if_neg h]
theorem getD_last {T : List Int} {n : Nat} {d : Int} (h : ¬ n < T.length) : T.getD n d = d := by
  rw [List.getD_eq_getElem?_getD, List.getElem?_eq_none (by omega)]; rfl
theorem getD_any {T : List Int} {n : Nat} {d e : Int} (h : n < T.length) : T.getD n d = T.getD n e := by
  rw [List.getD_eq_getElem?_getD, List.getD_eq_getElem?_getD, List.getElem?_eq_getElem h]; rfl
theorem c_Net_width_t {L T : List Int} {i : D} {n : Nat} (h : n < T.length) (hT : T.length < 1000) : c_Net_width [netD L T i, .int (n : Int)] = some (.int (wd T n)) := by
  rw [st_Net_width]
  unfold F_Net_width
  walk_at "pv"
  rw [List.length_map]
  by_cases h1 : n + 1 < T.length
  · rw [if_pos (by simp; omega), ixI (k := n + 1) (by omega) h1, ixI (k := n) rfl h]
    walk_at "pv"
    unfold wd
    rw [getD_any (d := 0) (e := 24) h1]
  · rw [if_neg (by simp; omega), ixI (k := n) rfl h]
    walk_at "pv"
    unfold wd
    rw [getD_last (d := 24) h1]
def cellPt (L T : List Int) (k n : Nat) : Pt :=
  if k + 1 < L.length then ⟨hfU (L.getD k 0 + L.getD (k + 1) 0), hfL (L.getD k 0 + L.getD (k + 1) 0), hfU (2 * T.getD n 0 + wd T n), hfL (2 * T.getD n 0 + wd T n)⟩
  else ⟨L.getD k 0 + 1, 1, hfU (2 * T.getD n 0 + wd T n), hfL (2 * T.getD n 0 + wd T n)⟩
theorem hfL_b {x : Int} : 0 < hfL x ∧ hfL x < 1000000 := by unfold hfL; split <;> omega
theorem cellPt_ok {L T : List Int} {k n : Nat} : (cellPt L T k n).Ok := by
  have h1 := hfL_b (x := 2 * T.getD n 0 + wd T n)
  have h2 := hfL_b (x := L.getD k 0 + L.getD (k + 1) 0)
  unfold cellPt
  split
  · exact ⟨h2.1, h2.2, h1.1, h1.2⟩
  · exact ⟨Int.zero_lt_one, (by decide : (1 : Int) < 1000000), h1.1, h1.2⟩
theorem c_Net_point_in_t {L T : List Int} {i : D} {k n : Nat} (hk : k < L.length) (h : n < T.length) (hT : T.length < 1000) : c_Net_point_in [netD L T i, .tup [.int (k : Int), .int (n : Int)]] = some (eP (cellPt L T k n)) := by
  rw [st_Net_point_in]
  unfold F_Net_point_in
  have e1 := c_Net_width_t (L := L) (i := i) h hT
  have i0 : ixD (.lst (L.map D.int)) (.int (k : Int)) = some (.int (L.getD k 0)) := ixI rfl hk
  have i1 : k + 1 < L.length → ixD (.lst (L.map D.int)) (.int ((k : Int) + 1)) = some (.int (L.getD (k + 1) 0)) := fun h => ixI (by omega) h
  have i2 : ixD (.lst (T.map D.int)) (.int (n : Int)) = some (.int (T.getD n 0)) := ixI rfl h
  walk_at "pv"
  rw [i0]
  walk_at "pv"
  rw [List.length_map]
  by_cases h1 : k + 1 < L.length
  · rw [if_pos (by simp; omega), i1 h1, i0]
    walk_at "pv"
    rw [c_half_t]
    walk_at "pv"
    rw [i2]
    walk_at "pv"
    rw [mulD_l (by decide)]
    walk_at "pv"
    rw [e1]
    walk_at "pv"
    rw [c_half_t]
    walk_at "pv"
    unfold cellPt
    rw [if_pos h1]; rfl
  · rw [if_neg (by simp; omega)]
    rw [i2]
    walk_at "pv"
    rw [mulD_l (by decide)]
    walk_at "pv"
    rw [e1]
    walk_at "pv"
    rw [c_half_t]
    walk_at "pv"
    unfold cellPt
    rw [if_neg h1]; rfl
/-- a piece over a small cell -/
def inC (q : Pc) (r t : Int) : Bool := decide (q.i ≤ r) && (decide (r < q.o) && decide ((t - q.b) % 24 < q.w))
def LY (s : List Pc) (r t : Int) : List Nat := (s.zipIdx.filter fun q => inC q.1 r t).map Prod.snd
/-- the breaks -/
structure Brk (L T : List Int) (q : Pc) : Prop where
  i : q.i ∈ L
  o : q.o ∈ L
  b : q.b ∈ T
  e : (q.b + q.w) % 24 ∈ T
structure UpT (L T : List Int) : Prop where
  l : L.Pairwise (· < ·)
  t : T.Pairwise (· < ·)
  t0 : ∀ x ∈ T, 0 ≤ x ∧ x < 24
theorem up_get {L : List Int} (h : L.Pairwise (· < ·)) {i j : Nat} (hij : i < j) (hj : j < L.length) : L.getD i 0 < L.getD j 0 := by
  rw [List.getD_eq_getElem?_getD, List.getD_eq_getElem?_getD, List.getElem?_eq_getElem hj, List.getElem?_eq_getElem (Nat.lt_trans hij hj)]
  exact List.pairwise_iff_getElem.mp h i j _ _ hij
theorem up_split {L : List Int} (h : L.Pairwise (· < ·)) {x : Int} (hx : x ∈ L) {k : Nat} (hk : k < L.length) : x ≤ L.getD k 0 ∨ (k + 1 < L.length ∧ L.getD (k + 1) 0 ≤ x) := by
  obtain ⟨j, hj, rfl⟩ := List.getElem_of_mem hx
  have e : L[j] = L.getD j 0 := by rw [List.getD_eq_getElem?_getD, List.getElem?_eq_getElem hj]; rfl
  rw [e]
  rcases Nat.lt_trichotomy j k with c | c | c
  · exact .inl (Int.le_of_lt (up_get h c hk))
  · subst c; exact .inl (Int.le_refl _)
  · refine .inr ⟨by omega, ?_⟩
    rcases Nat.eq_or_lt_of_le (show k + 1 ≤ j by omega) with e | e
    · subst e; exact Int.le_refl _
    · exact Int.le_of_lt (up_get h e hj)
theorem turn_cell {b w t e : Int} (b0 : 0 ≤ b) (b1 : b < 24) (w0 : 0 < w) (w1 : w ≤ 24) (t0 : 0 ≤ t) (te : t < e) (e1 : e ≤ 24) (hb : b ≤ t ∨ e ≤ b) (hf : (b + w) % 24 ≤ t ∨ e ≤ (b + w) % 24) :
    ((hfU (2 * t + (e - t)) - b * hfL (2 * t + (e - t))) % (24 * hfL (2 * t + (e - t))) < w * hfL (2 * t + (e - t)) ↔ (t - b) % 24 < w) := by
  rcases hf_cases (2 * t + (e - t)) with ⟨h1, h2, h3⟩ | ⟨h1, h2, h3⟩ <;> rw [h2, h3] <;> omega
theorem turn_next {T : List Int} (h : T.Pairwise (· < ·)) (h0 : ∀ x ∈ T, 0 ≤ x ∧ x < 24) {n : Nat} (hn : n < T.length) : 0 ≤ T.getD n 0 ∧ T.getD n 0 < T.getD (n + 1) 24 ∧ T.getD (n + 1) 24 ≤ 24 ∧ ∀ x ∈ T, x ≤ T.getD n 0 ∨ T.getD (n + 1) 24 ≤ x := by
  have hm : T.getD n 0 ∈ T := by
    rw [List.getD_eq_getElem?_getD, List.getElem?_eq_getElem hn]; exact List.getElem_mem _
  have h1 := h0 _ hm
  by_cases h2 : n + 1 < T.length
  · have hm2 : T.getD (n + 1) 0 ∈ T := by
      rw [List.getD_eq_getElem?_getD, List.getElem?_eq_getElem h2]; exact List.getElem_mem _
    have h3 := h0 _ hm2
    rw [getD_any (d := 24) (e := 0) h2]
    refine ⟨h1.1, up_get h (Nat.lt_succ_self n) h2, by omega, fun x hx => ?_⟩
    rcases up_split h hx hn with c | c
    · exact .inl c
    · exact .inr c.2
  · rw [getD_last h2]
    refine ⟨h1.1, h1.2, by omega, fun x hx => ?_⟩
    rcases up_split h hx hn with c | c
    · exact .inl c
    · exact absurd c.1 h2
theorem has_cell {L T : List Int} {m : Int} {q : Pc} (hq : q.Ok m) (B : Brk L T q) (U : UpT L T) {k n : Nat} (hk : k < L.length) (hn : n < T.length) : hasM q (cellPt L T k n) = inC q (L.getD k 0) (T.getD n 0) := by
  obtain ⟨i0, io, om, b0, b1, w0, w1⟩ := hq
  obtain ⟨t1, t2, t3, t4⟩ := turn_next U.t U.t0 hn
  have tc := turn_cell b0 b1 w0 w1 t1 t2 t3 (t4 _ B.b) (t4 _ B.e)
  have c1 := up_split U.l B.i hk
  have c2 := up_split U.l B.o hk
  unfold hasM inC cellPt wd
  by_cases h : k + 1 < L.length
  · rw [if_pos h]
    simp only
    rw [decide_eq_decide.mpr tc]
    have lt : L.getD k 0 < L.getD (k + 1) 0 := up_get U.l (Nat.lt_succ_self k) h
    have a1 : (q.i * hfL (L.getD k 0 + L.getD (k + 1) 0) ≤ hfU (L.getD k 0 + L.getD (k + 1) 0)) ↔ q.i ≤ L.getD k 0 := by
      rcases hf_cases (L.getD k 0 + L.getD (k + 1) 0) with ⟨h1, h2, h3⟩ | ⟨h1, h2, h3⟩ <;> rw [h2, h3] <;> omega
    have a2 : (hfU (L.getD k 0 + L.getD (k + 1) 0) < q.o * hfL (L.getD k 0 + L.getD (k + 1) 0)) ↔ L.getD k 0 < q.o := by
      rcases hf_cases (L.getD k 0 + L.getD (k + 1) 0) with ⟨h1, h2, h3⟩ | ⟨h1, h2, h3⟩ <;> rw [h2, h3] <;> omega
    rw [decide_eq_decide.mpr a1, decide_eq_decide.mpr a2]
  · rw [if_neg h]
    simp only
    rw [decide_eq_decide.mpr tc, Int.mul_one, Int.mul_one]
    rw [decide_eq_decide.mpr (show q.i ≤ L.getD k 0 + 1 ↔ q.i ≤ L.getD k 0 by omega), decide_eq_decide.mpr (show L.getD k 0 + 1 < q.o ↔ L.getD k 0 < q.o by omega)]
theorem layers_cell {L T : List Int} {m : Int} {s : List Pc} (hs : ∀ q ∈ s, q.Ok m) (B : ∀ q ∈ s, Brk L T q) (U : UpT L T) {k n : Nat} (hk : k < L.length) (hn : n < T.length) : layersM s (cellPt L T k n) = LY s (L.getD k 0) (T.getD n 0) := by
  unfold layersM LY
  rw [List.filter_congr fun q hq => ?_]
  obtain ⟨_, _, h2⟩ := List.mem_zipIdx hq
  have hm : q.1 ∈ s := by rw [h2]; exact List.getElem_mem _
  exact has_cell (hs _ hm) (B _ hm) U hk hn
/-- what the breaks are -/
def FL (s : List Pc) : List Int := 0 :: s.flatMap fun q => [q.i, q.o]
def TL (s : List Pc) : List Int := (s.flatMap fun q => [q.b, (q.b + q.w) % 24]) ++ [0]
def FA (s : List Pc) : List Int := sortU (FL s)
def TU (s : List Pc) : List Int := sortU (TL s)
theorem brk_of (s : List Pc) : ∀ q ∈ s, Brk (FA s) (TU s) q := fun q hq => by
  refine ⟨mem_sortU.mpr ?_, mem_sortU.mpr ?_, mem_sortU.mpr ?_, mem_sortU.mpr ?_⟩
  · exact List.mem_cons_of_mem _ (List.mem_flatMap.mpr ⟨q, hq, by simp⟩)
  · exact List.mem_cons_of_mem _ (List.mem_flatMap.mpr ⟨q, hq, by simp⟩)
  · exact List.mem_append_left _ (List.mem_flatMap.mpr ⟨q, hq, by simp⟩)
  · exact List.mem_append_left _ (List.mem_flatMap.mpr ⟨q, hq, by simp⟩)
theorem up_of {m : Int} {s : List Pc} (hs : ∀ q ∈ s, q.Ok m) : UpT (FA s) (TU s) := by
  refine ⟨sortU_up _, sortU_up _, fun x hx => ?_⟩
  rcases List.mem_append.mp (mem_sortU.mp hx) with h | h
  · obtain ⟨q, hq, h⟩ := List.mem_flatMap.mp h
    have := (hs q hq).b0
    have := (hs q hq).b1
    simp only [List.mem_cons, List.not_mem_nil, or_false] at h
    rcases h with rfl | rfl <;> omega
  · simp only [List.mem_cons, List.not_mem_nil, or_false] at h
    omega
theorem len_insU {x : Int} : ∀ {l : List Int}, (insU x l).length ≤ l.length + 1
  | [] => by simp [insU]
  | y :: l => by
    have := len_insU (x := x) (l := l)
    unfold insU
    split
    · simp
    · split
      · simp
      · simp; omega
theorem len_sortU : ∀ {l : List Int}, (sortU l).length ≤ l.length
  | [] => Nat.le_refl _
  | x :: l => by
    have h1 := len_insU (x := x) (l := sortU l)
    have h2 := len_sortU (l := l)
    show (insU x (sortU l)).length ≤ _
    rw [List.length_cons]; omega
theorem flat2_len {α : Type} {f g : α → Int} (s : List α) : (s.flatMap fun q => [f q, g q]).length = 2 * s.length := by
  induction s with
  | nil => rfl
  | cons q s ih => rw [List.flatMap_cons, List.length_append, ih, List.length_cons]; simp; omega
theorem FL_len (s : List Pc) : (FL s).length = 2 * s.length + 1 := by unfold FL; rw [List.length_cons, flat2_len]
theorem TL_len (s : List Pc) : (TL s).length = 2 * s.length + 1 := by unfold TL; rw [List.length_append, flat2_len]; rfl
theorem up_len : ∀ (l : List Int) (a b : Int), l.Pairwise (· < ·) → (∀ x ∈ l, a ≤ x ∧ x < b) → a ≤ b → (l.length : Int) ≤ b - a
  | [], a, b, _, _, h => by simp; omega
  | x :: l, a, b, h, hx, hab => by
    obtain ⟨h1, h2⟩ := List.pairwise_cons.mp h
    have hx0 := hx x List.mem_cons_self
    have := up_len l (x + 1) b h2 (fun y hy => ⟨by have := h1 y hy; omega, (hx y (List.mem_cons_of_mem _ hy)).2⟩) (by omega)
    rw [List.length_cons]
    omega
theorem FA_b {m : Int} {s : List Pc} (h0 : 0 ≤ m) (hs : ∀ q ∈ s, q.Ok m) : ∀ x ∈ FA s, 0 ≤ x ∧ x ≤ m := fun x hx => by
  rcases List.mem_cons.mp (mem_sortU.mp hx) with rfl | h
  · omega
  · obtain ⟨q, hq, h⟩ := List.mem_flatMap.mp h
    have h1 := (hs q hq).i0
    have h2 := (hs q hq).io
    have h3 := (hs q hq).om
    simp only [List.mem_cons, List.not_mem_nil, or_false] at h
    rcases h with rfl | rfl <;> omega
theorem FA_len2 {m : Int} {s : List Pc} (h0 : 0 ≤ m) (hs : ∀ q ∈ s, q.Ok m) : ((FA s).length : Int) ≤ m + 1 := by
  have := up_len (FA s) 0 (m + 1) (sortU_up _) (fun x hx => by have := FA_b h0 hs x hx; omega) (by omega)
  omega
theorem TU_len2 {m : Int} {s : List Pc} (hs : ∀ q ∈ s, q.Ok m) : (TU s).length ≤ 24 := by
  have := up_len (TU s) 0 24 (sortU_up _) (fun x hx => (up_of hs).t0 x hx) (by omega)
  omega
def insF (s : List Pc) (k n : Nat) : D := eL (LY s ((FA s).getD k 0) ((TU s).getD n 0))
def netM (s : List Pc) : D := netD (FA s) (TU s) (.dct (dgrid (FA s).length (TU s).length (insF s)))
theorem FL_app {s : List Pc} {q : Pc} : FL (s ++ [q]) = FL s ++ [q.i, q.o] := by
  unfold FL; rw [List.flatMap_append]; rfl
theorem FA_len (s : List Pc) : (FA s).length ≤ 2 * s.length + 1 := Nat.le_trans len_sortU (by rw [FL_len]; exact Nat.le_refl _)
theorem TU_len (s : List Pc) : (TU s).length ≤ 2 * s.length + 1 := Nat.le_trans len_sortU (by rw [TL_len]; exact Nat.le_refl _)
theorem adrB_h {x : Addr} {ρ : Env} : adrB (.sh (.adr x) :: ρ) x = true := by
  show (x == x) = true
  exact beq_self_eq_true x
theorem forX_eq {α : Type} {I : Env → Option (List D)} {p : Pat} {step : α → Env → Option (α × Env)} {a : α} {ρ : Env} : forX I p step a ρ = (I ρ).bind fun items => forGo p step items a ρ := (rfl)
theorem unOw_sh {d : D} : unOw (.sh d) = .sh d := (rfl)
theorem unOw_ow {d : D} : unOw (.ow d) = .no := (rfl)
theorem unOw_n : unOw .no = .no := (rfl)
abbrev tls (s : List Pc) : List Int := s.flatMap fun q => [q.b, (q.b + q.w) % 24]
theorem n_F3_t {x : Addr} {s : List Pc} (hl : s.length ≤ 300) : nxP (n_F3 [.sh (.adr x), .sh (eS s), .ow (.lst [.int 0]), .ow (.lst []), .no, .no, .no, .no, .no, .no]) fun ρ => ∃ s4 s5 s6 s7, ρ = [.sh (.adr x), .sh (eS s), .ow (.lst ((FL s).map D.int)), .ow (.lst ((tls s).map D.int)), s4, s5, s6, s7, .no, .no] := by
  unfold n_F3
  unfold eS
  walk_at "pv"
  refine nxP_pre eQ (fun pre ρ => ∃ s4 s5 s6 s7, ρ = [.sh (.adr x), .sh (.tup (s.map eQ)), .ow (.lst ((FL pre).map D.int)), .ow (.lst ((tls pre).map D.int)), s4, s5, s6, s7, .no, .no]) s (fun pre q post hs ρ hρ => ?_) ⟨_, _, _, _, rfl⟩
  obtain ⟨s4, s5, s6, s7, rfl⟩ := hρ
  have hlen : pre.length < 300 := by
    have := congrArg List.length hs
    rw [List.length_append, List.length_cons] at this
    omega
  refine ⟨_, bindT4, ?_⟩
  walk_at "pv"
  rw [extAt_l rfl (by rw [List.length_map, FL_len]; unfold big; simp; omega)]
  walk_at "pv"
  rw [modD_i (by decide)]
  walk_at "pv"
  rw [extAt_l rfl (by rw [List.length_map, flat2_len]; unfold big; simp; omega)]
  walk_at "pv"
  refine nxP_nx ⟨.sh (.int q.i), .sh (.int q.o), .sh (.int q.b), .sh (.int q.w), ?_⟩
  rw [FL_app, List.map_append, show tls (pre ++ [q]) = tls pre ++ [q.b, (q.b + q.w) % 24] by unfold tls; rw [List.flatMap_append]; rfl, List.map_append]
  rfl
theorem net_val {m : Int} {s : List Pc} (hm : m < 1000000) (hs : ∀ q ∈ s, q.Ok m) (hl : s.length ≤ 300) {i : D} {k n : Nat} (hk : k < (FA s).length) (hn : n < (TU s).length) {s2 s3 s4 s5 s6 s7 : Sl} : n_Vf [.sh (netD (FA s) (TU s) i), .sh (eS s), s2, s3, s4, s5, s6, s7, .sh (.int (k : Int)), .sh (.int (n : Int))] = some (insF s k n) := by
  have e1 := c_Net_point_in_t (i := i) hk hn (by have := TU_len s; omega)
  have e2 := c_layers_t hm hs (by omega) (cellPt_ok (L := FA s) (T := TU s) (k := k) (n := n))
  rw [layers_cell hs (brk_of s) (up_of hs) hk hn] at e2
  unfold n_Vf
  walk_at "pv"
  rw [e1]
  walk_at "pv"
  rw [e2]; rfl
theorem c_Net_t {m : Int} {s : List Pc} (hm0 : m ≤ 60) (hs : ∀ q ∈ s, q.Ok m) (hl : s.length ≤ 300) : c_Net (eS s) = some (netM s) := by
  have hm : m < 1000000 := by omega
  have hF2 := FA_len2 (m := 60) (s := s) (by omega) fun q hq => ⟨(hs q hq).i0, (hs q hq).io, Int.le_trans (hs q hq).om hm0, (hs q hq).b0, (hs q hq).b1, (hs q hq).w0, (hs q hq).w1⟩
  have hT2 := TU_len2 hs
  have hF := FA_len s
  have hT := TU_len s
  refine anyX_i fun x => ?_
  unfold netF n_F1 n_F2
  walk_at "pv"
  obtain ⟨ρ, e, s4, s5, s6, s7, rfl⟩ := n_F3_t (x := x) hl
  rw [e]
  walk_at "pv"
  rw [if_pos adrB_h]
  unfold n_Ef n_Et
  walk_at "pv"
  rw [ssD_i ⟨by rw [FL_len]; omega, by show (FA s).length < 64; omega⟩]
  walk_at "pv"
  rw [addD_l (by rw [List.length_map, flat2_len]; unfold big; simp; omega)]
  walk_at "pv"
  rw [show (tls s).map D.int ++ [D.int 0] = (TL s).map D.int by unfold TL; rw [List.map_append]; rfl, ssD_i ⟨by rw [TL_len]; omega, by show (TU s).length < 64; omega⟩]
  walk_at "pv"
  simp only [List.map_cons, List.map_nil, unOw_sh, unOw_ow, unOw_n]
  walk_at "pv"
  rw [show sortU (FL s) = FA s from rfl, show sortU (TL s) = TU s from rfl, forX_eq]
  unfold n_Ik
  walk_at "pv"
  rw [List.length_map, rng1D_i (by omega), rangeL_nat]
  walk_at "pv"
  obtain ⟨z, ez, hz⟩ := forGo_range (p := .one 8) (step := forX n_In (.one 9) (putX n_Kf n_Vf)) (fun k kds ρ => kds = dgrid k (TU s).length (insF s) ∧ ∃ s2 s3 s4 s5 s6 s7 s8 s9, ρ = [.sh (netD (FA s) (TU s) .non), .sh (eS s), s2, s3, s4, s5, s6, s7, s8, s9]) (FA s).length (fun k hk a ρ ⟨ha, s2, s3, s4, s5, s6, s7, s8, s9, hρ⟩ => by
    subst ha hρ
    have inner : ∃ z, forX n_In (.one 9) (putX n_Kf n_Vf) (dgrid k (TU s).length (insF s)) [.sh (netD (FA s) (TU s) .non), .sh (eS s), s2, s3, s4, s5, s6, s7, .sh (.int (k : Int)), s9] = some z ∧ z.1 = dgrid (k + 1) (TU s).length (insF s) ∧ ∃ s2 s3 s4 s5 s6 s7 s8 s9, z.2 = [.sh (netD (FA s) (TU s) .non), .sh (eS s), s2, s3, s4, s5, s6, s7, s8, s9] := by
      rw [forX_eq]
      unfold n_In
      walk_at "pv"
      rw [List.length_map, rng1D_i (by omega), rangeL_nat]
      walk_at "pv"
      obtain ⟨z, ez, hz1, s9', hz2⟩ := forGo_range (p := .one 9) (step := putX n_Kf n_Vf) (fun n kds ρ => kds = dgrid k (TU s).length (insF s) ++ (List.range n).map (fun j => (kkey k j, insF s k j)) ∧ ∃ s9, ρ = [.sh (netD (FA s) (TU s) .non), .sh (eS s), s2, s3, s4, s5, s6, s7, .sh (.int (k : Int)), s9]) (TU s).length (fun n hn a ρ ⟨ha, s9, hρ⟩ => by
        subst ha hρ
        refine ⟨_, (dgrid k (TU s).length (insF s) ++ (List.range (n + 1)).map (fun j => (kkey k j, insF s k j)), [.sh (netD (FA s) (TU s) .non), .sh (eS s), s2, s3, s4, s5, s6, s7, .sh (.int (k : Int)), .sh (.int (n : Int))]), bindP1, ?_, rfl, .sh (.int (n : Int)), rfl⟩
        have e1 := net_val hm hs hl (i := .non) hk hn (s2 := s2) (s3 := s3) (s4 := s4) (s5 := s5) (s6 := s6) (s7 := s7)
        unfold putX
        walk_at "pv"
        rw [e1]
        unfold n_Kf
        walk_at "pv"
        show ((asInts ((kkey k n).map D.int)).bind _) = _
        rw [asInts_map]
        walk_at "pv"
        rw [if_pos (by
          rw [List.length_append, grid_len, List.length_map, List.length_range]
          have : k * (TU s).length ≤ 601 * 601 := Nat.mul_le_mul (by omega) (by omega)
          unfold big
          omega), put_grid hn]) (a := dgrid k (TU s).length (insF s)) (ρ := [.sh (netD (FA s) (TU s) .non), .sh (eS s), s2, s3, s4, s5, s6, s7, .sh (.int (k : Int)), s9]) ⟨by simp, s9, rfl⟩
      exact ⟨z, ez, by rw [hz1]; exact grid_s.symm, _, _, _, _, _, _, _, _, hz2⟩
    obtain ⟨z, e1, e2, e3⟩ := inner
    exact ⟨_, z, bindP1, e1, e2, e3⟩) (a := []) (ρ := [.sh (netD (FA s) (TU s) .non), .sh (eS s), .no, .no, unOw s4, unOw s5, unOw s6, unOw s7, .no, .no]) ⟨rfl, _, _, _, _, _, _, _, _, rfl⟩
  rw [ez]
  walk_at "pv"
  rw [hz.1]; rfl
theorem getD_mem {L : List Int} {k : Nat} (h : k < L.length) : L.getD k 0 ∈ L := by
  rw [List.getD_eq_getElem?_getD, List.getElem?_eq_getElem h]; exact List.getElem_mem _
def areaM (L T : List Int) (c : Nat × Nat) : Int := (L.getD (c.1 + 1) 0 * L.getD (c.1 + 1) 0 - L.getD c.1 0 * L.getD c.1 0) * wd T c.2
theorem c_Net_area_t {L T : List Int} {i : D} {k n : Nat} (hk : k + 1 < L.length) (hn : n < T.length) (hT : T.length < 1000) (hL : ∀ x ∈ L, x.natAbs < 2 ^ 64) (hw : (wd T n).natAbs < 2 ^ 64) : c_Net_area [netD L T i, .tup [.int (k : Int), .int (n : Int)]] = some (.int (areaM L T (k, n))) := by
  have e1 := c_Net_width_t (L := L) (i := i) hn hT
  have i0 : ixD (.lst (L.map D.int)) (.int (k : Int)) = some (.int (L.getD k 0)) := ixI rfl (by omega)
  have i1 : ixD (.lst (L.map D.int)) (.int ((k : Int) + 1)) = some (.int (L.getD (k + 1) 0)) := ixI (by omega) hk
  have l0 := hL _ (getD_mem (L := L) (k := k) (by omega))
  have l1 := hL _ (getD_mem (L := L) (k := k + 1) hk)
  rw [st_Net_area]
  unfold F_Net_area
  walk_at "pv"
  rw [List.length_map, if_neg (by simp; omega), i1]
  walk_at "pv"
  rw [mulD_r l1]
  walk_at "pv"
  rw [i0]
  walk_at "pv"
  rw [mulD_r l0]
  walk_at "pv"
  rw [e1]
  walk_at "pv"
  rw [mulD_r hw]
  rfl
theorem ixD_dk {kds : List (List Int × D)} {ns : List Int} : ixD (.dct kds) (.tup (ns.map D.int)) = getK kds ns := by
  show (asInts (ns.map D.int)).bind (fun ns => getK kds ns) = _
  rw [asInts_map]; rfl
def eC (c : Nat × Nat) : D := .tup [.int (c.1 : Int), .int (c.2 : Int)]
def cellsB (s : List Pc) : List (Nat × Nat) := grid ((FA s).length - 1) (TU s).length fun k n => (k, n)
theorem map_grid {α β : Type} {a b : Nat} {f : Nat → Nat → α} {g : α → β} : (grid a b f).map g = grid a b fun k n => g (f k n) := by
  unfold grid
  rw [List.map_flatMap]
  congr 1
  funext k
  rw [List.map_map]; rfl
theorem filter_grid {α : Type} {a b : Nat} {f : Nat → Nat → α} {t : α → Bool} (h : ∀ k n, k < a → n < b → t (f k n) = true) : (grid a b f).filter t = grid a b f := by
  rw [List.filter_eq_self]
  intro x hx
  obtain ⟨k, n, hk, hn, rfl⟩ := mem_grid.mp hx
  exact h k n hk hn
theorem filter_gridB {a b : Nat} : (grid (a + 1) b fun k n => (k, n)).filter (fun c => decide (c.1 + 1 < a + 1)) = grid a b fun k n => (k, n) := by
  rw [grid_s, List.filter_append, filter_grid (fun k n hk _ => by simpa using hk), List.filter_eq_nil_iff.mpr, List.append_nil]
  intro x hx
  obtain ⟨n, _, rfl⟩ := List.mem_map.mp hx
  simp
theorem FA_pos (s : List Pc) : 0 < (FA s).length := List.length_pos_of_mem (mem_sortU.mpr (List.mem_cons_self (a := (0 : Int))))
theorem TU_pos (s : List Pc) : 0 < (TU s).length := List.length_pos_of_mem (a := (0 : Int)) (mem_sortU.mpr (List.mem_append_right _ (by simp)))
theorem c_Net_bounded_t {s : List Pc} (hl : s.length ≤ 300) : c_Net_bounded [netM s] = some (.lst ((cellsB s).map eC)) := by
  have hF := FA_len s
  have hT := TU_len s
  have hp := FA_pos s
  obtain ⟨a, ha⟩ : ∃ a, (FA s).length = a + 1 := ⟨(FA s).length - 1, by omega⟩
  rw [st_Net_bounded]
  unfold F_Net_bounded netM
  walk_at "pv"
  rw [lcF_map eC (fun c => decide (c.1 + 1 < (FA s).length)) eC (grid (FA s).length (TU s).length fun k n => (k, n)) (by
    walk_at "pv"
    rw [map_grid, map_grid]; rfl) (by
    rw [grid_len]
    have : (FA s).length * (TU s).length ≤ 601 * 601 := Nat.mul_le_mul (by omega) (by omega)
    unfold big
    omega) (fun c hc => ⟨_, bindP1, by
      unfold eC
      walk_at "pv"
      rw [List.length_map]
      rw [decide_eq_decide.mpr (show (c.1 : Int) + 1 < ((FA s).length : Nat) ↔ c.1 + 1 < (FA s).length by omega)], fun _ => by walk_at "pv"⟩)]
  unfold cellsB
  rw [ha, filter_gridB, Nat.add_sub_cancel]
theorem wd_b {m : Int} {s : List Pc} (hs : ∀ q ∈ s, q.Ok m) {n : Nat} (hn : n < (TU s).length) : 0 < wd (TU s) n ∧ wd (TU s) n ≤ 24 := by
  obtain ⟨t1, t2, t3, t4⟩ := turn_next (up_of hs).t (up_of hs).t0 hn
  unfold wd
  omega
theorem LY_le {s : List Pc} {r t : Int} : (LY s r t).length ≤ s.length := by
  unfold LY
  rw [List.length_map]
  exact Nat.le_trans (List.length_filter_le _ _) (by rw [List.length_zipIdx]; exact Nat.le_refl _)
def addAt (f : List Int) (j : Nat) (a : Int) : List Int := if 0 < j then f.set (j - 1) (f.getD (j - 1) 0 + a) else f
theorem addAt_len {f : List Int} {j : Nat} {a : Int} : (addAt f j a).length = f.length := by unfold addAt; split <;> simp
def LYc (s : List Pc) (c : Nat × Nat) : List Nat := LY s ((FA s).getD c.1 0) ((TU s).getD c.2 0)
def depthM (s : List Pc) : List Int := (cellsB s).foldl (fun f c => addAt f (LYc s c).length (areaM (FA s) (TU s) c)) (List.replicate s.length 0)
theorem lenD_eL {ns : List Nat} : lenD (eL ns) = some (.int (ns.length : Nat)) := by
  unfold eL
  rw [lenD_t, List.length_map]
theorem mem_cellsB {s : List Pc} {c : Nat × Nat} (h : c ∈ cellsB s) : c.1 + 1 < (FA s).length ∧ c.2 < (TU s).length := by
  obtain ⟨k, n, hk, hn, rfl⟩ := mem_grid.mp h
  exact ⟨by simp only; omega, hn⟩
theorem c_depth_areas_t {m : Int} {s : List Pc} (h0 : 0 ≤ m) (hm : m ≤ 60) (hs : ∀ q ∈ s, q.Ok m) (hl : s.length ≤ 300) : c_depth_areas [eS s] = some (.tup ((depthM s).map D.int)) := by
  have hT := TU_len s
  have eN := c_Net_t hm hs (by omega)
  have eB := c_Net_bounded_t hl
  rw [st_depth_areas]
  unfold F_depth_areas
  walk_at "pv"
  rw [eN]
  walk_at "pv"
  have eI : lcF [5] (iseq (nm 0)) (.one 5) tyes (kc (.int 0)) [.sh (eS s), .sh (netM s), .no, .no, .no, .no] = some (.lst ((List.replicate s.length (0 : Int)).map D.int)) := by
    rw [lcF_all eQ (fun _ => .int 0) s (by unfold eS; walk_at "pv") (by unfold big; omega) (fun q _ => ⟨_, bindP1, by walk_at "pv"⟩)]
    rw [List.map_replicate, List.map_const']
  rw [eI]
  walk_at "pv"
  have net1 : netB (netM s) = true := rfl
  rw [if_pos net1, eB]
  walk_at "pv"
  refine endP_seq (nxP_fold eC (fun f c => addAt f (LYc s c).length (areaM (FA s) (TU s) c)) (fun f ρ => f.length = s.length ∧ ∃ s3 s4 s5, ρ = [.sh (eS s), .sh (netM s), .ow (.lst (f.map D.int)), s3, s4, s5]) (cellsB s) (List.replicate s.length 0) (fun c hc f ρ ⟨hf, s3, s4, s5, hρ⟩ => ?_) ⟨by simp, _, _, _, rfl⟩) (fun ρ ⟨_, s3, s4, s5, hρ⟩ => ?_)
  · subst hρ
    obtain ⟨hc1, hc2⟩ := mem_cellsB hc
    refine ⟨_, bindP1, ?_⟩
    have e1 : (f1 insideD (nb 1)) [.sh (eS s), .sh (netM s), .ow (.lst (f.map D.int)), .sh (eC c), s4, s5] = some (.dct (dgrid (FA s).length (TU s).length (insF s))) := rfl
    have e2 : ixD (.dct (dgrid (FA s).length (TU s).length (insF s))) (eC c) = some (eL (LYc s c)) := by
      exact (ixD_dk (ns := kkey c.1 c.2)).trans (getK_grid (by omega) hc2)
    have e3 := c_Net_area_t (L := FA s) (T := TU s) (i := .dct (dgrid (FA s).length (TU s).length (insF s))) hc1 hc2 (by omega) (fun x hx => by have := FA_b h0 hs x hx; omega) (by have := wd_b hs hc2; omega)
    have e3' : c_Net_area [netM s, eC c] = some (.int (areaM (FA s) (TU s) c)) := e3
    have hle := LY_le (s := s) (r := (FA s).getD c.1 0) (t := (TU s).getD c.2 0)
    have hle : (LYc s c).length ≤ s.length := hle
    rw [sseq_eq, sset_eq, f1_eq, f2_eq]
    walk_at "pv"
    rw [show insideD (netM s) = some (.dct (dgrid (FA s).length (TU s).length (insF s))) from rfl]
    walk_at "pv"
    rw [e2]
    walk_at "pv"
    rw [lenD_eL]
    walk_at "pv"
    unfold addAt
    by_cases hj : 0 < (LYc s c).length
    · rw [decide_eq_true (show (0 : Int) < ((LYc s c).length : Nat) by omega), if_pos rfl, if_pos hj]
      rw [ixI (k := (LYc s c).length - 1) (by omega) (by omega)]
      walk_at "pv"
      rw [if_pos net1, e3']
      walk_at "pv"
      rw [putAt_l ((LYc s c).length - 1) rfl (by omega) (by rw [List.length_map]; omega)]
      refine nxP_nx ⟨by simp [hf], .sh (eC c), .sh (.int ((LYc s c).length : Nat)), s5, ?_⟩
      rw [← List.map_set]; rfl
    · rw [decide_eq_false (show ¬ (0 : Int) < ((LYc s c).length : Nat) by omega), if_neg Bool.false_ne_true, if_neg hj]
      exact nxP_nx ⟨hf, _, _, _, rfl⟩
  · subst hρ
    walk_at "pv"
    rfl
def sumN : Nat → (Nat → Int) → Int
  | 0, _ => 0
  | n + 1, f => sumN n f + f n
theorem sumN_congr {f g : Nat → Int} : ∀ {n : Nat}, (∀ i, i < n → f i = g i) → sumN n f = sumN n g
  | 0, _ => rfl
  | n + 1, h => by
    show sumN n f + f n = sumN n g + g n
    rw [sumN_congr fun i hi => h i (by omega), h n (by omega)]
theorem sumN_add {f : Nat → Int} (p : Nat) : ∀ d : Nat, sumN (p + d) f = sumN p f + sumN d fun i => f (p + i)
  | 0 => by show sumN p f = sumN p f + 0; omega
  | d + 1 => by
    show sumN (p + d) f + f (p + d) = sumN p f + (sumN d (fun i => f (p + i)) + f (p + d))
    rw [sumN_add p d]; omega
theorem sumN_zero {f : Nat → Int} : ∀ {n : Nat}, (∀ i, i < n → f i = 0) → sumN n f = 0
  | 0, _ => rfl
  | n + 1, h => by
    show sumN n f + f n = 0
    rw [sumN_zero fun i hi => h i (by omega), h n (by omega)]; rfl
theorem sumN_mul {f : Nat → Int} {c : Int} : ∀ {n : Nat}, sumN n (fun i => f i * c) = sumN n f * c
  | 0 => by show 0 = 0 * c; omega
  | n + 1 => by
    show sumN n (fun i => f i * c) + f n * c = (sumN n f + f n) * c
    rw [sumN_mul, Int.add_mul]
theorem sumN_plus {f g : Nat → Int} : ∀ {n : Nat}, sumN n (fun i => f i + g i) = sumN n f + sumN n g
  | 0 => rfl
  | n + 1 => by
    show sumN n (fun i => f i + g i) + (f n + g n) = (sumN n f + f n) + (sumN n g + g n)
    rw [sumN_plus]; omega
theorem range_sum {f : Nat → Int} : ∀ {n : Nat}, ((List.range n).map f).sum = sumN n f
  | 0 => rfl
  | n + 1 => by
    rw [map_range_s, List.sum_append, range_sum]
    show sumN n f + (f n + 0) = sumN n f + f n
    omega
theorem grid_sum {α : Type} {a b : Nat} {f : Nat → Nat → α} {g : α → Int} : ((grid a b f).map g).sum = sumN a fun k => sumN b fun n => g (f k n) := by
  induction a with
  | zero => rfl
  | succ a ih =>
    rw [grid_s, List.map_append, List.sum_append, ih, List.map_map, range_sum]; rfl
theorem block_sum (h G : Int → Int) (p : Int) : ∀ d : Nat, (∀ i : Nat, i < d → h (p + i) = h p) → sumN d (fun i => h (p + (i : Int)) * (G (p + (i : Int) + 1) - G (p + (i : Int)))) = h p * (G (p + (d : Int)) - G p)
  | 0, _ => by show 0 = h p * (G (p + 0) - G p); rw [Int.add_zero, Int.sub_self, Int.mul_zero]
  | d + 1, c => by
    show sumN d _ + h (p + (d : Int)) * (G (p + (d : Int) + 1) - G (p + (d : Int))) = _
    rw [block_sum h G p d fun i hi => c i (by omega), c d (by omega), ← Int.mul_add]
    congr 1
    rw [show p + ((d + 1 : Nat) : Int) = p + (d : Int) + 1 by omega]
    omega
theorem refine1 (l : Nat → Int) (h G : Int → Int) (h0 : l 0 = 0) : ∀ a : Nat, (∀ k, k < a → 0 ≤ l k ∧ l k ≤ l (k + 1)) → (∀ k, k < a → ∀ r, l k ≤ r → r < l (k + 1) → h r = h (l k)) →
    sumN (l a).toNat (fun r => h (r : Int) * (G ((r : Int) + 1) - G (r : Int))) = sumN a fun k => h (l k) * (G (l (k + 1)) - G (l k))
  | 0, _, _ => by rw [h0]; rfl
  | a + 1, mono, cst => by
    obtain ⟨m0, m1⟩ := mono a (by omega)
    have ih := refine1 l h G h0 a (fun k hk => mono k (by omega)) fun k hk => cst k (by omega)
    obtain ⟨p, hp⟩ := Int.ex_nat m0
    obtain ⟨d, hd⟩ : ∃ d : Nat, l (a + 1) = (p : Int) + (d : Int) := ⟨(l (a + 1) - l a).toNat, by omega⟩
    have b := block_sum h G (l a) d fun i hi => cst a (by omega) _ (by omega) (by omega)
    show _ = sumN a _ + h (l a) * (G (l (a + 1)) - G (l a))
    rw [← ih, show (l (a + 1)).toNat = p + d by omega, sumN_add, show (l a).toNat = p by omega]
    congr 1
    rw [hd, ← hp, ← b]
    refine sumN_congr fun i _ => ?_
    rw [show ((p + i : Nat) : Int) = l a + (i : Int) by omega]
theorem head_zero {L : List Int} (h : L.Pairwise (· < ·)) (h0 : (0 : Int) ∈ L) (hb : ∀ x ∈ L, 0 ≤ x) : L.getD 0 0 = 0 := by
  have hp := List.length_pos_of_mem h0
  have h1 := hb _ (getD_mem hp)
  obtain ⟨j, hj, e⟩ := List.getElem_of_mem h0
  have e : L.getD j 0 = 0 := by rw [List.getD_eq_getElem?_getD, List.getElem?_eq_getElem hj]; exact e
  rcases Nat.eq_zero_or_pos j with c | c
  · rw [c] at e; exact e
  · have h2 : L.getD 0 0 < L.getD j 0 := up_get h c hj
    omega
theorem LY_congr {s : List Pc} {r t r' t' : Int} (h : ∀ q ∈ s, inC q r t = inC q r' t') : LY s r t = LY s r' t' := by
  unfold LY
  rw [List.filter_congr fun q hq => ?_]
  obtain ⟨_, _, h2⟩ := List.mem_zipIdx hq
  exact h _ (by rw [h2]; exact List.getElem_mem _)
theorem inC_turn {q : Pc} {r t e u : Int} {m : Int} (hq : q.Ok m) (t0 : 0 ≤ t) (e1 : e ≤ 24) (hb : q.b ≤ t ∨ e ≤ q.b) (hf : (q.b + q.w) % 24 ≤ t ∨ e ≤ (q.b + q.w) % 24) (h1 : t ≤ u) (h2 : u < e) : inC q r u = inC q r t := by
  obtain ⟨i0, io, om, b0, b1, w0, w1⟩ := hq
  unfold inC
  rw [decide_eq_decide.mpr (show (u - q.b) % 24 < q.w ↔ (t - q.b) % 24 < q.w by omega)]
theorem inC_ring {q : Pc} {r e u t : Int} (hi : q.i ≤ r ∨ e ≤ q.i) (ho : q.o ≤ r ∨ e ≤ q.o) (h1 : r ≤ u) (h2 : u < e) : inC q u t = inC q r t := by
  unfold inC
  rw [decide_eq_decide.mpr (show q.i ≤ u ↔ q.i ≤ r by omega), decide_eq_decide.mpr (show u < q.o ↔ r < q.o by omega)]
theorem turn_sum {m : Int} {s : List Pc} (hs : ∀ q ∈ s, q.Ok m) (g : Int → Int) (hg : ∀ t u : Int, (∀ q ∈ s, ∀ r, inC q r t = inC q r u) → g t = g u) : sumN (TU s).length (fun n => g ((TU s).getD n 0) * wd (TU s) n) = sumN 24 fun t => g (t : Int) := by
  have U := up_of hs
  have hp := TU_pos s
  have h0 := head_zero U.t (mem_sortU.mpr (List.mem_append_right _ (by simp))) (fun x hx => (U.t0 x hx).1)
  have nx : ∀ n, n < (TU s).length → (TU s).getD n 24 = (TU s).getD n 0 := fun n hn => getD_any hn
  have key := refine1 (fun n => (TU s).getD n 24) g (fun x => x) (by show (TU s).getD 0 24 = 0; rw [nx 0 hp, h0]) (TU s).length (fun k hk => by
      obtain ⟨t1, t2, t3, t4⟩ := turn_next U.t U.t0 hk
      rw [nx k hk]
      omega) (fun k hk r h1 h2 => by
      obtain ⟨t1, t2, t3, t4⟩ := turn_next U.t U.t0 hk
      rw [nx k hk] at h1 ⊢
      exact hg _ _ fun q hq x => inC_turn (hs q hq) t1 t3 (t4 _ (brk_of s q hq).b) (t4 _ (brk_of s q hq).e) h1 h2)
  rw [show (TU s).getD (TU s).length 24 = 24 from getD_last (Nat.lt_irrefl _)] at key
  refine Eq.trans (sumN_congr fun n hn => ?_) (key.symm.trans (sumN_congr fun t _ => ?_))
  · unfold wd
    rw [nx n hn]
  · rw [show ((t : Int) + 1 - (t : Int)) = 1 by omega, Int.mul_one]
theorem LY_far {m : Int} {s : List Pc} (hs : ∀ q ∈ s, q.Ok m) {r t : Int} (h : (FA s).getD ((FA s).length - 1) 0 ≤ r) : LY s r t = [] := by
  unfold LY
  rw [List.filter_eq_nil_iff.mpr, List.map_nil]
  intro q hq hc
  obtain ⟨_, _, h2⟩ := List.mem_zipIdx hq
  have hm : q.1 ∈ s := by rw [h2]; exact List.getElem_mem _
  have hp := FA_pos s
  unfold inC at hc
  simp only [Bool.and_eq_true, decide_eq_true_eq] at hc
  rcases up_split (up_of hs).l (brk_of s _ hm).o (show (FA s).length - 1 < (FA s).length by omega) with c | c
  · omega
  · omega
theorem coarse_fine {M : Nat} {s : List Pc} (hs : ∀ q ∈ s, q.Ok (M : Int)) (φ : List Nat → Int) (h0 : φ [] = 0) :
    ((cellsB s).map fun c => φ (LYc s c) * areaM (FA s) (TU s) c).sum = sumN (M + 1) fun r => sumN 24 fun t => φ (LY s (r : Int) (t : Int)) * (2 * (r : Int) + 1) := by
  have U := up_of hs
  have hp := FA_pos s
  have hb := FA_b (show (0 : Int) ≤ M by omega) hs
  have z0 := head_zero U.l (mem_sortU.mpr List.mem_cons_self) (fun x hx => (hb x hx).1)
  unfold cellsB
  rw [grid_sum]
  have e1 : ∀ k, sumN (TU s).length (fun n => φ (LYc s (k, n)) * areaM (FA s) (TU s) (k, n)) = (sumN 24 fun t => φ (LY s ((FA s).getD k 0) (t : Int))) * ((FA s).getD (k + 1) 0 * (FA s).getD (k + 1) 0 - (FA s).getD k 0 * (FA s).getD k 0) := fun k => by
    rw [← turn_sum hs (fun t => φ (LY s ((FA s).getD k 0) t)) fun t u h => by rw [LY_congr fun q hq => h q hq _], ← sumN_mul]
    refine sumN_congr fun n _ => ?_
    show φ (LY s ((FA s).getD k 0) ((TU s).getD n 0)) * (((FA s).getD (k + 1) 0 * (FA s).getD (k + 1) 0 - (FA s).getD k 0 * (FA s).getD k 0) * wd (TU s) n) = _
    rw [Int.mul_comm (_ - _) (wd _ _), ← Int.mul_assoc]
  rw [sumN_congr fun k _ => e1 k]
  have key := refine1 (fun k => (FA s).getD k 0) (fun x => sumN 24 fun t => φ (LY s x (t : Int))) (fun x => x * x) z0 ((FA s).length - 1) (fun k hk => by
      have h1 := hb _ (getD_mem (L := FA s) (k := k) (by omega))
      have h2 : (FA s).getD k 0 < (FA s).getD (k + 1) 0 := up_get U.l (by omega) (by omega)
      omega) (fun k hk r h1 h2 => by
      refine sumN_congr fun t _ => ?_
      rw [LY_congr fun q hq => ?_]
      have sp : ∀ x ∈ FA s, x ≤ (FA s).getD k 0 ∨ (FA s).getD (k + 1) 0 ≤ x := fun x hx => by
        rcases up_split U.l hx (show k < (FA s).length by omega) with c | c
        · exact .inl c
        · exact .inr c.2
      exact inC_ring (sp _ (brk_of s q hq).i) (sp _ (brk_of s q hq).o) h1 h2)
  rw [← key]
  have hlast := hb _ (getD_mem (L := FA s) (k := (FA s).length - 1) (by omega))
  obtain ⟨d, hd⟩ : ∃ d : Nat, M + 1 = ((FA s).getD ((FA s).length - 1) 0).toNat + d := ⟨M + 1 - ((FA s).getD ((FA s).length - 1) 0).toNat, by omega⟩
  rw [hd, sumN_add]
  rw [show sumN d (fun i => sumN 24 fun t => φ (LY s ((((FA s).getD ((FA s).length - 1) 0).toNat + i : Nat) : Int) (t : Int)) * (2 * ((((FA s).getD ((FA s).length - 1) 0).toNat + i : Nat) : Int) + 1)) = 0 from sumN_zero fun i _ => sumN_zero fun t _ => by
    rw [LY_far hs (by omega), h0, Int.zero_mul], Int.add_zero]
  refine sumN_congr fun r _ => ?_
  rw [sumN_mul]
  congr 1
  rw [Int.add_mul, Int.mul_add]
  omega
theorem getD_set {f : List Int} {i j : Nat} {x : Int} (hi : i < f.length) : (f.set i x).getD j 0 = if i = j then x else f.getD j 0 := by
  rw [List.getD_eq_getElem?_getD, List.getElem?_set]
  by_cases h : i = j
  · subst h; rw [if_pos rfl, if_pos hi, if_pos rfl]; rfl
  · rw [if_neg h, if_neg h, ← List.getD_eq_getElem?_getD]
theorem addAt_get {f : List Int} {j i : Nat} {a : Int} (hj : j ≤ f.length) (hi : i < f.length) : (addAt f j a).getD i 0 = f.getD i 0 + (if j = i + 1 then 1 else 0) * a := by
  unfold addAt
  by_cases h : 0 < j
  · rw [if_pos h, getD_set (by omega)]
    by_cases h2 : j - 1 = i
    · rw [if_pos h2, if_pos (by omega), h2]; omega
    · rw [if_neg h2, if_neg (by omega)]; omega
  · rw [if_neg h, if_neg (by omega)]; omega
theorem list_getD (f : List Int) : f = (List.range f.length).map fun i => f.getD i 0 := by
  refine List.ext_getElem (by simp) fun i h1 h2 => ?_
  rw [List.getElem_map, List.getElem_range, List.getD_eq_getElem?_getD, List.getElem?_eq_getElem h1]; rfl
theorem fold_addAt {β : Type} (j : β → Nat) (a : β → Int) : ∀ (items : List β) (f : List Int), (∀ c ∈ items, j c ≤ f.length) → items.foldl (fun f c => addAt f (j c) (a c)) f = (List.range f.length).map fun i => f.getD i 0 + (items.map fun c => (if j c = i + 1 then 1 else 0) * a c).sum
  | [], f, _ => by
    conv => lhs; rw [List.foldl_nil, list_getD f]
    exact List.map_congr_left fun i _ => by rw [List.map_nil, List.sum_nil, Int.add_zero]
  | c :: items, f, h => by
    have hc := h c List.mem_cons_self
    rw [List.foldl_cons, fold_addAt j a items _ fun x hx => by rw [addAt_len]; exact h x (List.mem_cons_of_mem _ hx), addAt_len]
    refine List.map_congr_left fun i hi => ?_
    rw [addAt_get hc (List.mem_range.mp hi), List.map_cons, List.sum_cons, Int.add_assoc]
/-- the sum over all small cells -/
def fine (M : Nat) (φ : Nat → Nat → Int) : Int := sumN (M + 1) fun r => sumN 24 fun t => φ r t * (2 * (r : Int) + 1)
theorem fine_congr {M : Nat} {φ ψ : Nat → Nat → Int} (h : ∀ r t, r < M + 1 → t < 24 → φ r t = ψ r t) : fine M φ = fine M ψ := sumN_congr fun r hr => sumN_congr fun t ht => by rw [h r t hr ht]
theorem fine_add {M : Nat} {φ ψ : Nat → Nat → Int} : fine M (fun r t => φ r t + ψ r t) = fine M φ + fine M ψ := by
  unfold fine
  rw [← sumN_plus]
  refine sumN_congr fun r _ => ?_
  rw [← sumN_plus]
  exact sumN_congr fun t _ => Int.add_mul _ _ _
theorem fine_mul {M : Nat} {φ : Nat → Nat → Int} {c : Int} : fine M (fun r t => c * φ r t) = c * fine M φ := by
  unfold fine
  rw [Int.mul_comm c, ← sumN_mul]
  refine sumN_congr fun r _ => ?_
  rw [← sumN_mul]
  exact sumN_congr fun t _ => by rw [Int.mul_assoc, Int.mul_comm]
theorem fine_zero {M : Nat} : fine M (fun _ _ => 0) = 0 := sumN_zero fun r _ => sumN_zero fun t _ => Int.zero_mul _
theorem fine_sumN {M : Nat} {c : Nat → Int} {φ : Nat → Nat → Nat → Int} : ∀ n : Nat, sumN n (fun i => c i * fine M (φ i)) = fine M fun r t => sumN n fun i => c i * φ i r t
  | 0 => fine_zero.symm
  | n + 1 => by
    show sumN n (fun i => c i * fine M (φ i)) + c n * fine M (φ n) = fine M fun r t => sumN n (fun i => c i * φ i r t) + c n * φ n r t
    rw [fine_add, fine_mul, fine_sumN n]
theorem grid_fine {M : Nat} {φ : Nat → Nat → Int} : ((grid (M + 1) 24 fun r t => (r, t)).map fun c : Nat × Nat => φ c.1 c.2 * (2 * (c.1 : Int) + 1)).sum = fine M φ := grid_sum
def ind (p : Prop) [Decidable p] : Int := if p then 1 else 0
theorem ind_t {p : Prop} [Decidable p] (h : p) : ind p = 1 := if_pos h
theorem ind_f {p : Prop} [Decidable p] (h : ¬ p) : ind p = 0 := if_neg h
theorem ind_iff {p q : Prop} [Decidable p] [Decidable q] (h : p ↔ q) : ind p = ind q := by
  by_cases c : p
  · rw [ind_t c, ind_t (h.mp c)]
  · rw [ind_f c, ind_f fun z => c (h.mpr z)]
def cntM (M : Nat) (s : List Pc) (i : Nat) : Int := fine M fun r t => ind ((LY s (r : Int) (t : Int)).length = i + 1)
theorem depthM_eq {M : Nat} {s : List Pc} (hs : ∀ q ∈ s, q.Ok (M : Int)) : depthM s = (List.range s.length).map fun i => cntM M s i := by
  unfold depthM
  rw [fold_addAt (fun c => (LYc s c).length) (areaM (FA s) (TU s)) (cellsB s) _ fun c _ => by rw [List.length_replicate]; exact LY_le, List.length_replicate]
  refine List.map_congr_left fun i hi => ?_
  have h := coarse_fine hs (fun l => ind (l.length = i + 1)) (ind_f (by simp))
  rw [show (List.replicate s.length (0 : Int)).getD i 0 = 0 by rw [List.getD_eq_getElem?_getD, List.getElem?_replicate, if_pos (List.mem_range.mp hi)]; rfl, Int.zero_add]
  exact h
theorem pick {c : Nat → Int} {l : Nat} : ∀ n : Nat, sumN n (fun i => c i * ind (l = i + 1)) = if 0 < l ∧ l ≤ n then c (l - 1) else 0
  | 0 => by rw [if_neg (by omega)]; rfl
  | n + 1 => by
    show sumN n _ + c n * ind (l = n + 1) = _
    rw [pick n]
    by_cases h : l = n + 1
    · rw [ind_t h, if_neg (by omega), if_pos (by omega), h, Nat.add_sub_cancel]; omega
    · rw [ind_f h]
      by_cases h2 : 0 < l ∧ l ≤ n
      · rw [if_pos h2, if_pos (by omega)]; omega
      · rw [if_neg h2, if_neg (by omega)]; omega
theorem zip_filter_len {p : Pc → Bool} : ∀ (s : List Pc) (k : Nat), ((s.zipIdx k).filter fun q => p q.1).length = (s.filter p).length
  | [], _ => rfl
  | q :: s, k => by
    rw [List.zipIdx_cons, List.filter_cons, List.filter_cons]
    show (if p q = true then _ else _ : List (Pc × Nat)).length = _
    split
    · rw [List.length_cons, List.length_cons, zip_filter_len s (k + 1)]
    · exact zip_filter_len s (k + 1)
theorem LY_len {s : List Pc} {r t : Int} : (LY s r t).length = (s.filter fun q => inC q r t).length := by
  unfold LY
  rw [List.length_map]
  exact zip_filter_len (p := fun q => inC q r t) s 0
def covM (M : Nat) (s : List Pc) : Int := fine M fun r t => ind (0 < (LY s (r : Int) (t : Int)).length)
theorem cov_sum {M : Nat} {s : List Pc} (hs : ∀ q ∈ s, q.Ok (M : Int)) : (depthM s).sum = covM M s := by
  rw [depthM_eq hs, range_sum]
  have h : sumN s.length (fun i => cntM M s i) = sumN s.length fun i => 1 * cntM M s i := sumN_congr fun i _ => (Int.one_mul _).symm
  rw [h]
  unfold cntM covM
  rw [fine_sumN]
  refine fine_congr fun r t _ _ => ?_
  rw [pick]
  have := LY_le (s := s) (r := (r : Int)) (t := (t : Int))
  by_cases h : 0 < (LY s (r : Int) (t : Int)).length
  · rw [ind_t h, if_pos ⟨h, this⟩]
  · rw [ind_f h, if_neg (by omega)]
def dflt : Pc := ⟨0, 0, 0, 0⟩
def sub (s : List Pc) (ns : List Nat) : List Pc := ns.map fun k => s.getD k dflt
theorem depthM_len {M : Nat} {s : List Pc} (hs : ∀ q ∈ s, q.Ok (M : Int)) : (depthM s).length = s.length := by rw [depthM_eq hs, List.length_map, List.length_range]
theorem c_covered_area_t {M : Nat} {s : List Pc} (hM : M ≤ 60) (hs : ∀ q ∈ s, q.Ok (M : Int)) (hl : s.length ≤ 300) : c_covered_area [eS s] = some (.int (covM M s)) := by
  rw [st_covered_area]
  unfold F_covered_area
  walk_at "pv"
  rw [c_depth_areas_t (by omega) (by omega) hs hl]
  walk_at "pv"
  rw [sumD_t, cov_sum hs]
def finePt (r t : Int) : Pt := ⟨2 * r + 1, 2, 2 * t + 1, 2⟩
theorem finePt_ok {r t : Int} : (finePt r t).Ok := ⟨(by decide : (0 : Int) < 2), (by decide : (2 : Int) < 1000000), (by decide : (0 : Int) < 2), (by decide : (2 : Int) < 1000000)⟩
theorem has_fine {q : Pc} {r t : Int} : hasM q (finePt r t) = inC q r t := by
  unfold hasM inC finePt
  simp only
  rw [decide_eq_decide.mpr (show q.i * 2 ≤ 2 * r + 1 ↔ q.i ≤ r by omega), decide_eq_decide.mpr (show 2 * r + 1 < q.o * 2 ↔ r < q.o by omega), decide_eq_decide.mpr (show (2 * t + 1 - q.b * 2) % (24 * 2) < q.w * 2 ↔ (t - q.b) % 24 < q.w by omega)]
theorem layers_fine {s : List Pc} {r t : Int} : layersM s (finePt r t) = LY s r t := by
  unfold layersM LY
  rw [List.filter_congr fun q _ => has_fine]
def fineF (s : List Pc) (r t : Nat) : D := eL (LY s (r : Int) (t : Int))
theorem c__law_cells_t {M : Nat} {s : List Pc} (hM : M ≤ 60) (hs : ∀ q ∈ s, q.Ok (M : Int)) (hl : s.length ≤ 300) : c__law_cells [eS s, .int (M : Int)] = some (.dct (dgrid (M + 1) 24 (fineF s))) := by
  rw [st__law_cells]
  unfold F__law_cells
  walk_at "pv"
  rw [rng1D_i (by omega), show (M : Int) + 1 = ((M + 1 : Nat) : Int) by omega, rangeL_nat]
  walk_at "pv"
  refine endP_seq (nxP_range (fun r ρ => ∃ s3 s4, ρ = [.sh (eS s), .sh (.int (M : Int)), .ow (.dct (dgrid r 24 (fineF s))), s3, s4]) (M + 1) (fun r hr ρ ⟨s3, s4, hρ⟩ => ?_) ⟨_, _, rfl⟩) (fun ρ ⟨s3, s4, hρ⟩ => ?_)
  · subst hρ
    refine ⟨_, bindP1, ?_⟩
    walk_at "pv"
    rw [rng1D_i (by decide), show (24 : Int) = ((24 : Nat) : Int) from rfl, rangeL_nat]
    walk_at "pv"
    refine nxP_mono (nxP_range (fun t ρ => ∃ s4, ρ = [.sh (eS s), .sh (.int (M : Int)), .ow (.dct (dgrid r 24 (fineF s) ++ (List.range t).map fun j => (kkey r j, fineF s r j))), .sh (.int (r : Int)), s4]) 24 (fun t ht ρ ⟨s4, hρ⟩ => ?_) ⟨s4, by simp⟩) (fun ρ ⟨s4, hρ⟩ => ?_)
    · subst hρ
      refine ⟨_, bindP1, ?_⟩
      have e1 := c__law_layers_t (s := s) (p := finePt (r : Int) (t : Int)) (m := (M : Int)) (by omega) hs (by omega) finePt_ok
      rw [layers_fine] at e1
      unfold eP finePt at e1
      walk_at "pv"
      rw [mulD_l (by decide)]
      walk_at "pv"
      rw [mulD_l (by decide)]
      walk_at "pv"
      rw [e1]
      walk_at "pv"
      rw [putAt_d (ns := kkey r t) rfl (show [D.int (r : Int), D.int (t : Int)] = (kkey r t).map D.int from rfl) (by
        rw [List.length_append, grid_len, List.length_map, List.length_range]
        unfold big
        omega)]
      refine nxP_nx ⟨.sh (.int (t : Int)), ?_⟩
      rw [show eL (LY s (r : Int) (t : Int)) = fineF s r t from rfl, put_grid ht]; rfl
    · subst hρ
      exact ⟨.sh (.int (r : Int)), s4, by rw [show dgrid (r + 1) 24 (fineF s) = dgrid r 24 (fineF s) ++ (List.range 24).map (fun j => (kkey r j, fineF s r j)) from grid_s]⟩
  · subst hρ
    rw [sfrz_ow rfl]
    walk_at "pv"
theorem ixLast {ns : List Int} (h : 0 < ns.length) : ixD (.tup (ns.map D.int)) (.int (-1)) = some (.int (ns.getD (ns.length - 1) 0)) := by
  show atI (ns.map D.int) (-1) = _
  unfold atI
  rw [List.length_map, show ixN ns.length (-1) = some (ns.length - 1) by
    unfold ixN
    rw [if_neg (by decide), if_pos (by omega)]
    congr 1
    omega, Option.bind_some, List.getElem?_map, List.getD_eq_getElem?_getD, List.getElem?_eq_getElem (show ns.length - 1 < ns.length by omega)]
  rfl
theorem eqN_ints (n : Nat) : ∀ xs ys : List Int, eqL (eqN (n + 1)) (xs.map D.int) (ys.map D.int) = decide (xs = ys)
  | [], [] => rfl
  | [], _ :: _ => rfl
  | _ :: _, [] => rfl
  | x :: xs, y :: ys => by
    show ((x == y) && eqL (eqN (n + 1)) (xs.map D.int) (ys.map D.int)) = _
    rw [eqN_ints n xs ys]
    by_cases h : x = y
    · by_cases h2 : xs = ys
      · simp [h, h2]
      · simp [h, h2]
    · simp [h]
theorem eqD_ti (xs ys : List Int) : eqD (.tup (xs.map D.int)) (.tup (ys.map D.int)) = some (.bl (decide (xs = ys))) := by
  unfold eqD
  rw [if_neg (by exact Bool.false_ne_true), if_pos]
  · rw [← eqN_ints 6]; rfl
  · rw [Bool.and_eq_true]
    exact ⟨List.all_eq_true.mpr fun x hx => by obtain ⟨i, _, rfl⟩ := List.mem_map.mp hx; rfl, List.all_eq_true.mpr fun x hx => by obtain ⟨i, _, rfl⟩ := List.mem_map.mp hx; rfl⟩
theorem neD_ti (xs ys : List Int) : neD (.tup (xs.map D.int)) (.tup (ys.map D.int)) = some (.bl (!decide (xs = ys))) := by
  unfold neD
  rw [if_neg (by exact Bool.false_ne_true), if_pos]
  · rw [← eqN_ints 6]; rfl
  · rw [Bool.and_eq_true]
    exact ⟨List.all_eq_true.mpr fun x hx => by obtain ⟨i, _, rfl⟩ := List.mem_map.mp hx; rfl, List.all_eq_true.mpr fun x hx => by obtain ⟨i, _, rfl⟩ := List.mem_map.mp hx; rfl⟩
theorem iitems_eq {a : Env → Option D} {ρ : Env} : iitems a ρ = (a ρ).bind itemsD := (rfl)
def eI (s : List Pc) (c : Nat × Nat) : D := .tup [eC c, fineF s c.1 c.2]
theorem eL_all {ns : List Nat} : eL ns = .tup ((ns.map fun k : Nat => (k : Int)).map D.int) := by
  unfold eL; rw [List.map_map]; rfl
def cov (s : List Pc) (r t : Int) : Bool := s.any fun q => inC q r t
theorem cov_len {s : List Pc} {r t : Int} : decide (0 < (LY s r t).length) = cov s r t := by
  rw [LY_len]
  unfold cov
  rw [Bool.eq_iff_iff, decide_eq_true_eq, List.length_pos_iff_exists_mem, List.any_eq_true]
  constructor
  · rintro ⟨q, hq⟩; exact ⟨q, (List.mem_filter.mp hq).1, (List.mem_filter.mp hq).2⟩
  · rintro ⟨q, h1, h2⟩; exact ⟨q, List.mem_filter.mpr ⟨h1, h2⟩⟩
theorem LY_app {s1 s2 : List Pc} {r t : Int} : LY (s1 ++ s2) r t = LY s1 r t ++ ((s2.zipIdx s1.length).filter fun q => inC q.1 r t).map Prod.snd := by
  unfold LY
  rw [List.zipIdx_append, List.filter_append, List.map_append, Nat.zero_add]
theorem LY_lt {s : List Pc} {r t : Int} : ∀ k ∈ LY s r t, k < s.length := fun k hk => by
  unfold LY at hk
  obtain ⟨⟨q, i⟩, hq, rfl⟩ := List.mem_map.mp hk
  obtain ⟨_, h3, _⟩ := List.mem_zipIdx (List.mem_filter.mp hq).1
  simpa using h3
theorem mine_eq {s1 s2 : List Pc} {r t : Int} : (LY (s1 ++ s2) r t).filter (fun k => decide (k < s1.length)) = LY s1 r t := by
  rw [LY_app, List.filter_append, List.filter_eq_self.mpr fun k hk => by simpa using LY_lt k hk, List.filter_eq_nil_iff.mpr, List.append_nil]
  intro k hk
  obtain ⟨⟨q, i⟩, hq, rfl⟩ := List.mem_map.mp hk
  obtain ⟨h3, _, _⟩ := List.mem_zipIdx (List.mem_filter.mp hq).1
  simp only [decide_eq_true_eq]
  omega
theorem rest_len {s1 s2 : List Pc} {r t : Int} : (LY (s1 ++ s2) r t).length = (LY s1 r t).length + (LY s2 r t).length := by
  rw [LY_app, List.length_append, List.length_map, zip_filter_len (p := fun q => inC q r t), ← LY_len]
def dif (s1 s2 : List Pc) (r t : Int) : Bool := !(cov s1 r t == cov s2 r t)
theorem forD_find {α : Type} {p : Pat} {b : Env → Option Res} (enc : α → D) (t : α → Bool) (g : α → D) (I : Env → Prop) : ∀ (xs : List α), (∀ x ∈ xs, ∀ ρ, I ρ → ∃ ρ1, bindP p (enc x) ρ = some ρ1 ∧ (t x = true → b ρ1 = some (.rt (g x))) ∧ (t x = false → nxP (b ρ1) I)) → ∀ ρ, I ρ →
    (∀ x, xs.find? t = some x → forD p b (xs.map enc) ρ = some (.rt (g x))) ∧ (xs.find? t = none → nxP (forD p b (xs.map enc) ρ) I)
  | [], _, ρ, h0 => ⟨(fun x h => by cases h), fun _ => ⟨ρ, rfl, h0⟩⟩
  | y :: xs, h, ρ, h0 => by
    obtain ⟨ρ1, e1, e2, e3⟩ := h y List.mem_cons_self ρ h0
    rw [List.map_cons]
    unfold forD
    rw [e1, Option.bind_some]
    cases ht : t y with
    | true =>
      rw [e2 ht, List.find?_cons_of_pos ht]
      exact ⟨(fun x hx => by cases hx; rfl), (fun z => by cases z)⟩
    | false =>
      obtain ⟨ρ2, e4, h2⟩ := e3 ht
      rw [e4, List.find?_cons_of_neg (by rw [ht]; exact Bool.false_ne_true)]
      exact forD_find enc t g I xs (fun x hx => h x (List.mem_cons_of_mem _ hx)) ρ2 h2
abbrev cellsA (s : List Pc) : List (Nat × Nat) := grid (FA s).length (TU s).length fun k n => (k, n)
def eJ (s : List Pc) (c : Nat × Nat) : D := .tup [eC c, insF s c.1 c.2]
def difC (s1 s2 : List Pc) (c : Nat × Nat) : Bool := dif s1 s2 ((FA (s1 ++ s2)).getD c.1 0) ((TU (s1 ++ s2)).getD c.2 0)
theorem items_net {s : List Pc} {f t : D} : itemsD (.dct (dgrid (FA s).length (TU s).length (insF s))) = some ((cellsA s).map (eJ s)) := by
  show some ((dgrid (FA s).length (TU s).length (insF s)).map _) = _
  rw [map_grid, map_grid]; rfl
theorem c_unlike_t {m : Int} {s1 s2 : List Pc} (hm : m ≤ 60) (h1 : ∀ q ∈ s1, q.Ok m) (h2 : ∀ q ∈ s2, q.Ok m) (hl : s1.length + s2.length ≤ 300) :
    (∀ c, (cellsA (s1 ++ s2)).find? (difC s1 s2) = some c → c_unlike [eS s1, eS s2] = some (eP (cellPt (FA (s1 ++ s2)) (TU (s1 ++ s2)) c.1 c.2))) ∧ ((cellsA (s1 ++ s2)).find? (difC s1 s2) = none → c_unlike [eS s1, eS s2] = some .non) := by
  have hs : ∀ q ∈ s1 ++ s2, q.Ok m := fun q hq => (List.mem_append.mp hq).elim (h1 q) (h2 q)
  have hl2 : (s1 ++ s2).length ≤ 300 := by rw [List.length_append]; exact hl
  have eN := c_Net_t hm hs hl2
  have hT := TU_len (s1 ++ s2)
  have go := forD_find (p := .tup [3, 4]) (b := (sseq (sset 5 (lcF [6] (iseq (nm 4)) (.one 6) (tb (f2 ltD (nb 6) (f1 lenD (nb 0)))) (nm 6)))
    (sif (tb (f2 neD (f2 gtD (f1 lenD (nb 5)) (kc (.int 0))) (f2 gtD (f1 lenD (nb 4)) (f1 lenD (nb 5))))) (sret (fM c_Net_point_in (nb 2) (fcons (nm 3) fnil))) snx))) (eJ (s1 ++ s2)) (difC s1 s2) (fun c => eP (cellPt (FA (s1 ++ s2)) (TU (s1 ++ s2)) c.1 c.2))
    (fun ρ => ∃ x3 x4 x5 x6, ρ = [.sh (eS s1), .sh (eS s2), .sh (netM (s1 ++ s2)), x3, x4, x5, x6]) (cellsA (s1 ++ s2)) (fun c hc ρ ⟨x3, x4, x5, x6, hρ⟩ => by
    subst hρ
    obtain ⟨k, n, hk, hn, rfl⟩ := mem_grid.mp hc
    refine ⟨_, bindT2, ?_⟩
    have e1 := c_Net_point_in_t (L := FA (s1 ++ s2)) (T := TU (s1 ++ s2)) (i := .dct (dgrid (FA (s1 ++ s2)).length (TU (s1 ++ s2)).length (insF (s1 ++ s2)))) hk hn (by omega)
    have e1 : c_Net_point_in [netM (s1 ++ s2), eC (k, n)] = some (eP (cellPt (FA (s1 ++ s2)) (TU (s1 ++ s2)) k n)) := e1
    have net1 : netB (netM (s1 ++ s2)) = true := rfl
    have lc : lcF [6] (iseq (nm 4)) (.one 6) (tb (f2 ltD (nb 6) (f1 lenD (nb 0)))) (nm 6) [.sh (eS s1), .sh (eS s2), .sh (netM (s1 ++ s2)), .sh (eC (k, n)), .sh (insF (s1 ++ s2) k n), x5, x6] = some (.lst ((LY s1 ((FA (s1 ++ s2)).getD k 0) ((TU (s1 ++ s2)).getD n 0)).map fun k : Nat => D.int (k : Int))) := by
      rw [lcF_map (fun k : Nat => D.int (k : Int)) (fun j => decide (j < s1.length)) (fun k : Nat => D.int (k : Int)) (LY (s1 ++ s2) ((FA (s1 ++ s2)).getD k 0) ((TU (s1 ++ s2)).getD n 0)) (by
        unfold insF eL
        walk_at "pv") (by have := LY_le (s := s1 ++ s2) (r := (FA (s1 ++ s2)).getD k 0) (t := (TU (s1 ++ s2)).getD n 0); unfold big; omega) (fun j hj => ⟨_, bindP1, by
        walk_at "pv"
        rw [show lenD (eS s1) = some (.int (s1.length : Nat)) by unfold eS; rw [lenD_t, List.length_map]]
        walk_at "pv"
        rw [decide_eq_decide.mpr (show (j : Int) < (s1.length : Nat) ↔ j < s1.length by omega)], fun _ => by walk_at "pv"⟩), mine_eq]
    walk_at "pv"
    rw [lc]
    walk_at "pv"
    rw [show lenD (insF (s1 ++ s2) k n) = some (.int ((LY (s1 ++ s2) ((FA (s1 ++ s2)).getD k 0) ((TU (s1 ++ s2)).getD n 0)).length : Nat)) from lenD_eL]
    walk_at "pv"
    rw [List.length_map, rest_len]
    rw [decide_eq_decide.mpr (show (0 : Int) < ((LY s1 ((FA (s1 ++ s2)).getD k 0) ((TU (s1 ++ s2)).getD n 0)).length : Nat) ↔ 0 < (LY s1 ((FA (s1 ++ s2)).getD k 0) ((TU (s1 ++ s2)).getD n 0)).length by omega), cov_len]
    rw [decide_eq_decide.mpr (show ((LY s1 ((FA (s1 ++ s2)).getD k 0) ((TU (s1 ++ s2)).getD n 0)).length : Int) < ((LY s1 ((FA (s1 ++ s2)).getD k 0) ((TU (s1 ++ s2)).getD n 0)).length + (LY s2 ((FA (s1 ++ s2)).getD k 0) ((TU (s1 ++ s2)).getD n 0)).length : Nat) ↔ 0 < (LY s2 ((FA (s1 ++ s2)).getD k 0) ((TU (s1 ++ s2)).getD n 0)).length by omega), cov_len]
    rw [show (!(cov s1 ((FA (s1 ++ s2)).getD k 0) ((TU (s1 ++ s2)).getD n 0) == cov s2 ((FA (s1 ++ s2)).getD k 0) ((TU (s1 ++ s2)).getD n 0))) = difC s1 s2 (k, n) from rfl]
    refine ⟨fun ht => ?_, fun hf => ?_⟩
    · rw [ht, if_pos rfl, if_pos net1, e1]
      rfl
    · rw [hf, if_neg Bool.false_ne_true]
      exact nxP_nx ⟨_, _, _, _, rfl⟩) [.sh (eS s1), .sh (eS s2), .sh (netM (s1 ++ s2)), .no, .no, .no, .no] ⟨_, _, _, _, rfl⟩
  have st : c_unlike [eS s1, eS s2] = endD (seqR (forD (.tup [3, 4]) (sseq (sset 5 (lcF [6] (iseq (nm 4)) (.one 6) (tb (f2 ltD (nb 6) (f1 lenD (nb 0)))) (nm 6)))
    (sif (tb (f2 neD (f2 gtD (f1 lenD (nb 5)) (kc (.int 0))) (f2 gtD (f1 lenD (nb 4)) (f1 lenD (nb 5))))) (sret (fM c_Net_point_in (nb 2) (fcons (nm 3) fnil))) snx)) ((cellsA (s1 ++ s2)).map (eJ (s1 ++ s2))) [.sh (eS s1), .sh (eS s2), .sh (netM (s1 ++ s2)), .no, .no, .no, .no]) (sret (kc .non))) := by
    rw [st_unlike]
    unfold F_unlike
    walk_at "pv"
    rw [show addD (eS s1) (eS s2) = some (eS (s1 ++ s2)) by
      unfold eS
      rw [addD_t (by rw [List.length_map, List.length_map]; unfold big; omega), List.map_append]]
    walk_at "pv"
    rw [eN]
    walk_at "pv"
    rw [iitems_eq]
    walk_at "pv"
    rw [show insideD (netM (s1 ++ s2)) = some (.dct (dgrid (FA (s1 ++ s2)).length (TU (s1 ++ s2)).length (insF (s1 ++ s2)))) from rfl]
    walk_at "pv"
    rw [items_net (f := .non) (t := .non)]
    rfl
  refine ⟨fun c hc => ?_, fun hn => ?_⟩
  · rw [st, go.1 c hc]
    walk_at "pv"
  · rw [st]
    exact endP_seq (go.2 hn) fun ρ ⟨x3, x4, x5, x6, hρ⟩ => by
      subst hρ
      walk_at "pv"
theorem block_of {L : List Int} (h : L.Pairwise (· < ·)) {r : Int} : ∀ (d k : Nat), k + d + 1 = L.length → L.getD k 0 ≤ r → ∃ k, k < L.length ∧ L.getD k 0 ≤ r ∧ ∀ x ∈ L, x ≤ L.getD k 0 ∨ r + 1 ≤ x
  | 0, k, hk, h0 => ⟨k, by omega, h0, fun x hx => by
      rcases up_split h hx (show k < L.length by omega) with c | c
      · exact .inl c
      · omega⟩
  | d + 1, k, hk, h0 => by
    by_cases c : L.getD (k + 1) 0 ≤ r
    · exact block_of h d (k + 1) (by omega) c
    · refine ⟨k, by omega, h0, fun x hx => ?_⟩
      rcases up_split h hx (show k < L.length by omega) with c2 | c2
      · exact .inl c2
      · exact .inr (by omega)
theorem cov_congr {s : List Pc} {r t r' t' : Int} (h : ∀ q ∈ s, inC q r t = inC q r' t') : cov s r t = cov s r' t' := by
  unfold cov
  rw [Bool.eq_iff_iff, List.any_eq_true, List.any_eq_true]
  exact ⟨fun ⟨q, h1, h2⟩ => ⟨q, h1, by rw [← h q h1]; exact h2⟩, fun ⟨q, h1, h2⟩ => ⟨q, h1, by rw [h q h1]; exact h2⟩⟩
/-- each small cell lies in a cell of the net -/
theorem cell_of_fine {M : Nat} {s : List Pc} (hs : ∀ q ∈ s, q.Ok (M : Int)) {r t : Nat} (ht : t < 24) : ∃ k n, k < (FA s).length ∧ n < (TU s).length ∧ ∀ q ∈ s, inC q (r : Int) (t : Int) = inC q ((FA s).getD k 0) ((TU s).getD n 0) := by
  have U := up_of hs
  have hb := FA_b (show (0 : Int) ≤ M by omega) hs
  have hp := FA_pos s
  have hq := TU_pos s
  have z0 := head_zero U.l (mem_sortU.mpr List.mem_cons_self) (fun x hx => (hb x hx).1)
  have y0 := head_zero U.t (mem_sortU.mpr (List.mem_append_right _ (by simp))) (fun x hx => (U.t0 x hx).1)
  obtain ⟨k, hk, k1, k2⟩ := block_of U.l (r := (r : Int)) ((FA s).length - 1) 0 (by omega) (by omega)
  obtain ⟨n, hn, n1, n2⟩ := block_of U.t (r := (t : Int)) ((TU s).length - 1) 0 (by omega) (by omega)
  refine ⟨k, n, hk, hn, fun q hq => ?_⟩
  have B := brk_of s q hq
  have t0 := U.t0 _ (getD_mem (L := TU s) (k := n) hn)
  rw [inC_turn (hs q hq) t0.1 (show (t : Int) + 1 ≤ 24 by omega) (n2 _ B.b) (n2 _ B.e) n1 (by omega), inC_ring (k2 _ B.i) (k2 _ B.o) k1 (by omega)]
theorem dif_iff {M : Nat} {s1 s2 : List Pc} (h1 : ∀ q ∈ s1, q.Ok (M : Int)) (h2 : ∀ q ∈ s2, q.Ok (M : Int)) : (cellsA (s1 ++ s2)).find? (difC s1 s2) = none ↔ (grid (M + 1) 24 fun r t => (r, t)).filter (fun c : Nat × Nat => dif s1 s2 (c.1 : Int) (c.2 : Int)) = [] := by
  have hs : ∀ q ∈ s1 ++ s2, q.Ok (M : Int) := fun q hq => (List.mem_append.mp hq).elim (h1 q) (h2 q)
  rw [List.find?_eq_none, List.filter_eq_nil_iff]
  constructor
  · intro h c hc hd
    obtain ⟨r, t, hr, ht, rfl⟩ := mem_grid.mp hc
    obtain ⟨k, n, hk, hn, e⟩ := cell_of_fine hs (r := r) ht
    refine h (k, n) (mem_grid.mpr ⟨k, n, hk, hn, rfl⟩) ?_
    unfold difC dif
    rw [← cov_congr fun q hq => e q (List.mem_append_left _ hq), ← cov_congr fun q hq => e q (List.mem_append_right _ hq)]
    exact hd
  · intro h c hc hd
    obtain ⟨k, n, hk, hn, rfl⟩ := mem_grid.mp hc
    have b1 := FA_b (show (0 : Int) ≤ M by omega) hs _ (getD_mem hk)
    have b2 := (up_of hs).t0 _ (getD_mem hn)
    obtain ⟨r, hr⟩ := Int.ex_nat b1.1
    obtain ⟨t, ht⟩ := Int.ex_nat b2.1
    refine h (r, t) (mem_grid.mpr ⟨r, t, by omega, by omega, rfl⟩) ?_
    unfold difC at hd
    simp only at hd
    rw [hr, ht] at hd
    exact hd
theorem lenD_s {ns : List Int} : lenD (.scr ns) = some (.int (ns.length : Nat)) := (rfl)
theorem c__law_cell_t {ns : List Int} {k : Int} (hk : 0 ≤ k) : ∃ c : Int, c__law_cell [.scr ns, .int k] = some (.int c) := by
  obtain ⟨j, rfl⟩ := Int.ex_nat hk
  rw [st__law_cell]
  unfold F__law_cell
  walk_at "pv"
  rw [lenD_s]
  walk_at "pv"
  by_cases h : j < ns.length
  · refine ⟨ns[j], ?_⟩
    rw [decide_eq_true (show (j : Int) < (ns.length : Nat) by omega), if_pos rfl]
    have e : ixD (.scr ns) (.int (j : Int)) = some (.int ns[j]) := by
      show (atI ns (j : Int)).map D.int = _
      rw [atI_nat (List.getElem?_eq_getElem h)]; rfl
    rw [e]; rfl
  · refine ⟨0, ?_⟩
    rw [decide_eq_false (show ¬ (j : Int) < (ns.length : Nat) by omega), if_neg Bool.false_ne_true]
theorem isntD_n {d : D} : isntD d .non = some (.bl (!nonB d)) := by cases d <;> rfl
theorem nonB_n : nonB .non = true := (rfl)
theorem cells6 {s : List Pc} (hs : ∀ q ∈ s, q.Ok ((6 : Nat) : Int)) (hl : s.length ≤ 300) : c__law_cells [eS s, .int 6] = some (.dct (dgrid (6 + 1) 24 (fineF s))) := c__law_cells_t (M := 6) (by decide) hs hl
theorem fine_at {s : List Pc} {M : Nat} {c : Nat × Nat} (h1 : c.1 < M + 1) (h2 : c.2 < 24) : ixD (.dct (dgrid (M + 1) 24 (fineF s))) (eC c) = some (eL (LY s (c.1 : Int) (c.2 : Int))) := (ixD_dk (ns := kkey c.1 c.2)).trans (getK_grid h1 h2)
end Pv
set_option Elab.async false
set_option linter.all false
set_option maxRecDepth 100000
set_option maxHeartbeats 4000000
set_option autoImplicit false
namespace Pv
variable [TabT]
open PySem PySem.Spec PyProof.Rows L2
local macro_rules | `(tactic| walk_at "pv") => `(tactic| simp only [wipe_nil, wipe_cons, sext_eq, sapp_eq, sput_eq, nxE_nx, farsD_n, turnsD_n, insideD_n, fM_eq, netB_n, seqD_d, sdrop_eq, slT_1, slL_1, slS_1, slT_2, slL_2, slS_2, slT_3, slL_3, slS_3, slT_4, slL_4, slS_4, slT_5, slL_5, slS_5, slT_6, slL_6, slS_6, slT_7, slL_7, slS_7, slT_8, slL_8, slS_8, slT_9, slL_9, slS_9, slT_10, slL_10, slS_10, slT_12, slL_12, slS_12, slT_16, slL_16, slS_16, listD_t, listD_l, sseq_eq, seqR_nx, seqR_rt, seqR_ite, endD_ite, bind_ite, sret_eq, sset_eq, sown_eq, sbind_eq, snx_eq, sif_eq, f1_eq, f2_eq, fN_eq, fcons_eq, fnil_eq, kc_eq, tv_eq, tb_eq, boolD_b, tor_eq, tand_eq, tnot_eq, vand_eq, vor_eq, spar_eq, iseq_eq, seqD_l, seqD_t, ienum_eq, enumD_l, enumD_t, irange1_eq, irange2_eq, fch_eq, chL_t, chL_f, fsl_eq, onone_eq, osome_eq, intO_i, sfor_eq, nm_0, nb_0, nbo_0, nm_s, nb_s, obs, obn, ls0, lsS, bindP1, bindT1, bindT2, bindT3, bindT4, tup0, tup1, tup2, tup3, tup4, lst0, lst1, lst2, lst3, lst4, lst5, lst7, lst8, isiD_i, isiD_ib, isiD_is, isiD_in, isiD_it, isiD_il, isiB_i, isiB_b, isiB_s, isiT_i, isiT_b, isiT_s, isiT_n, isiT_t, isiT_l, setE, addD_i, subD_i, negD_i, absD_i, ltD_i, leD_i, gtD_i, geD_i, eqD_i, neD_i, eqD_b, neD_b, isD_b, isntD_b, ixT0, ixT1, ixT2, ixT3, truD_b, truD_t, truD_l, lenD_t, lenD_l, notD_b, tupleD_l, tupleD_t, endD_ret, endD_rt, reduceIte, if_true, if_false, Bool.false_eq_true, Bool.not_true, Bool.not_false, decide_true, decide_false, Bool.true_eq, ne_eq])
local macro_rules | `(tactic| walk_at "pvs") => `(tactic| simp only [*, wipe_nil, wipe_cons, sext_eq, sapp_eq, sput_eq, nxE_nx, farsD_n, turnsD_n, insideD_n, fM_eq, netB_n, seqD_d, sdrop_eq, slT_1, slL_1, slS_1, slT_2, slL_2, slS_2, slT_3, slL_3, slS_3, slT_4, slL_4, slS_4, slT_5, slL_5, slS_5, slT_6, slL_6, slS_6, slT_7, slL_7, slS_7, slT_8, slL_8, slS_8, slT_9, slL_9, slS_9, slT_10, slL_10, slS_10, slT_12, slL_12, slS_12, slT_16, slL_16, slS_16, listD_t, listD_l, mulD_r, mulD_l, modD_i, fdivD_i, sseq_eq, seqR_nx, seqR_rt, seqR_ite, endD_ite, bind_ite, sret_eq, sset_eq, sown_eq, sbind_eq, snx_eq, sif_eq, f1_eq, f2_eq, fN_eq, fcons_eq, fnil_eq, kc_eq, tv_eq, tb_eq, boolD_b, tor_eq, tand_eq, tnot_eq, vand_eq, vor_eq, spar_eq, iseq_eq, seqD_l, seqD_t, ienum_eq, enumD_l, enumD_t, irange1_eq, irange2_eq, fch_eq, chL_t, chL_f, fsl_eq, onone_eq, osome_eq, intO_i, sfor_eq, nm_0, nb_0, nbo_0, nm_s, nb_s, obs, obn, ls0, lsS, bindP1, bindT1, bindT2, bindT3, bindT4, tup0, tup1, tup2, tup3, tup4, lst0, lst1, lst2, lst3, lst4, lst5, lst7, lst8, isiD_i, isiD_ib, isiD_is, isiD_in, isiD_it, isiD_il, isiB_i, isiB_b, isiB_s, isiT_i, isiT_b, isiT_s, isiT_n, isiT_t, isiT_l, setE, addD_i, subD_i, negD_i, absD_i, ltD_i, leD_i, gtD_i, geD_i, eqD_i, neD_i, eqD_b, neD_b, isD_b, isntD_b, ixT0, ixT1, ixT2, ixT3, truD_b, truD_t, truD_l, lenD_t, lenD_l, notD_b, tupleD_l, tupleD_t, endD_ret, endD_rt, reduceIte, if_true, if_false, Bool.false_eq_true, Bool.not_true, Bool.not_false, decide_true, decide_false, Bool.true_eq, ne_eq])
local macro_rules | `(tactic| walk_at "pvo") => `(tactic| simp (disch := omega) only [addD_l, addD_t, rng1D_i, rng2D_i, wipe_nil, wipe_cons, sext_eq, sapp_eq, sput_eq, nxE_nx, farsD_n, turnsD_n, insideD_n, fM_eq, netB_n, seqD_d, sdrop_eq, slT_1, slL_1, slS_1, slT_2, slL_2, slS_2, slT_3, slL_3, slS_3, slT_4, slL_4, slS_4, slT_5, slL_5, slS_5, slT_6, slL_6, slS_6, slT_7, slL_7, slS_7, slT_8, slL_8, slS_8, slT_9, slL_9, slS_9, slT_10, slL_10, slS_10, slT_12, slL_12, slS_12, slT_16, slL_16, slS_16, listD_t, listD_l, mulD_r, mulD_l, modD_i, fdivD_i, sseq_eq, seqR_nx, seqR_rt, seqR_ite, endD_ite, bind_ite, sret_eq, sset_eq, sown_eq, sbind_eq, snx_eq, sif_eq, f1_eq, f2_eq, fN_eq, fcons_eq, fnil_eq, kc_eq, tv_eq, tb_eq, boolD_b, tor_eq, tand_eq, tnot_eq, vand_eq, vor_eq, spar_eq, iseq_eq, seqD_l, seqD_t, ienum_eq, enumD_l, enumD_t, irange1_eq, irange2_eq, fch_eq, chL_t, chL_f, fsl_eq, onone_eq, osome_eq, intO_i, sfor_eq, nm_0, nb_0, nbo_0, nm_s, nb_s, obs, obn, ls0, lsS, bindP1, bindT1, bindT2, bindT3, bindT4, tup0, tup1, tup2, tup3, tup4, lst0, lst1, lst2, lst3, lst4, lst5, lst7, lst8, isiD_i, isiD_ib, isiD_is, isiD_in, isiD_it, isiD_il, isiB_i, isiB_b, isiB_s, isiT_i, isiT_b, isiT_s, isiT_n, isiT_t, isiT_l, setE, addD_i, subD_i, negD_i, absD_i, ltD_i, leD_i, gtD_i, geD_i, eqD_i, neD_i, eqD_b, neD_b, isD_b, isntD_b, ixT0, ixT1, ixT2, ixT3, truD_b, truD_t, truD_l, lenD_t, lenD_l, notD_b, tupleD_l, tupleD_t, endD_ret, endD_rt, reduceIte, if_true, if_false, Bool.false_eq_true, Bool.not_true, Bool.not_false, decide_true, decide_false, Bool.true_eq, ne_eq])
/-! ### what hangs together -/
section
variable {α β γ : Type}
inductive Conn (adj : α → List α) (m : α → γ) : α → α → Prop
  | refl (x : α) : Conn adj m x x
  | step {x y z : α} : Conn adj m x y → z ∈ adj y → m z = m y → Conn adj m x z
theorem Conn.mark {adj : α → List α} {m : α → γ} {x y : α} (h : Conn adj m x y) : m y = m x := by
  induction h with
  | refl => rfl
  | step _ _ e ih => rw [e, ih]
theorem Conn.trans {adj : α → List α} {m : α → γ} {x y z : α} (h1 : Conn adj m x y) (h2 : Conn adj m y z) : Conn adj m x z := by
  induction h2 with
  | refl => exact h1
  | step _ a e ih => exact .step ih a e
/-- a graph: its cells, each one's neighbours among them, both ways -/
structure Gr (V : List α) (adj : α → List α) : Prop where
  inn : ∀ x ∈ V, ∀ y ∈ adj x, y ∈ V
  sym : ∀ x ∈ V, ∀ y ∈ adj x, x ∈ adj y
theorem Conn.inV {V : List α} {adj : α → List α} {m : α → γ} (g : Gr V adj) {x y : α} (hx : x ∈ V) (h : Conn adj m x y) : y ∈ V := by
  induction h with
  | refl => exact hx
  | step _ a _ ih => exact g.inn _ ih _ a
theorem Conn.symm {V : List α} {adj : α → List α} {m : α → γ} (g : Gr V adj) {x y : α} (hx : x ∈ V) (h : Conn adj m x y) : Conn adj m y x := by
  induction h with
  | refl => exact .refl _
  | @step y z h1 a e ih => exact Conn.trans (.step (.refl z) (g.sym _ (h1.inV g hx) _ a) e.symm) ih
structure Comp (V : List α) (adj : α → List α) (m : α → γ) (g : List α) : Prop where
  con : ∃ c t, g = c :: t ∧ c ∈ V ∧ ∀ x ∈ g, Conn adj m c x
  clo : ∀ x ∈ g, ∀ y ∈ adj x, m y = m x → y ∈ g
  nd : g.Nodup
theorem Comp.inV {V : List α} {adj : α → List α} {m : α → γ} (G : Gr V adj) {g : List α} (h : Comp V adj m g) {x : α} (hx : x ∈ g) : x ∈ V := by
  obtain ⟨c, t, _, hc, hcon⟩ := h.con
  exact (hcon x hx).inV G hc
theorem Comp.same {V : List α} {adj : α → List α} {m : α → γ} (G : Gr V adj) {g : List α} (h : Comp V adj m g) {x y : α} (hx : x ∈ g) (hy : y ∈ g) : Conn adj m x y := by
  obtain ⟨c, t, _, hc, hcon⟩ := h.con
  exact ((hcon x hx).symm G hc).trans (hcon y hy)
theorem Comp.mem {V : List α} {adj : α → List α} {m : α → γ} {g : List α} (h : Comp V adj m g) {x y : α} (hx : x ∈ g) (hc : Conn adj m x y) : y ∈ g := by
  induction hc with
  | refl => exact hx
  | step _ a e ih => exact h.clo _ ih _ a e
structure Parts (V : List α) (adj : α → List α) (m : α → γ) (gs : List (List α)) : Prop where
  comp : ∀ g ∈ gs, Comp V adj m g
  dis : gs.Pairwise fun g h => ∀ x ∈ g, x ∉ h
  all : ∀ x ∈ V, ∃ g ∈ gs, x ∈ g
theorem rel_le {A B : Type} (R : A → B → Prop) : ∀ (xs : List A) (ys : List B), (∀ x ∈ xs, ∃ y ∈ ys, R x y) → xs.Pairwise (fun x x' => ∀ y, R x y → R x' y → False) → xs.length ≤ ys.length
  | [], _, _, _ => Nat.zero_le _
  | x :: xs, ys, h, hp => by
    obtain ⟨y, hy, r⟩ := h x List.mem_cons_self
    obtain ⟨l1, l2, e⟩ := List.append_of_mem hy
    obtain ⟨h1, h2⟩ := List.pairwise_cons.mp hp
    have := rel_le R xs (l1 ++ l2) (fun x' hx' => by
      obtain ⟨y', hy', r'⟩ := h x' (List.mem_cons_of_mem _ hx')
      refine ⟨y', ?_, r'⟩
      rw [e] at hy'
      rcases List.mem_append.mp hy' with c | c
      · exact List.mem_append_left _ c
      · rcases List.mem_cons.mp c with c | c
        · subst c; exact (h1 x' hx' y' r r').elim
        · exact List.mem_append_right _ c) h2
    rw [e, List.length_append, List.length_cons]
    rw [List.length_append] at this
    rw [List.length_cons]
    omega
theorem parts_count {V : List α} {adj : α → List α} {m : α → γ} {W : List β} {bdj : β → List β} {mb : β → γ} (GA : Gr V adj) (GB : Gr W bdj) (f : β → α) (hf : ∀ w ∈ W, f w ∈ V) (sur : ∀ v ∈ V, ∃ w ∈ W, f w = v) (mk : ∀ w ∈ W, mb w = m (f w))
    (cc : ∀ x ∈ W, ∀ y ∈ W, Conn bdj mb x y ↔ Conn adj m (f x) (f y)) {gs : List (List α)} {hs : List (List β)} (PA : Parts V adj m gs) (PB : Parts W bdj mb hs) (d : α) (e : β) (lit : γ → Bool) :
    (gs.filter fun g => lit (m (g.headD d))).length = (hs.filter fun h => lit (mb (h.headD e))).length := by
  have hdA : ∀ g ∈ gs, g.headD d ∈ g := fun g hg => by obtain ⟨c, t, e1, _⟩ := (PA.comp g hg).con; rw [e1]; exact List.mem_cons_self
  have hdB : ∀ h ∈ hs, h.headD e ∈ h := fun h hh => by obtain ⟨c, t, e1, _⟩ := (PB.comp h hh).con; rw [e1]; exact List.mem_cons_self
  have inA : ∀ g ∈ gs, ∀ x ∈ g, x ∈ V := fun g hg x hx => (PA.comp g hg).inV GA hx
  have inB : ∀ h ∈ hs, ∀ x ∈ h, x ∈ W := fun h hh x hx => (PB.comp h hh).inV GB hx
  refine Nat.le_antisymm ?_ ?_
  · refine rel_le (fun g h => ∃ w ∈ h, h ∈ hs ∧ g ∈ gs ∧ f w ∈ g) _ _ (fun g hg => ?_) ?_
    · obtain ⟨hg1, hg2⟩ := List.mem_filter.mp hg
      obtain ⟨w, hw, hfw⟩ := sur _ (inA g hg1 _ (hdA g hg1))
      obtain ⟨h, hh, hwh⟩ := PB.all w hw
      refine ⟨h, List.mem_filter.mpr ⟨hh, ?_⟩, w, hwh, hh, hg1, by rw [hfw]; exact hdA g hg1⟩
      have c1 := ((PB.comp h hh).same GB hwh (hdB h hh)).mark
      rw [c1, mk w hw, hfw]
      exact hg2
    · refine List.Pairwise.imp (fun {g g'} hgg h ⟨w, hw, hh, hg, hfw⟩ ⟨w', hw', _, hg', hfw'⟩ => ?_) (PA.dis.sublist List.filter_sublist)
      have c1 := (PB.comp h hh).same GB hw hw'
      have c2 := (cc w (inB h hh w hw) w' (inB h hh w' hw')).mp c1
      exact hgg _ ((PA.comp g hg).mem hfw c2) hfw'
  · refine rel_le (fun h g => f (h.headD e) ∈ g ∧ g ∈ gs ∧ h ∈ hs) _ _ (fun h hh => ?_) ?_
    · obtain ⟨hh1, hh2⟩ := List.mem_filter.mp hh
      have hw := inB h hh1 _ (hdB h hh1)
      obtain ⟨g, hg, hfg⟩ := PA.all _ (hf _ hw)
      refine ⟨g, List.mem_filter.mpr ⟨hg, ?_⟩, hfg, hg, hh1⟩
      have c1 := ((PA.comp g hg).same GA hfg (hdA g hg)).mark
      rw [c1, ← mk _ hw]
      exact hh2
    · refine List.Pairwise.imp (fun {h h'} hhh g ⟨h1, hg, hh⟩ ⟨h2, _, hh'⟩ => ?_) (PB.dis.sublist List.filter_sublist)
      have c1 := (PA.comp g hg).same GA h1 h2
      have w1 := inB h hh _ (hdB h hh)
      have w2 := inB h' hh' _ (hdB h' hh')
      have c2 := (cc _ w1 _ w2).mpr c1
      exact hhh _ ((PB.comp h hh).mem (hdB h hh) c2) (hdB h' hh')
end
/-! ### blocks of a rising list of breaks -/
structure Blk (L : List Int) (R : Nat) : Prop where
  up : L.Pairwise (· < ·)
  ne : 0 < L.length
  z : L.getD 0 0 = 0
  bd : ∀ x ∈ L, 0 ≤ x ∧ x < (R : Int)
def idx (L : List Int) (r : Int) : Nat := (L.filter fun x => decide (x ≤ r)).length - 1
theorem take_len : ∀ {L : List Int} {r : Int} {k : Nat}, L.Pairwise (· < ·) → k < L.length → L.getD k 0 ≤ r → (k + 1 < L.length → r < L.getD (k + 1) 0) → (L.filter fun x => decide (x ≤ r)).length = k + 1
  | [], _, _, _, h, _, _ => by cases h
  | x :: L, r, 0, hp, _, h1, h2 => by
    obtain ⟨p1, p2⟩ := List.pairwise_cons.mp hp
    rw [List.filter_cons_of_pos (by simpa using h1), List.length_cons]
    congr 1
    rw [List.length_eq_zero_iff, List.filter_eq_nil_iff]
    intro y hy hd
    have hl : 0 + 1 < (x :: L).length := by
      have := List.length_pos_of_mem hy
      rw [List.length_cons]; omega
    have h3 : r < (x :: L).getD 1 0 := h2 hl
    have hd : y ≤ r := by simpa using hd
    match L, p2, hy with
    | z :: L, p2, hy =>
      have h4 : r < z := h3
      rcases List.mem_cons.mp hy with c | c
      · omega
      · have := (List.pairwise_cons.mp p2).1 y c
        omega
  | x :: L, r, k + 1, hp, hk, h1, h2 => by
    obtain ⟨p1, p2⟩ := List.pairwise_cons.mp hp
    have hk : k < L.length := by rw [List.length_cons] at hk; omega
    have h1 : L.getD k 0 ≤ r := h1
    have hx : x < L.getD k 0 := p1 _ (getD_mem hk)
    rw [List.filter_cons_of_pos (by simp; omega), List.length_cons, take_len p2 hk h1 fun h => h2 (by rw [List.length_cons]; omega)]
theorem idx_uniq {L : List Int} {r : Int} {k : Nat} (h : L.Pairwise (· < ·)) (hk : k < L.length) (h1 : L.getD k 0 ≤ r) (h2 : k + 1 < L.length → r < L.getD (k + 1) 0) : idx L r = k := by
  unfold idx
  rw [take_len h hk h1 h2, Nat.add_sub_cancel]
theorem idx_at {L : List Int} (h : L.Pairwise (· < ·)) {k : Nat} (hk : k < L.length) : idx L (L.getD k 0) = k := idx_uniq h hk (Int.le_refl _) fun h2 => up_get h (Nat.lt_succ_self k) h2
theorem idx_ok {L : List Int} {R : Nat} (B : Blk L R) {r : Int} (h0 : 0 ≤ r) : idx L r < L.length ∧ L.getD (idx L r) 0 ≤ r ∧ (idx L r + 1 < L.length → r < L.getD (idx L r + 1) 0) := by
  obtain ⟨k, hk, k1, k2⟩ := block_of B.up (r := r) (L.length - 1) 0 (by have := B.ne; omega) (by rw [B.z]; exact h0)
  have k3 : k + 1 < L.length → r < L.getD (k + 1) 0 := fun h => by
    rcases k2 _ (getD_mem h) with c | c
    · have : L.getD k 0 < L.getD (k + 1) 0 := up_get B.up (Nat.lt_succ_self k) h
      omega
    · omega
  rw [idx_uniq B.up hk k1 k3]
  exact ⟨hk, k1, k3⟩
theorem idx_succ {L : List Int} {R : Nat} (B : Blk L R) {r : Int} (h0 : 0 ≤ r) : idx L (r + 1) = idx L r ∨ (idx L r + 1 < L.length ∧ idx L (r + 1) = idx L r + 1) := by
  obtain ⟨a1, a2, a3⟩ := idx_ok B h0
  by_cases h : idx L r + 1 < L.length ∧ L.getD (idx L r + 1) 0 = r + 1
  · refine .inr ⟨h.1, ?_⟩
    rw [← h.2, idx_at B.up h.1]
  · refine .inl (idx_uniq B.up a1 (by omega) fun h2 => ?_)
    have := a3 h2
    by_cases h4 : L.getD (idx L r + 1) 0 = r + 1
    · exact (h ⟨h2, h4⟩).elim
    · omega
theorem idx_mid {L : List Int} {R : Nat} (B : Blk L R) {r s r' : Int} (h0 : 0 ≤ r) (h1 : r ≤ s) (h2 : s ≤ r') (e : idx L r = idx L r') : idx L s = idx L r := by
  obtain ⟨a1, a2, a3⟩ := idx_ok B h0
  obtain ⟨b1, b2, b3⟩ := idx_ok B (r := r') (by omega)
  refine idx_uniq B.up a1 (by omega) fun h => ?_
  have := b3 (by rw [← e]; exact h)
  rw [← e] at this
  omega
/-! ### rings and turns -/
def nxt (b n : Nat) : Nat := if n + 1 < b then n + 1 else 0
def prv (b n : Nat) : Nat := if n = 0 then b - 1 else n - 1
def adjC (a b : Nat) (c : Nat × Nat) : List (Nat × Nat) := (if 0 < c.1 then [(c.1 - 1, c.2)] else []) ++ ((if c.1 + 1 < a then [(c.1 + 1, c.2)] else []) ++ (if 1 < b then [(c.1, nxt b c.2), (c.1, prv b c.2)] else []))
abbrev cellsG (a b : Nat) : List (Nat × Nat) := grid a b fun k n => (k, n)
theorem mem_cells {a b : Nat} {c : Nat × Nat} : c ∈ cellsG a b ↔ c.1 < a ∧ c.2 < b := by
  rw [mem_grid]
  constructor
  · rintro ⟨k, n, h1, h2, rfl⟩; exact ⟨h1, h2⟩
  · rintro ⟨h1, h2⟩; exact ⟨c.1, c.2, h1, h2, rfl⟩
theorem mem_adj {a b : Nat} {c d : Nat × Nat} : d ∈ adjC a b c ↔ (0 < c.1 ∧ d = (c.1 - 1, c.2)) ∨ (c.1 + 1 < a ∧ d = (c.1 + 1, c.2)) ∨ (1 < b ∧ (d = (c.1, nxt b c.2) ∨ d = (c.1, prv b c.2))) := by
  unfold adjC
  rw [List.mem_append, List.mem_append]
  constructor
  · rintro (h | h | h)
    · split at h
      · rename_i h0; exact .inl ⟨h0, by simpa using h⟩
      · cases h
    · split at h
      · rename_i h0; exact .inr (.inl ⟨h0, by simpa using h⟩)
      · cases h
    · split at h
      · rename_i h0; exact .inr (.inr ⟨h0, by simpa using h⟩)
      · cases h
  · rintro (⟨h0, rfl⟩ | ⟨h0, rfl⟩ | ⟨h0, h⟩)
    · exact .inl (by rw [if_pos h0]; simp)
    · exact .inr (.inl (by rw [if_pos h0]; simp))
    · exact .inr (.inr (by rw [if_pos h0]; simpa using h))
theorem nxt_prv {b n : Nat} (h : n < b) : prv b (nxt b n) = n := by
  unfold prv nxt
  split
  · split <;> omega
  · split <;> omega
theorem prv_nxt {b n : Nat} (h : n < b) : nxt b (prv b n) = n := by
  unfold prv nxt
  split
  · split <;> omega
  · split <;> omega
theorem nxt_lt {b n : Nat} (h : n < b) : nxt b n < b := by unfold nxt; split <;> omega
theorem prv_lt {b n : Nat} (h : n < b) : prv b n < b := by unfold prv; split <;> omega
theorem gr_cells (a b : Nat) : Gr (cellsG a b) (adjC a b) := by
  refine ⟨fun x hx y hy => ?_, fun x hx y hy => ?_⟩
  · obtain ⟨h1, h2⟩ := mem_cells.mp hx
    refine mem_cells.mpr ?_
    rcases mem_adj.mp hy with ⟨h0, rfl⟩ | ⟨h0, rfl⟩ | ⟨h0, rfl | rfl⟩
    · exact ⟨by simp only; omega, h2⟩
    · exact ⟨h0, h2⟩
    · exact ⟨h1, nxt_lt h2⟩
    · exact ⟨h1, prv_lt h2⟩
  · obtain ⟨h1, h2⟩ := mem_cells.mp hx
    refine mem_adj.mpr ?_
    rcases mem_adj.mp hy with ⟨h0, rfl⟩ | ⟨h0, rfl⟩ | ⟨h0, rfl | rfl⟩
    · exact .inr (.inl ⟨by simp only; omega, by simp only; rw [show x.1 - 1 + 1 = x.1 by omega]⟩)
    · exact .inl ⟨by simp only; omega, by simp only [Nat.add_sub_cancel]⟩
    · exact .inr (.inr ⟨h0, .inr (by simp only; rw [nxt_prv h2])⟩)
    · exact .inr (.inr ⟨h0, .inl (by simp only; rw [prv_nxt h2])⟩)
/-- the net's cell over a small cell -/
def fcell (L T : List Int) (c : Nat × Nat) : Nat × Nat := (idx L (c.1 : Int), idx T (c.2 : Int))
theorem fcell_in {L T : List Int} {R S : Nat} (BL : Blk L R) (BT : Blk T S) (c : Nat × Nat) : fcell L T c ∈ cellsG L.length T.length := mem_cells.mpr ⟨(idx_ok BL (by omega)).1, (idx_ok BT (by omega)).1⟩
theorem fcell_sur {L T : List Int} {R S : Nat} (BL : Blk L R) (BT : Blk T S) : ∀ v ∈ cellsG L.length T.length, ∃ w ∈ cellsG R S, fcell L T w = v := fun v hv => by
  obtain ⟨h1, h2⟩ := mem_cells.mp hv
  have b1 := BL.bd _ (getD_mem h1)
  have b2 := BT.bd _ (getD_mem h2)
  refine ⟨((L.getD v.1 0).toNat, (T.getD v.2 0).toNat), mem_cells.mpr ⟨by simp only; omega, by simp only; omega⟩, ?_⟩
  unfold fcell
  simp only
  rw [Int.toNat_of_nonneg b1.1, Int.toNat_of_nonneg b2.1, idx_at BL.up h1, idx_at BT.up h2]
theorem adj_map {L T : List Int} {R S : Nat} (BL : Blk L R) (BT : Blk T S) {x y : Nat × Nat} (hx : x ∈ cellsG R S) (hy : y ∈ adjC R S x) : fcell L T y = fcell L T x ∨ fcell L T y ∈ adjC L.length T.length (fcell L T x) := by
  obtain ⟨h1, h2⟩ := mem_cells.mp hx
  have t0 := (idx_ok BT (r := (x.2 : Int)) (by omega)).1
  have turn : ∀ n : Nat, n < S → idx T ((nxt S n : Nat) : Int) = idx T (n : Int) ∨ (1 < T.length ∧ idx T ((nxt S n : Nat) : Int) = nxt T.length (idx T (n : Int))) := fun n hn => by
    obtain ⟨a1, a2, a3⟩ := idx_ok BT (r := (n : Int)) (by omega)
    unfold nxt
    by_cases c : n + 1 < S
    · rw [if_pos c]
      rcases idx_succ BT (r := (n : Int)) (by omega) with e | ⟨e1, e2⟩
      · exact .inl (by rw [show ((n + 1 : Nat) : Int) = (n : Int) + 1 by omega]; exact e)
      · refine .inr ⟨by omega, ?_⟩
        rw [if_pos e1, show ((n + 1 : Nat) : Int) = (n : Int) + 1 by omega]; exact e2
    · rw [if_neg c]
      have z0 : idx T ((0 : Nat) : Int) = 0 := idx_uniq BT.up BT.ne (by rw [BT.z]; exact Int.le_refl _) fun h => by
        have := up_get BT.up (Nat.lt_succ_self 0) h
        rw [BT.z] at this
        exact this
      rw [z0]
      have last : ¬ idx T (n : Int) + 1 < T.length := fun h => by
        have h3 := a3 h
        have h4 := (BT.bd _ (getD_mem h)).2
        omega
      by_cases c2 : 1 < T.length
      · exact .inr ⟨c2, by rw [if_neg last]⟩
      · exact .inl (by omega)
  rcases mem_adj.mp hy with ⟨c, rfl⟩ | ⟨c, rfl⟩ | ⟨c, rfl | rfl⟩
  · rcases idx_succ BL (r := ((x.1 - 1 : Nat) : Int)) (by omega) with e | ⟨e1, e2⟩
    · left
      unfold fcell
      simp only
      rw [← e, show ((x.1 - 1 : Nat) : Int) + 1 = (x.1 : Int) by omega]
    · right
      rw [show ((x.1 - 1 : Nat) : Int) + 1 = (x.1 : Int) by omega] at e2
      refine mem_adj.mpr (.inl ⟨by unfold fcell; simp only; omega, ?_⟩)
      unfold fcell
      simp only
      rw [e2, Nat.add_sub_cancel]
  · rcases idx_succ BL (r := (x.1 : Int)) (by omega) with e | ⟨e1, e2⟩
    · left
      unfold fcell
      simp only
      rw [← e, show ((x.1 + 1 : Nat) : Int) = (x.1 : Int) + 1 by omega]
    · right
      refine mem_adj.mpr (.inr (.inl ⟨e1, ?_⟩))
      unfold fcell
      simp only
      rw [show ((x.1 + 1 : Nat) : Int) = (x.1 : Int) + 1 by omega, e2]
  · rcases turn x.2 h2 with e | ⟨e1, e2⟩
    · left
      unfold fcell
      simp only
      rw [e]
    · right
      refine mem_adj.mpr (.inr (.inr ⟨e1, .inl ?_⟩))
      unfold fcell
      simp only
      rw [e2]
  · have hp := prv_lt h2
    rcases turn (prv S x.2) hp with e | ⟨e1, e2⟩
    · left
      rw [prv_nxt h2] at e
      unfold fcell
      simp only
      rw [e]
    · right
      rw [prv_nxt h2] at e2
      refine mem_adj.mpr (.inr (.inr ⟨e1, .inr ?_⟩))
      unfold fcell
      simp only
      rw [e2, nxt_prv (idx_ok BT (r := ((prv S x.2 : Nat) : Int)) (by omega)).1]
section
variable {γ : Type} {L T : List Int} {R S : Nat} {mf mc : Nat × Nat → γ}
theorem go_ring (mk : ∀ w ∈ cellsG R S, mf w = mc (fcell L T w)) (BL : Blk L R) {t : Nat} (ht : t < S) : ∀ (d r : Nat), r + d < R → idx L (r : Int) = idx L ((r + d : Nat) : Int) → Conn (adjC R S) mf (r, t) (r + d, t)
  | 0, r, _, _ => .refl _
  | d + 1, r, h, e => by
    have e1 : idx L ((r + d : Nat) : Int) = idx L (r : Int) := idx_mid BL (by omega) (by omega) (by omega) e
    refine .step (go_ring mk BL ht d r (by omega) e1.symm) (mem_adj.mpr (.inr (.inl ⟨by simp only; omega, rfl⟩))) ?_
    rw [mk _ (mem_cells.mpr ⟨h, ht⟩), mk _ (mem_cells.mpr ⟨by simp only; omega, ht⟩)]
    unfold fcell
    simp only
    rw [e1, e]
theorem go_turn (mk : ∀ w ∈ cellsG R S, mf w = mc (fcell L T w)) (BT : Blk T S) {r : Nat} (hr : r < R) : ∀ (d t : Nat), t + d < S → idx T (t : Int) = idx T ((t + d : Nat) : Int) → Conn (adjC R S) mf (r, t) (r, t + d)
  | 0, t, _, _ => .refl _
  | d + 1, t, h, e => by
    have e1 : idx T ((t + d : Nat) : Int) = idx T (t : Int) := idx_mid BT (by omega) (by omega) (by omega) e
    refine .step (go_turn mk BT hr d t (by omega) e1.symm) (mem_adj.mpr (.inr (.inr ⟨by omega, .inl ?_⟩))) ?_
    · unfold nxt
      simp only
      rw [if_pos (by omega)]; rfl
    · rw [mk _ (mem_cells.mpr ⟨hr, h⟩), mk _ (mem_cells.mpr ⟨hr, by simp only; omega⟩)]
      unfold fcell
      simp only
      rw [e1, e]
theorem fiber (mk : ∀ w ∈ cellsG R S, mf w = mc (fcell L T w)) (BL : Blk L R) (BT : Blk T S) {x y : Nat × Nat} (hx : x ∈ cellsG R S) (hy : y ∈ cellsG R S) (e : fcell L T x = fcell L T y) : Conn (adjC R S) mf x y := by
  obtain ⟨r, t⟩ := x
  obtain ⟨r', t'⟩ := y
  obtain ⟨h1, h2⟩ := mem_cells.mp hx
  obtain ⟨h3, h4⟩ := mem_cells.mp hy
  have e1 : idx L (r : Int) = idx L (r' : Int) := congrArg Prod.fst e
  have e2 : idx T (t : Int) = idx T (t' : Int) := congrArg Prod.snd e
  have G := gr_cells R S
  have c1 : Conn (adjC R S) mf (r, t) (r', t) := by
    rcases Nat.le_total r r' with c | c
    · obtain ⟨d, rfl⟩ := Nat.exists_eq_add_of_le c
      exact go_ring mk BL h2 d r h3 e1
    · obtain ⟨d, rfl⟩ := Nat.exists_eq_add_of_le c
      exact (go_ring mk BL h2 d r' h1 e1.symm).symm G (mem_cells.mpr ⟨h3, h2⟩)
  have c2 : Conn (adjC R S) mf (r', t) (r', t') := by
    rcases Nat.le_total t t' with c | c
    · obtain ⟨d, rfl⟩ := Nat.exists_eq_add_of_le c
      exact go_turn mk BT h3 d t h4 e2
    · obtain ⟨d, rfl⟩ := Nat.exists_eq_add_of_le c
      exact (go_turn mk BT h3 d t' h2 e2.symm).symm G (mem_cells.mpr ⟨h3, h4⟩)
  exact c1.trans c2
theorem real_adj (BL : Blk L R) (BT : Blk T S) {c d : Nat × Nat} (hc : c ∈ cellsG L.length T.length) (hd : d ∈ adjC L.length T.length c) : ∃ x y, x ∈ cellsG R S ∧ y ∈ adjC R S x ∧ fcell L T x = c ∧ fcell L T y = d := by
  have up1 : ∀ k n, k + 1 < L.length → n < T.length → ∃ x y, x ∈ cellsG R S ∧ y ∈ adjC R S x ∧ fcell L T x = (k, n) ∧ fcell L T y = (k + 1, n) := fun k n hk hn => by
    have b0 := BL.bd _ (getD_mem (L := L) (k := k) (by omega))
    have b1 := BL.bd _ (getD_mem hk)
    have b2 := BT.bd _ (getD_mem hn)
    have lt : L.getD k 0 < L.getD (k + 1) 0 := up_get BL.up (Nat.lt_succ_self k) hk
    obtain ⟨p, hp⟩ := Int.ex_nat b1.1
    obtain ⟨t, ht⟩ := Int.ex_nat b2.1
    refine ⟨(p - 1, t), (p, t), mem_cells.mpr ⟨by simp only; omega, by simp only; omega⟩, mem_adj.mpr (.inr (.inl ⟨by simp only; omega, by simp only; rw [show p - 1 + 1 = p by omega]⟩)), ?_, ?_⟩
    · unfold fcell
      simp only
      rw [← ht, idx_at BT.up hn, idx_uniq BL.up (k := k) (by omega) (by omega) (fun _ => by omega)]
    · unfold fcell
      simp only
      rw [← ht, ← hp, idx_at BT.up hn, idx_at BL.up hk]
  have on1 : ∀ k n, k < L.length → n < T.length → 1 < T.length → ∃ x y, x ∈ cellsG R S ∧ y ∈ adjC R S x ∧ fcell L T x = (k, n) ∧ fcell L T y = (k, nxt T.length n) := fun k n hk hn h1 => by
    have b0 := BL.bd _ (getD_mem hk)
    have b2 := BT.bd _ (getD_mem hn)
    obtain ⟨p, hp⟩ := Int.ex_nat b0.1
    by_cases c : n + 1 < T.length
    · have b3 := BT.bd _ (getD_mem c)
      have lt : T.getD n 0 < T.getD (n + 1) 0 := up_get BT.up (Nat.lt_succ_self n) c
      obtain ⟨t, ht⟩ := Int.ex_nat b3.1
      refine ⟨(p, t - 1), (p, t), mem_cells.mpr ⟨by simp only; omega, by simp only; omega⟩, mem_adj.mpr (.inr (.inr ⟨by omega, .inl ?_⟩)), ?_, ?_⟩
      · unfold nxt
        simp only
        rw [if_pos (by omega), show t - 1 + 1 = t by omega]
      · unfold fcell
        simp only
        rw [← hp, idx_at BL.up hk, idx_uniq BT.up (k := n) (by omega) (by omega) (fun _ => by omega)]
      · unfold fcell nxt
        simp only
        rw [← hp, ← ht, idx_at BL.up hk, idx_at BT.up c, if_pos c]
    · have z0 := BT.z
      have b3 := BT.bd _ (getD_mem (L := T) (k := 1) h1)
      have lt : T.getD 0 0 < T.getD 1 0 := up_get BT.up (Nat.lt_succ_self 0) h1
      refine ⟨(p, S - 1), (p, 0), mem_cells.mpr ⟨by simp only; omega, by simp only; omega⟩, mem_adj.mpr (.inr (.inr ⟨by omega, .inl ?_⟩)), ?_, ?_⟩
      · unfold nxt
        simp only
        rw [if_neg (by omega)]
      · unfold fcell
        simp only
        rw [← hp, idx_at BL.up hk, idx_uniq BT.up (k := n) (by omega) (by omega) (fun h => by omega)]
      · unfold fcell nxt
        simp only
        rw [← hp, idx_at BL.up hk, if_neg c, idx_uniq BT.up (k := 0) (by omega) (by rw [BT.z]; omega) (fun _ => by rw [BT.z] at lt; exact lt)]
  have G := gr_cells R S
  obtain ⟨h1, h2⟩ := mem_cells.mp hc
  rcases mem_adj.mp hd with ⟨h0, rfl⟩ | ⟨h0, rfl⟩ | ⟨h0, rfl | rfl⟩
  · obtain ⟨x, y, hx, hy, e1, e2⟩ := up1 (c.1 - 1) c.2 (by omega) h2
    rw [show c.1 - 1 + 1 = c.1 by omega] at e2
    exact ⟨y, x, G.inn _ hx _ hy, G.sym _ hx _ hy, e2, e1⟩
  · exact up1 c.1 c.2 h0 h2
  · exact on1 c.1 c.2 h1 h2 h0
  · obtain ⟨x, y, hx, hy, e1, e2⟩ := on1 c.1 (prv T.length c.2) h1 (prv_lt h2) h0
    rw [prv_nxt h2] at e2
    exact ⟨y, x, G.inn _ hx _ hy, G.sym _ hx _ hy, e2, e1⟩
theorem conn_iff (mk : ∀ w ∈ cellsG R S, mf w = mc (fcell L T w)) (BL : Blk L R) (BT : Blk T S) : ∀ x ∈ cellsG R S, ∀ y ∈ cellsG R S, Conn (adjC R S) mf x y ↔ Conn (adjC L.length T.length) mc (fcell L T x) (fcell L T y) := fun x hx y hy => by
  have G := gr_cells R S
  constructor
  · intro h
    clear hy
    induction h with
    | refl => exact .refl _
    | @step y z h1 a e ih =>
      have hyV := h1.inV G hx
      rcases adj_map BL BT hyV a with c | c
      · rw [c]; exact ih
      · exact .step ih c (by rw [← mk _ (G.inn _ hyV _ a), ← mk _ hyV, e])
  · intro h
    have go : ∀ d, Conn (adjC L.length T.length) mc (fcell L T x) d → ∀ y ∈ cellsG R S, fcell L T y = d → Conn (adjC R S) mf x y := fun d h => by
      induction h with
      | refl => exact fun y hy e => fiber mk BL BT hx hy e.symm
      | @step d d' h1 a e ih =>
        intro y hy ey
        have hdV := h1.inV (gr_cells _ _) (fcell_in BL BT x)
        obtain ⟨u, v, hu, hv, e1, e2⟩ := real_adj BL BT hdV a
        have hvV := G.inn _ hu _ hv
        refine (Conn.step (ih u hu e1) hv ?_).trans (fiber mk BL BT hvV hy (by rw [e2, ey]))
        rw [mk _ hvV, mk _ hu, e1, e2, e]
    exact go _ h y hy rfl
end
end Pv
set_option Elab.async false
set_option linter.all false
set_option maxRecDepth 100000
set_option maxHeartbeats 4000000
set_option autoImplicit false
namespace Pv
variable [TabT]
open PySem PySem.Spec PyProof.Rows L2
local macro_rules | `(tactic| walk_at "pv") => `(tactic| simp only [wipe_nil, wipe_cons, sext_eq, sapp_eq, sput_eq, nxE_nx, farsD_n, turnsD_n, insideD_n, fM_eq, netB_n, seqD_d, sdrop_eq, slT_1, slL_1, slS_1, slT_2, slL_2, slS_2, slT_3, slL_3, slS_3, slT_4, slL_4, slS_4, slT_5, slL_5, slS_5, slT_6, slL_6, slS_6, slT_7, slL_7, slS_7, slT_8, slL_8, slS_8, slT_9, slL_9, slS_9, slT_10, slL_10, slS_10, slT_12, slL_12, slS_12, slT_16, slL_16, slS_16, listD_t, listD_l, sseq_eq, seqR_nx, seqR_rt, seqR_ite, endD_ite, bind_ite, sret_eq, sset_eq, sown_eq, sbind_eq, snx_eq, sif_eq, f1_eq, f2_eq, fN_eq, fcons_eq, fnil_eq, kc_eq, tv_eq, tb_eq, boolD_b, tor_eq, tand_eq, tnot_eq, vand_eq, vor_eq, spar_eq, iseq_eq, seqD_l, seqD_t, ienum_eq, enumD_l, enumD_t, irange1_eq, irange2_eq, fch_eq, chL_t, chL_f, fsl_eq, onone_eq, osome_eq, intO_i, sfor_eq, nm_0, nb_0, nbo_0, nm_s, nb_s, obs, obn, ls0, lsS, bindP1, bindT1, bindT2, bindT3, bindT4, tup0, tup1, tup2, tup3, tup4, lst0, lst1, lst2, lst3, lst4, lst5, lst7, lst8, isiD_i, isiD_ib, isiD_is, isiD_in, isiD_it, isiD_il, isiB_i, isiB_b, isiB_s, isiT_i, isiT_b, isiT_s, isiT_n, isiT_t, isiT_l, setE, addD_i, subD_i, negD_i, absD_i, ltD_i, leD_i, gtD_i, geD_i, eqD_i, neD_i, eqD_b, neD_b, isD_b, isntD_b, ixT0, ixT1, ixT2, ixT3, truD_b, truD_t, truD_l, lenD_t, lenD_l, notD_b, tupleD_l, tupleD_t, endD_ret, endD_rt, reduceIte, if_true, if_false, Bool.false_eq_true, Bool.not_true, Bool.not_false, decide_true, decide_false, Bool.true_eq, ne_eq])
local macro_rules | `(tactic| walk_at "pvs") => `(tactic| simp only [*, wipe_nil, wipe_cons, sext_eq, sapp_eq, sput_eq, nxE_nx, farsD_n, turnsD_n, insideD_n, fM_eq, netB_n, seqD_d, sdrop_eq, slT_1, slL_1, slS_1, slT_2, slL_2, slS_2, slT_3, slL_3, slS_3, slT_4, slL_4, slS_4, slT_5, slL_5, slS_5, slT_6, slL_6, slS_6, slT_7, slL_7, slS_7, slT_8, slL_8, slS_8, slT_9, slL_9, slS_9, slT_10, slL_10, slS_10, slT_12, slL_12, slS_12, slT_16, slL_16, slS_16, listD_t, listD_l, mulD_r, mulD_l, modD_i, fdivD_i, sseq_eq, seqR_nx, seqR_rt, seqR_ite, endD_ite, bind_ite, sret_eq, sset_eq, sown_eq, sbind_eq, snx_eq, sif_eq, f1_eq, f2_eq, fN_eq, fcons_eq, fnil_eq, kc_eq, tv_eq, tb_eq, boolD_b, tor_eq, tand_eq, tnot_eq, vand_eq, vor_eq, spar_eq, iseq_eq, seqD_l, seqD_t, ienum_eq, enumD_l, enumD_t, irange1_eq, irange2_eq, fch_eq, chL_t, chL_f, fsl_eq, onone_eq, osome_eq, intO_i, sfor_eq, nm_0, nb_0, nbo_0, nm_s, nb_s, obs, obn, ls0, lsS, bindP1, bindT1, bindT2, bindT3, bindT4, tup0, tup1, tup2, tup3, tup4, lst0, lst1, lst2, lst3, lst4, lst5, lst7, lst8, isiD_i, isiD_ib, isiD_is, isiD_in, isiD_it, isiD_il, isiB_i, isiB_b, isiB_s, isiT_i, isiT_b, isiT_s, isiT_n, isiT_t, isiT_l, setE, addD_i, subD_i, negD_i, absD_i, ltD_i, leD_i, gtD_i, geD_i, eqD_i, neD_i, eqD_b, neD_b, isD_b, isntD_b, ixT0, ixT1, ixT2, ixT3, truD_b, truD_t, truD_l, lenD_t, lenD_l, notD_b, tupleD_l, tupleD_t, endD_ret, endD_rt, reduceIte, if_true, if_false, Bool.false_eq_true, Bool.not_true, Bool.not_false, decide_true, decide_false, Bool.true_eq, ne_eq])
local macro_rules | `(tactic| walk_at "pvo") => `(tactic| simp (disch := omega) only [addD_l, addD_t, rng1D_i, rng2D_i, wipe_nil, wipe_cons, sext_eq, sapp_eq, sput_eq, nxE_nx, farsD_n, turnsD_n, insideD_n, fM_eq, netB_n, seqD_d, sdrop_eq, slT_1, slL_1, slS_1, slT_2, slL_2, slS_2, slT_3, slL_3, slS_3, slT_4, slL_4, slS_4, slT_5, slL_5, slS_5, slT_6, slL_6, slS_6, slT_7, slL_7, slS_7, slT_8, slL_8, slS_8, slT_9, slL_9, slS_9, slT_10, slL_10, slS_10, slT_12, slL_12, slS_12, slT_16, slL_16, slS_16, listD_t, listD_l, mulD_r, mulD_l, modD_i, fdivD_i, sseq_eq, seqR_nx, seqR_rt, seqR_ite, endD_ite, bind_ite, sret_eq, sset_eq, sown_eq, sbind_eq, snx_eq, sif_eq, f1_eq, f2_eq, fN_eq, fcons_eq, fnil_eq, kc_eq, tv_eq, tb_eq, boolD_b, tor_eq, tand_eq, tnot_eq, vand_eq, vor_eq, spar_eq, iseq_eq, seqD_l, seqD_t, ienum_eq, enumD_l, enumD_t, irange1_eq, irange2_eq, fch_eq, chL_t, chL_f, fsl_eq, onone_eq, osome_eq, intO_i, sfor_eq, nm_0, nb_0, nbo_0, nm_s, nb_s, obs, obn, ls0, lsS, bindP1, bindT1, bindT2, bindT3, bindT4, tup0, tup1, tup2, tup3, tup4, lst0, lst1, lst2, lst3, lst4, lst5, lst7, lst8, isiD_i, isiD_ib, isiD_is, isiD_in, isiD_it, isiD_il, isiB_i, isiB_b, isiB_s, isiT_i, isiT_b, isiT_s, isiT_n, isiT_t, isiT_l, setE, addD_i, subD_i, negD_i, absD_i, ltD_i, leD_i, gtD_i, geD_i, eqD_i, neD_i, eqD_b, neD_b, isD_b, isntD_b, ixT0, ixT1, ixT2, ixT3, truD_b, truD_t, truD_l, lenD_t, lenD_l, notD_b, tupleD_l, tupleD_t, endD_ret, endD_rt, reduceIte, if_true, if_false, Bool.false_eq_true, Bool.not_true, Bool.not_false, decide_true, decide_false, Bool.true_eq, ne_eq])
/-! ### the search, its loops -/
theorem nxP_while {c : Env → Option Bool} {b : Env → Option Res} (I : Nat → Env → Prop) (J : Env → Prop) (h : ∀ n ρ, I n ρ → (c ρ = some false ∧ J ρ) ∨ (c ρ = some true ∧ nxP (b ρ) fun ρ' => ∃ n', n' < n ∧ I n' ρ')) : ∀ (f n : Nat) (ρ : Env), n < f → I n ρ → nxP (whileD c b f ρ) J
  | 0, _, _, h0, _ => absurd h0 (Nat.not_lt_zero _)
  | f + 1, n, ρ, h0, i => by
    rcases h n ρ i with ⟨h1, h2⟩ | ⟨h1, ρ', h2, n', h3, h4⟩
    · rw [whileD_f h1]; exact ⟨ρ, rfl, h2⟩
    · rw [whileD_t h1 h2]; exact nxP_while I J h f n' ρ' (by omega) h4
section
variable {α γ : Type} [DecidableEq α] [DecidableEq γ]
def visit (m : α → γ) (c : α) (st : List α × List α) (o : α) : List α × List α := if o ∉ st.1 ∧ m o = m c then (st.1 ++ [o], st.2 ++ [o]) else st
theorem fold_visit (m : α → γ) (c : α) : ∀ (os sd g : List α), ∃ new, os.foldl (visit m c) (sd, g) = (sd ++ new, g ++ new) ∧ new.Nodup ∧ (∀ y ∈ new, y ∈ os ∧ m y = m c ∧ y ∉ sd) ∧ (∀ y ∈ os, m y = m c → y ∈ sd ++ new)
  | [], sd, g => ⟨[], by simp, by simp, by simp, by simp⟩
  | o :: os, sd, g => by
    by_cases h : o ∉ sd ∧ m o = m c
    · obtain ⟨new, e, nd, h1, h2⟩ := fold_visit m c os (sd ++ [o]) (g ++ [o])
      refine ⟨o :: new, ?_, List.nodup_cons.mpr ⟨fun z => ?_, nd⟩, fun y hy => ?_, fun y hy hm => ?_⟩
      · rw [List.foldl_cons, show visit m c (sd, g) o = (sd ++ [o], g ++ [o]) from if_pos h, e]
        simp
      · exact (h1 o z).2.2 (by simp)
      · rcases List.mem_cons.mp hy with rfl | hy
        · exact ⟨List.mem_cons_self, h.2, h.1⟩
        · obtain ⟨a1, a2, a3⟩ := h1 y hy
          exact ⟨List.mem_cons_of_mem _ a1, a2, fun z => a3 (List.mem_append_left _ z)⟩
      · rcases List.mem_cons.mp hy with rfl | hy
        · simp
        · have := h2 y hy hm
          simpa using this
    · obtain ⟨new, e, nd, h1, h2⟩ := fold_visit m c os sd g
      refine ⟨new, ?_, nd, fun y hy => ?_, fun y hy hm => ?_⟩
      · rw [List.foldl_cons, show visit m c (sd, g) o = (sd, g) from if_neg h, e]
      · obtain ⟨a1, a2, a3⟩ := h1 y hy
        exact ⟨List.mem_cons_of_mem _ a1, a2, a3⟩
      · rcases List.mem_cons.mp hy with rfl | hy
        · by_cases h3 : y ∈ sd
          · exact List.mem_append_left _ h3
          · exact absurd ⟨h3, hm⟩ h
        · exact h2 y hy hm
structure Bfs (V : List α) (adj : α → List α) (m : α → γ) (S0 : List α) (c : α) (i : Nat) (sd g : List α) : Prop where
  cV : c ∈ V
  hd : ∃ t, g = c :: t
  nd : sd.Nodup
  ndg : g.Nodup
  con : ∀ x ∈ g, Conn adj m c x
  sd : ∀ x, x ∈ sd ↔ x ∈ S0 ∨ x ∈ g
  dis : ∀ x ∈ g, x ∉ S0
  clo : ∀ (j : Nat) (x : α), j < i → g[j]? = some x → ∀ y ∈ adj x, m y = m x → y ∈ g
theorem Bfs.step {V : List α} {adj : α → List α} {m : α → γ} {S0 : List α} {c : α} {i : Nat} {sd g : List α} (G : Gr V adj) (hS : ∀ x ∈ S0, x ∈ V ∧ ∀ y ∈ adj x, m y = m x → y ∈ S0) (B : Bfs V adj m S0 c i sd g) {x : α} (hx : g[i]? = some x) :
    Bfs V adj m S0 c (i + 1) ((adj x).foldl (visit m c) (sd, g)).1 ((adj x).foldl (visit m c) (sd, g)).2 := by
  obtain ⟨new, e, nd, h1, h2⟩ := fold_visit m c (adj x) sd g
  rw [e]
  have hxg : x ∈ g := List.mem_of_getElem? hx
  have cx := B.con x hxg
  have mx : m x = m c := cx.mark
  refine ⟨B.cV, ?_, ?_, ?_, fun y hy => ?_, fun y => ?_, fun y hy => ?_, fun j z hj hz y hy hm => ?_⟩
  · obtain ⟨t, ht⟩ := B.hd
    exact ⟨t ++ new, by rw [ht]; rfl⟩
  · exact List.nodup_append.mpr ⟨B.nd, nd, fun a ha b hb e => by subst e; exact (h1 a hb).2.2 ha⟩
  · exact List.nodup_append.mpr ⟨B.ndg, nd, fun a ha b hb e => by subst e; exact (h1 a hb).2.2 ((B.sd a).mpr (.inr ha))⟩
  · rcases List.mem_append.mp hy with hy | hy
    · exact B.con y hy
    · obtain ⟨a1, a2, _⟩ := h1 y hy
      exact .step cx a1 (by rw [a2, mx])
  · show y ∈ sd ++ new ↔ y ∈ S0 ∨ y ∈ g ++ new
    rw [List.mem_append, List.mem_append, B.sd y, or_assoc]
  · rcases List.mem_append.mp hy with hy | hy
    · exact B.dis y hy
    · exact fun z => (h1 y hy).2.2 ((B.sd y).mpr (.inl z))
  · rcases Nat.lt_succ_iff_lt_or_eq.mp hj with c1 | c1
    · have hl : j < g.length := by
        have := (List.getElem?_eq_some_iff.mp hx).1
        omega
      have hz' : g[j]? = some z := by
        rw [List.getElem?_append_left hl] at hz
        exact hz
      exact List.mem_append_left _ (B.clo j z c1 hz' y hy hm)
    · subst c1
      have hl := (List.getElem?_eq_some_iff.mp hx).1
      have hz' : z = x := by
        rw [List.getElem?_append_left hl, hx] at hz
        exact (Option.some.inj hz).symm
      subst hz'
      have h3 := h2 y hy (by rw [hm, mx])
      rcases List.mem_append.mp h3 with h4 | h4
      · rcases (B.sd y).mp h4 with h5 | h5
        · exact absurd ((hS y h5).2 z (G.sym z (cx.inV G B.cV) y hy) hm.symm) (B.dis z hxg)
        · exact List.mem_append_left _ h5
      · exact List.mem_append_right _ h4
theorem Bfs.comp {V : List α} {adj : α → List α} {m : α → γ} {S0 : List α} {c : α} {i : Nat} {sd g : List α} (B : Bfs V adj m S0 c i sd g) (h : g.length ≤ i) : Comp V adj m g := by
  refine ⟨?_, fun x hx y hy hm => ?_, B.ndg⟩
  · obtain ⟨t, ht⟩ := B.hd
    exact ⟨c, t, ht, B.cV, B.con⟩
  · obtain ⟨j, hj, e⟩ := List.getElem_of_mem hx
    exact B.clo j x (by omega) (by rw [List.getElem?_eq_getElem hj, e]) y hy hm
theorem nodup_le {V g : List α} (nd : g.Nodup) (h : ∀ x ∈ g, x ∈ V) : g.length ≤ V.length :=
  rel_le (fun a b => a = b) g V (fun x hx => ⟨x, h x hx, rfl⟩) (List.Pairwise.imp (fun hne y e1 e2 => hne (e1.trans e2.symm)) nd)
end
/-! ### its things as data -/
def sdD (sd : List (Nat × Nat)) : List (List Int × D) := sd.map fun x => (kkey x.1 x.2, .bl true)
theorem sdD_app {sd : List (Nat × Nat)} {x : Nat × Nat} (h : x ∉ sd) : putD (sdD sd) (kkey x.1 x.2) (.bl true) = sdD (sd ++ [x]) := by
  rw [putD_new]
  · unfold sdD; rw [List.map_append]; rfl
  · intro p hp e
    obtain ⟨y, hy, rfl⟩ := List.mem_map.mp hp
    obtain ⟨e1, e2⟩ := kkey_inj e
    exact h (by rw [show x = y from Prod.ext e1.symm e2.symm]; exact hy)
theorem getK_sd {sd : List (Nat × Nat)} {x : Nat × Nat} : (getK (sdD sd) (kkey x.1 x.2)).isSome = decide (x ∈ sd) := by
  by_cases h : x ∈ sd
  · have e : getK (sdD sd) (kkey x.1 x.2) = some (.bl true) := getK_mem ⟨(kkey x.1 x.2, .bl true), List.mem_map.mpr ⟨x, h, rfl⟩, rfl⟩ (fun p hp _ => by obtain ⟨y, _, rfl⟩ := List.mem_map.mp hp; rfl)
    rw [e, decide_eq_true h]; rfl
  · rw [decide_eq_false h]
    unfold getK
    rw [List.find?_eq_none.mpr, Option.map_none]
    · rfl
    · intro p hp e
      obtain ⟨y, hy, rfl⟩ := List.mem_map.mp hp
      obtain ⟨e1, e2⟩ := kkey_inj (of_decide_eq_true e)
      exact h (by rw [show x = y from Prod.ext e1.symm e2.symm]; exact hy)
theorem in_sd {sd : List (Nat × Nat)} {x : Nat × Nat} : inD (eC x) (.dct (sdD sd)) = some (.bl (decide (x ∈ sd))) := by
  show ((asInts ((kkey x.1 x.2).map D.int)).bind fun ns => some (D.bl (getK (sdD sd) ns).isSome)) = _
  rw [asInts_map, Option.bind_some, getK_sd]
theorem nin_sd {sd : List (Nat × Nat)} {x : Nat × Nat} : ninD (eC x) (.dct (sdD sd)) = some (.bl (!decide (x ∈ sd))) := by
  unfold ninD
  rw [in_sd]
theorem ix_grid {a b : Nat} {f : Nat → Nat → D} {x : Nat × Nat} (h : x ∈ cellsG a b) : ixD (.dct (dgrid a b f)) (eC x) = some (f x.1 x.2) := by
  obtain ⟨h1, h2⟩ := mem_cells.mp h
  exact (ixD_dk (ns := kkey x.1 x.2)).trans (getK_grid h1 h2)
def eG (g : List (Nat × Nat)) : D := .lst (g.map eC)
theorem ixG {g : List (Nat × Nat)} {i : Nat} {x : Nat × Nat} (h : g[i]? = some x) {z : Int} (hz : z = (i : Int)) : ixD (.lst (g.map eC)) (.int z) = some (eC x) := by
  subst hz
  refine atI_nat (xs := g.map eC) (j := i) ?_
  rw [List.getElem?_map, h]; rfl
theorem pairsK_map {β : Type} (g h : β → Int) : ∀ l : List β, pairsK (l.map fun c => [g c, h c]) = some (l.map fun c => (g c, h c))
  | [] => rfl
  | c :: l => by
    show ((pairK [g c, h c]).bind fun p => (pairsK (l.map fun c => [g c, h c])).bind fun ps => some (p :: ps)) = _
    rw [pairsK_map g h l]; rfl
theorem grid_lex (a b : Nat) : ((cellsG a b).map fun c => ((c.1 : Int), (c.2 : Int))).Pairwise fun p q => SrtO.lexB p q = true := by
  rw [List.pairwise_map]
  induction a with
  | zero => exact .nil
  | succ a ih =>
    rw [show cellsG (a + 1) b = cellsG a b ++ (List.range b).map (fun n => (a, n)) from grid_s]
    refine List.pairwise_append.mpr ⟨ih, ?_, fun x hx y hy => ?_⟩
    · rw [List.pairwise_map]
      refine List.Pairwise.imp (R := fun n n' => n < n') ?_ List.pairwise_lt_range
      intro n n' h
      exact SrtO.lexB_iff.mpr (.inr ⟨rfl, by simp only; omega⟩)
    · obtain ⟨h1, _⟩ := mem_cells.mp hx
      obtain ⟨n, _, rfl⟩ := List.mem_map.mp hy
      exact SrtO.lexB_iff.mpr (.inl (by simp only; omega))
theorem sorted_grid {a b : Nat} {f : Nat → Nat → D} : sortedD (.dct (dgrid a b f)) = some (.lst ((cellsG a b).map eC)) := by
  show ((pairsK ((dgrid a b f).map Prod.fst)).bind _) = _
  have e : (dgrid a b f).map Prod.fst = (cellsG a b).map fun c => [(c.1 : Int), (c.2 : Int)] := by rw [map_grid, map_grid]; rfl
  rw [e, pairsK_map (fun c : Nat × Nat => (c.1 : Int)) (fun c => (c.2 : Int)), Option.bind_some, gdR_t (grid_lex a b), List.map_map]
  rfl
/-! ### the neighbours -/
theorem imod_nxt {b n : Nat} (h : n < b) : ((n : Int) + 1) % (b : Int) = (nxt b n : Nat) := by
  unfold nxt
  by_cases c : n + 1 < b
  · rw [if_pos c, Int.emod_eq_of_lt (by omega) (by omega)]; omega
  · rw [if_neg c, show (n : Int) + 1 = (b : Int) by omega, Int.emod_self]; rfl
theorem imod_prv {b n : Nat} (h : n < b) : ((n : Int) - 1) % (b : Int) = (prv b n : Nat) := by
  unfold prv
  by_cases c : n = 0
  · rw [if_pos c, c, show ((0 : Nat) : Int) - 1 = ((b : Int) - 1) + (b : Int) * (-1) by omega, Int.add_mul_emod_self_left, Int.emod_eq_of_lt (by omega) (by omega)]; omega
  · rw [if_neg c, Int.emod_eq_of_lt (by omega) (by omega)]; omega
theorem c_Net_beside_t {L T : List Int} {i : D} {x : Nat × Nat} (hx : x ∈ cellsG L.length T.length) : c_Net_beside [netD L T i, eC x] = some (.lst ((adjC L.length T.length x).map eC)) := by
  obtain ⟨h1, h2⟩ := mem_cells.mp hx
  rw [st_Net_beside]
  unfold F_Net_beside eC
  simp only [sseq_eq, sbind_eq, nm_0, nm_s, obs, bindT2, seqR_nx, ls0, lsS, sset_eq, f1_eq, nb_0, nb_s, turnsD_n, lenD_l, sown_eq, fN_eq, fnil_eq, lst0, List.length_map]
  refine endP_seq (I := fun ρ => ρ = [.sh (netD L T i), .sh (.tup [.int (x.1 : Int), .int (x.2 : Int)]), .sh (.int (x.1 : Int)), .sh (.int (x.2 : Int)), .sh (.int (T.length : Nat)), .ow (.lst ((if 0 < x.1 then [(x.1 - 1, x.2)] else []).map eC))]) ?_ (fun ρ hρ => ?_)
  · walk_at "pv"
    by_cases c : 0 < x.1
    · rw [decide_eq_true (show (0 : Int) < (x.1 : Int) by omega), if_pos rfl, if_pos c, appAt_l rfl (by decide)]
      refine nxP_nx ?_
      show _ = [_, _, _, _, _, Sl.ow (.lst [eC (x.1 - 1, x.2)])]
      rw [show (x.1 : Int) - 1 = ((x.1 - 1 : Nat) : Int) by omega]; rfl
    · rw [decide_eq_false (show ¬ (0 : Int) < (x.1 : Int) by omega), if_neg Bool.false_ne_true, if_neg c]
      exact nxP_nx rfl
  · subst hρ
    refine endP_seq (I := fun ρ => ρ = [.sh (netD L T i), .sh (.tup [.int (x.1 : Int), .int (x.2 : Int)]), .sh (.int (x.1 : Int)), .sh (.int (x.2 : Int)), .sh (.int (T.length : Nat)), .ow (.lst (((if 0 < x.1 then [(x.1 - 1, x.2)] else []) ++ (if x.1 + 1 < L.length then [(x.1 + 1, x.2)] else [])).map eC))]) ?_ (fun ρ hρ => ?_)
    · walk_at "pv"
      rw [List.length_map]
      by_cases c : x.1 + 1 < L.length
      · rw [decide_eq_true (show (x.1 : Int) + 1 < (L.length : Nat) by omega), if_pos rfl, if_pos c, appAt_l rfl (by rw [List.length_map]; split <;> simp [big])]
        refine nxP_nx ?_
        rw [List.map_append]; rfl
      · rw [decide_eq_false (show ¬ (x.1 : Int) + 1 < (L.length : Nat) by omega), if_neg Bool.false_ne_true, if_neg c, List.append_nil]
        exact nxP_nx rfl
    · subst hρ
      refine endP_seq (I := fun ρ => ρ = [.sh (netD L T i), .sh (.tup [.int (x.1 : Int), .int (x.2 : Int)]), .sh (.int (x.1 : Int)), .sh (.int (x.2 : Int)), .sh (.int (T.length : Nat)), .ow (.lst ((adjC L.length T.length x).map eC))]) ?_ (fun ρ hρ => ?_)
      · walk_at "pv"
        unfold adjC
        by_cases c : 1 < T.length
        · rw [decide_eq_true (show (1 : Int) < (T.length : Nat) by omega), if_pos rfl, if_pos c]
          rw [modD_i (by omega), imod_nxt h2]
          walk_at "pv"
          rw [modD_i (by omega), imod_prv h2]
          walk_at "pv"
          rw [extAt_l rfl (by rw [List.length_map, List.length_append]; unfold big; split <;> split <;> simp)]
          refine nxP_nx ?_
          rw [← List.append_assoc, List.map_append (l₂ := [(x.1, nxt T.length x.2), (x.1, prv T.length x.2)])]; rfl
        · rw [decide_eq_false (show ¬ (1 : Int) < (T.length : Nat) by omega), if_neg Bool.false_ne_true, if_neg c, List.append_nil]
          exact nxP_nx rfl
      · subst hρ
        rw [sfrz_ow rfl]
        walk_at "pv"
        rfl
end Pv
set_option Elab.async false
set_option linter.all false
set_option maxRecDepth 100000
set_option maxHeartbeats 4000000
set_option autoImplicit false
namespace Pv
variable [TabT]
open PySem PySem.Spec PyProof.Rows L2
local macro_rules | `(tactic| walk_at "pv") => `(tactic| simp only [wipe_nil, wipe_cons, sext_eq, sapp_eq, sput_eq, nxE_nx, farsD_n, turnsD_n, insideD_n, fM_eq, netB_n, seqD_d, sdrop_eq, slT_1, slL_1, slS_1, slT_2, slL_2, slS_2, slT_3, slL_3, slS_3, slT_4, slL_4, slS_4, slT_5, slL_5, slS_5, slT_6, slL_6, slS_6, slT_7, slL_7, slS_7, slT_8, slL_8, slS_8, slT_9, slL_9, slS_9, slT_10, slL_10, slS_10, slT_12, slL_12, slS_12, slT_16, slL_16, slS_16, listD_t, listD_l, sseq_eq, seqR_nx, seqR_rt, seqR_ite, endD_ite, bind_ite, sret_eq, sset_eq, sown_eq, sbind_eq, snx_eq, sif_eq, f1_eq, f2_eq, fN_eq, fcons_eq, fnil_eq, kc_eq, tv_eq, tb_eq, boolD_b, tor_eq, tand_eq, tnot_eq, vand_eq, vor_eq, spar_eq, iseq_eq, seqD_l, seqD_t, ienum_eq, enumD_l, enumD_t, irange1_eq, irange2_eq, fch_eq, chL_t, chL_f, fsl_eq, onone_eq, osome_eq, intO_i, sfor_eq, nm_0, nb_0, nbo_0, nm_s, nb_s, obs, obn, ls0, lsS, bindP1, bindT1, bindT2, bindT3, bindT4, tup0, tup1, tup2, tup3, tup4, lst0, lst1, lst2, lst3, lst4, lst5, lst7, lst8, isiD_i, isiD_ib, isiD_is, isiD_in, isiD_it, isiD_il, isiB_i, isiB_b, isiB_s, isiT_i, isiT_b, isiT_s, isiT_n, isiT_t, isiT_l, setE, addD_i, subD_i, negD_i, absD_i, ltD_i, leD_i, gtD_i, geD_i, eqD_i, neD_i, eqD_b, neD_b, isD_b, isntD_b, ixT0, ixT1, ixT2, ixT3, truD_b, truD_t, truD_l, lenD_t, lenD_l, notD_b, tupleD_l, tupleD_t, endD_ret, endD_rt, reduceIte, if_true, if_false, Bool.false_eq_true, Bool.not_true, Bool.not_false, decide_true, decide_false, Bool.true_eq, ne_eq])
local macro_rules | `(tactic| walk_at "pvs") => `(tactic| simp only [*, wipe_nil, wipe_cons, sext_eq, sapp_eq, sput_eq, nxE_nx, farsD_n, turnsD_n, insideD_n, fM_eq, netB_n, seqD_d, sdrop_eq, slT_1, slL_1, slS_1, slT_2, slL_2, slS_2, slT_3, slL_3, slS_3, slT_4, slL_4, slS_4, slT_5, slL_5, slS_5, slT_6, slL_6, slS_6, slT_7, slL_7, slS_7, slT_8, slL_8, slS_8, slT_9, slL_9, slS_9, slT_10, slL_10, slS_10, slT_12, slL_12, slS_12, slT_16, slL_16, slS_16, listD_t, listD_l, mulD_r, mulD_l, modD_i, fdivD_i, sseq_eq, seqR_nx, seqR_rt, seqR_ite, endD_ite, bind_ite, sret_eq, sset_eq, sown_eq, sbind_eq, snx_eq, sif_eq, f1_eq, f2_eq, fN_eq, fcons_eq, fnil_eq, kc_eq, tv_eq, tb_eq, boolD_b, tor_eq, tand_eq, tnot_eq, vand_eq, vor_eq, spar_eq, iseq_eq, seqD_l, seqD_t, ienum_eq, enumD_l, enumD_t, irange1_eq, irange2_eq, fch_eq, chL_t, chL_f, fsl_eq, onone_eq, osome_eq, intO_i, sfor_eq, nm_0, nb_0, nbo_0, nm_s, nb_s, obs, obn, ls0, lsS, bindP1, bindT1, bindT2, bindT3, bindT4, tup0, tup1, tup2, tup3, tup4, lst0, lst1, lst2, lst3, lst4, lst5, lst7, lst8, isiD_i, isiD_ib, isiD_is, isiD_in, isiD_it, isiD_il, isiB_i, isiB_b, isiB_s, isiT_i, isiT_b, isiT_s, isiT_n, isiT_t, isiT_l, setE, addD_i, subD_i, negD_i, absD_i, ltD_i, leD_i, gtD_i, geD_i, eqD_i, neD_i, eqD_b, neD_b, isD_b, isntD_b, ixT0, ixT1, ixT2, ixT3, truD_b, truD_t, truD_l, lenD_t, lenD_l, notD_b, tupleD_l, tupleD_t, endD_ret, endD_rt, reduceIte, if_true, if_false, Bool.false_eq_true, Bool.not_true, Bool.not_false, decide_true, decide_false, Bool.true_eq, ne_eq])
local macro_rules | `(tactic| walk_at "pvo") => `(tactic| simp (disch := omega) only [addD_l, addD_t, rng1D_i, rng2D_i, wipe_nil, wipe_cons, sext_eq, sapp_eq, sput_eq, nxE_nx, farsD_n, turnsD_n, insideD_n, fM_eq, netB_n, seqD_d, sdrop_eq, slT_1, slL_1, slS_1, slT_2, slL_2, slS_2, slT_3, slL_3, slS_3, slT_4, slL_4, slS_4, slT_5, slL_5, slS_5, slT_6, slL_6, slS_6, slT_7, slL_7, slS_7, slT_8, slL_8, slS_8, slT_9, slL_9, slS_9, slT_10, slL_10, slS_10, slT_12, slL_12, slS_12, slT_16, slL_16, slS_16, listD_t, listD_l, mulD_r, mulD_l, modD_i, fdivD_i, sseq_eq, seqR_nx, seqR_rt, seqR_ite, endD_ite, bind_ite, sret_eq, sset_eq, sown_eq, sbind_eq, snx_eq, sif_eq, f1_eq, f2_eq, fN_eq, fcons_eq, fnil_eq, kc_eq, tv_eq, tb_eq, boolD_b, tor_eq, tand_eq, tnot_eq, vand_eq, vor_eq, spar_eq, iseq_eq, seqD_l, seqD_t, ienum_eq, enumD_l, enumD_t, irange1_eq, irange2_eq, fch_eq, chL_t, chL_f, fsl_eq, onone_eq, osome_eq, intO_i, sfor_eq, nm_0, nb_0, nbo_0, nm_s, nb_s, obs, obn, ls0, lsS, bindP1, bindT1, bindT2, bindT3, bindT4, tup0, tup1, tup2, tup3, tup4, lst0, lst1, lst2, lst3, lst4, lst5, lst7, lst8, isiD_i, isiD_ib, isiD_is, isiD_in, isiD_it, isiD_il, isiB_i, isiB_b, isiB_s, isiT_i, isiT_b, isiT_s, isiT_n, isiT_t, isiT_l, setE, addD_i, subD_i, negD_i, absD_i, ltD_i, leD_i, gtD_i, geD_i, eqD_i, neD_i, eqD_b, neD_b, isD_b, isntD_b, ixT0, ixT1, ixT2, ixT3, truD_b, truD_t, truD_l, lenD_t, lenD_l, notD_b, tupleD_l, tupleD_t, endD_ret, endD_rt, reduceIte, if_true, if_false, Bool.false_eq_true, Bool.not_true, Bool.not_false, decide_true, decide_false, Bool.true_eq, ne_eq])
theorem exP_seq {β : Type} {I : Env → Prop} {r : Option Res} {g : Env → Option Res} {out : β → Option D} {P : β → Prop} (h : nxP r I) (hg : ∀ ρ, I ρ → ∃ z, endD (g ρ) = out z ∧ P z) : ∃ z, endD (seqR r g) = out z ∧ P z := by
  obtain ⟨ρ, rfl, h1⟩ := h
  exact hg ρ h1
structure HangI {α γ : Type} (V : List α) (adj : α → List α) (m : α → γ) (gs : List (List α)) (sd pre : List α) : Prop where
  comp : ∀ g ∈ gs, Comp V adj m g
  dis : gs.Pairwise fun g h => ∀ x ∈ g, x ∉ h
  mem : ∀ x, x ∈ sd ↔ ∃ g ∈ gs, x ∈ g
  nd : sd.Nodup
  cov : ∀ x ∈ pre, x ∈ sd
  len : gs.length ≤ pre.length
structure VisI {α : Type} (V : List α) (st : List α × List α) : Prop where
  nd : st.1.Nodup
  inV : ∀ x ∈ st.1, x ∈ V
  nd2 : st.2.Nodup
  sub : ∀ x ∈ st.2, x ∈ st.1
theorem VisI.lt {α : Type} [DecidableEq α] {V : List α} {st : List α × List α} (h : VisI V st) (hV : V.length < big) : st.1.length < big ∧ st.2.length < big := by
  have h1 := nodup_le h.nd h.inV
  have h2 := nodup_le h.nd2 fun x hx => h.inV x (h.sub x hx)
  omega
theorem VisI.add {α : Type} {V : List α} {st : List α × List α} (h : VisI V st) {y : α} (hy : y ∈ V) (hn : y ∉ st.1) : VisI V (st.1 ++ [y], st.2 ++ [y]) := by
  refine ⟨List.nodup_append.mpr ⟨h.nd, by simp, fun a ha b hb e => ?_⟩, fun x hx => ?_, List.nodup_append.mpr ⟨h.nd2, by simp, fun a ha b hb e => ?_⟩, fun x hx => ?_⟩
  · rw [List.mem_singleton.mp hb] at e; subst e; exact hn ha
  · rcases List.mem_append.mp hx with hx | hx
    · exact h.inV x hx
    · rw [List.mem_singleton.mp hx]; exact hy
  · rw [List.mem_singleton.mp hb] at e; subst e; exact hn (h.sub _ ha)
  · rcases List.mem_append.mp hx with hx | hx
    · exact List.mem_append_left _ (h.sub x hx)
    · exact List.mem_append_right _ hx
section
variable {γ : Type} [DecidableEq γ]
theorem c_hanging_t {L T : List Int} {f mf : Nat → Nat → D} {mv : Nat × Nat → γ} (hL : L.length ≤ 41) (hT : T.length ≤ 41) (hm : ∀ x ∈ cellsG L.length T.length, ∀ y ∈ cellsG L.length T.length, eqD (mf x.1 x.2) (mf y.1 y.2) = some (.bl (decide (mv x = mv y)))) :
    ∃ gs : List (List (Nat × Nat)), c_hanging [netD L T (.dct (dgrid L.length T.length f)), .dct (dgrid L.length T.length mf)] = some (.lst (gs.map eG)) ∧ Parts (cellsG L.length T.length) (adjC L.length T.length) mv gs := by
  have G := gr_cells L.length T.length
  have hV : (cellsG L.length T.length).length < 2000 := by
    rw [grid_len]
    have := Nat.mul_le_mul hL hT
    omega
  have hVb : (cellsG L.length T.length).length < big := Nat.lt_trans hV (by decide)
  rw [st_hanging]
  unfold F_hanging
  walk_at "pv"
  rw [sorted_grid]
  walk_at "pv"
  refine exP_seq (nxP_pre eC (fun pre ρ => ∃ gs sd s4 s5 s6 s7, HangI (cellsG L.length T.length) (adjC L.length T.length) mv gs sd pre ∧ ρ = [.sh (netD L T (.dct (dgrid L.length T.length f))), .sh (.dct (dgrid L.length T.length mf)), .ow (.lst (gs.map eG)), .ow (.dct (sdD sd)), s4, s5, s6, s7]) (cellsG L.length T.length) (fun pre c post hpre ρ hρ => ?_) ⟨[], [], _, _, _, _, ⟨(fun g hg => by cases hg), .nil, (fun x => by simp), .nil, (fun x hx => by cases hx), Nat.le_refl _⟩, rfl⟩) (fun ρ hρ => ?_)
  · obtain ⟨gs, sd, s4, s5, s6, s7, I, rfl⟩ := hρ
    have hcV : c ∈ cellsG L.length T.length := by rw [hpre]; simp
    have hpl : pre.length < (cellsG L.length T.length).length := by rw [hpre]; simp
    have hS0 : ∀ x ∈ sd, x ∈ cellsG L.length T.length ∧ ∀ y ∈ adjC L.length T.length x, mv y = mv x → y ∈ sd := fun x hx => by
      obtain ⟨g, hg, hxg⟩ := (I.mem x).mp hx
      exact ⟨(I.comp g hg).inV G hxg, fun y hy e => (I.mem y).mpr ⟨g, hg, (I.comp g hg).clo x hxg y hy e⟩⟩
    refine ⟨_, bindP1, ?_⟩
    walk_at "pv"
    rw [nin_sd]
    walk_at "pv"
    by_cases hc : c ∈ sd
    · rw [decide_eq_true hc, if_neg (by exact Bool.false_ne_true)]
      refine nxP_nx ⟨gs, sd, .sh (eC c), s5, s6, s7, ⟨I.comp, I.dis, I.mem, I.nd, fun x hx => ?_, by rw [List.length_append]; have := I.len; omega⟩, rfl⟩
      rcases List.mem_append.mp hx with hx | hx
      · exact I.cov x hx
      · rw [List.mem_singleton.mp hx]; exact hc
    · rw [decide_eq_false hc, if_pos (by rfl)]
      have hsl := nodup_le I.nd fun x hx => (hS0 x hx).1
      rw [show eC c = D.tup ((kkey c.1 c.2).map D.int) from rfl, putAt_d (ns := kkey c.1 c.2) rfl rfl (by unfold sdD; rw [List.length_map]; omega), sdD_app hc, show D.tup ((kkey c.1 c.2).map D.int) = eC c from rfl]
      walk_at "pv"
      rw [swhile_eq]
      refine nxP_seq (nxP_while (fun n ρ => ∃ k sd' g s7, Bfs (cellsG L.length T.length) (adjC L.length T.length) mv sd c k sd' g ∧ k ≤ g.length ∧ n = (cellsG L.length T.length).length - k ∧ ρ = [.sh (netD L T (.dct (dgrid L.length T.length f))), .sh (.dct (dgrid L.length T.length mf)), .ow (.lst (gs.map eG)), .ow (.dct (sdD sd')), .sh (eC c), .ow (.lst (g.map eC)), .sh (.int (k : Int)), s7])
        (fun ρ => ∃ k sd' g s7, Bfs (cellsG L.length T.length) (adjC L.length T.length) mv sd c k sd' g ∧ g.length ≤ k ∧ ρ = [.sh (netD L T (.dct (dgrid L.length T.length f))), .sh (.dct (dgrid L.length T.length mf)), .ow (.lst (gs.map eG)), .ow (.dct (sdD sd')), .sh (eC c), .ow (.lst (g.map eC)), .sh (.int (k : Int)), s7]) (fun n ρ hρ => ?_) fuel ((cellsG L.length T.length).length) _ (by unfold fuel; omega) ?_) (fun ρ hρ => ?_)
      · obtain ⟨k, sd', g, s7, B, hk, hn, rfl⟩ := hρ
        have hgl := nodup_le B.ndg fun x hx => (B.con x hx).inV G hcV
        by_cases hlt : k < g.length
        · right
          refine ⟨?_, ?_⟩
          · walk_at "pv"
            rw [List.length_map, decide_eq_true (show (k : Int) < (g.length : Nat) by omega)]
          · have hx := List.getElem?_eq_getElem hlt
            have hxV : g[k] ∈ cellsG L.length T.length := (B.con _ (List.getElem_mem hlt)).inV G hcV
            have hv0 : VisI (cellsG L.length T.length) (sd', g) := ⟨B.nd, fun x hx => ((B.sd x).mp hx).elim (fun h => (hS0 x h).1) fun h => (B.con x h).inV G hcV, B.ndg, fun x hx => (B.sd x).mpr (.inr hx)⟩
            have eb := c_Net_beside_t (i := .dct (dgrid L.length T.length f)) hxV
            walk_at "pv"
            rw [ixG hx rfl]
            walk_at "pv"
            rw [eb]
            walk_at "pv"
            refine nxP_seq (nxP_fold eC (visit mv c) (fun st ρ => ∃ s7, VisI (cellsG L.length T.length) st ∧ ρ = [.sh (netD L T (.dct (dgrid L.length T.length f))), .sh (.dct (dgrid L.length T.length mf)), .ow (.lst (gs.map eG)), .ow (.dct (sdD st.1)), .sh (eC c), .ow (.lst (st.2.map eC)), .sh (.int (k : Int)), s7]) (adjC L.length T.length g[k]) (sd', g) (fun y hy st ρ hρ => ?_) ⟨_, hv0, rfl⟩) (fun ρ hρ => ?_)
            · obtain ⟨s7, v, rfl⟩ := hρ
              have hyV := G.inn _ hxV y hy
              obtain ⟨l1, l2⟩ := v.lt hVb
              refine ⟨_, bindP1, ?_⟩
              walk_at "pv"
              rw [nin_sd]
              walk_at "pv"
              by_cases h1 : y ∈ st.1
              · rw [decide_eq_true h1, if_neg (by exact Bool.false_ne_true)]
                rw [show visit mv c st y = st from if_neg fun z => z.1 h1]
                exact nxP_nx ⟨_, v, rfl⟩
              · rw [decide_eq_false h1, if_pos (by rfl)]
                rw [ix_grid hyV]
                walk_at "pv"
                rw [ix_grid hcV]
                walk_at "pv"
                rw [hm y hyV c hcV]
                walk_at "pv"
                by_cases h2 : mv y = mv c
                · rw [decide_eq_true h2, if_pos (by rfl)]
                  rw [show eC y = D.tup ((kkey y.1 y.2).map D.int) from rfl, putAt_d (ns := kkey y.1 y.2) rfl rfl (by unfold sdD; rw [List.length_map]; exact l1), sdD_app h1, show D.tup ((kkey y.1 y.2).map D.int) = eC y from rfl]
                  walk_at "pv"
                  rw [appAt_l rfl (by rw [List.length_map]; exact l2)]
                  rw [show visit mv c st y = (st.1 ++ [y], st.2 ++ [y]) from if_pos ⟨h1, h2⟩]
                  refine nxP_nx ⟨.sh (eC y), v.add hyV h1, ?_⟩
                  rw [List.map_append]; rfl
                · rw [decide_eq_false h2, if_neg (by exact Bool.false_ne_true)]
                  rw [show visit mv c st y = st from if_neg fun z => h2 z.2]
                  exact nxP_nx ⟨_, v, rfl⟩
            · obtain ⟨s7, v, rfl⟩ := hρ
              have B2 := B.step G hS0 hx
              obtain ⟨new, en, _⟩ := fold_visit mv c (adjC L.length T.length g[k]) sd' g
              walk_at "pv"
              refine nxP_nx ⟨(cellsG L.length T.length).length - (k + 1), by omega, k + 1, _, _, s7, B2, ?_, rfl, ?_⟩
              · rw [en, List.length_append]; omega
              · rw [show ((k + 1 : Nat) : Int) = (k : Int) + 1 by omega]
        · left
          refine ⟨?_, k, sd', g, s7, B, by omega, rfl⟩
          walk_at "pv"
          rw [List.length_map, decide_eq_false (show ¬ (k : Int) < (g.length : Nat) by omega)]
      · refine ⟨0, sd ++ [c], [c], s7, ⟨hcV, ⟨[], rfl⟩, List.nodup_append.mpr ⟨I.nd, by simp, fun a ha b hb e => by rw [List.mem_singleton.mp hb] at e; subst e; exact hc ha⟩, by simp, fun x hx => by rw [List.mem_singleton.mp hx]; exact .refl _, fun x => by rw [List.mem_append], fun x hx => by rw [List.mem_singleton.mp hx]; exact hc, fun j x hj => absurd hj (Nat.not_lt_zero _)⟩, by simp, by omega, rfl⟩
      · obtain ⟨k, sd', g, s7, B, hk, rfl⟩ := hρ
        have hC := B.comp hk
        rw [sfrz_ow rfl]
        walk_at "pv"
        rw [appAt_l rfl (by rw [List.length_map]; have := I.len; omega)]
        refine nxP_nx ⟨gs ++ [g], sd', .sh (eC c), .sh (.lst (g.map eC)), .sh (.int (k : Int)), s7, ⟨fun h hh => ?_, ?_, fun x => ?_, B.nd, fun x hx => ?_, ?_⟩, ?_⟩
        · rcases List.mem_append.mp hh with hh | hh
          · exact I.comp h hh
          · rw [List.mem_singleton.mp hh]; exact hC
        · refine List.pairwise_append.mpr ⟨I.dis, by simp, fun h hh h' hh' x hx hx' => ?_⟩
          rw [List.mem_singleton.mp hh'] at hx'
          exact B.dis x hx' ((I.mem x).mpr ⟨h, hh, hx⟩)
        · rw [B.sd x, I.mem x]
          constructor
          · rintro (⟨h, hh, hx⟩ | hx)
            · exact ⟨h, List.mem_append_left _ hh, hx⟩
            · exact ⟨g, by simp, hx⟩
          · rintro ⟨h, hh, hx⟩
            rcases List.mem_append.mp hh with hh | hh
            · exact .inl ⟨h, hh, hx⟩
            · rw [List.mem_singleton.mp hh] at hx; exact .inr hx
        · rcases List.mem_append.mp hx with hx | hx
          · exact (B.sd x).mpr (.inl (I.cov x hx))
          · rw [List.mem_singleton.mp hx]
            obtain ⟨t, ht⟩ := B.hd
            exact (B.sd c).mpr (.inr (by rw [ht]; simp))
        · rw [List.length_append, List.length_append]
          have := I.len
          simp only [List.length_cons, List.length_nil]
          omega
        · rw [List.map_append]; rfl
  · obtain ⟨gs, sd, s4, s5, s6, s7, I, rfl⟩ := hρ
    refine ⟨gs, ?_, I.comp, I.dis, fun x hx => (I.mem x).mp (I.cov x hx)⟩
    rw [sfrz_ow rfl]
    walk_at "pv"
end
end Pv
set_option Elab.async false
set_option linter.all false
set_option maxRecDepth 100000
set_option maxHeartbeats 4000000
set_option autoImplicit false
namespace Pv
variable [TabT]
open PySem PySem.Spec PyProof.Rows L2
local macro_rules | `(tactic| walk_at "pv") => `(tactic| simp only [wipe_nil, wipe_cons, sext_eq, sapp_eq, sput_eq, nxE_nx, farsD_n, turnsD_n, insideD_n, fM_eq, netB_n, seqD_d, sdrop_eq, slT_1, slL_1, slS_1, slT_2, slL_2, slS_2, slT_3, slL_3, slS_3, slT_4, slL_4, slS_4, slT_5, slL_5, slS_5, slT_6, slL_6, slS_6, slT_7, slL_7, slS_7, slT_8, slL_8, slS_8, slT_9, slL_9, slS_9, slT_10, slL_10, slS_10, slT_12, slL_12, slS_12, slT_16, slL_16, slS_16, listD_t, listD_l, sseq_eq, seqR_nx, seqR_rt, seqR_ite, endD_ite, bind_ite, sret_eq, sset_eq, sown_eq, sbind_eq, snx_eq, sif_eq, f1_eq, f2_eq, fN_eq, fcons_eq, fnil_eq, kc_eq, tv_eq, tb_eq, boolD_b, tor_eq, tand_eq, tnot_eq, vand_eq, vor_eq, spar_eq, iseq_eq, seqD_l, seqD_t, ienum_eq, enumD_l, enumD_t, irange1_eq, irange2_eq, fch_eq, chL_t, chL_f, fsl_eq, onone_eq, osome_eq, intO_i, sfor_eq, nm_0, nb_0, nbo_0, nm_s, nb_s, obs, obn, ls0, lsS, bindP1, bindT1, bindT2, bindT3, bindT4, tup0, tup1, tup2, tup3, tup4, lst0, lst1, lst2, lst3, lst4, lst5, lst7, lst8, isiD_i, isiD_ib, isiD_is, isiD_in, isiD_it, isiD_il, isiB_i, isiB_b, isiB_s, isiT_i, isiT_b, isiT_s, isiT_n, isiT_t, isiT_l, setE, addD_i, subD_i, negD_i, absD_i, ltD_i, leD_i, gtD_i, geD_i, eqD_i, neD_i, eqD_b, neD_b, isD_b, isntD_b, ixT0, ixT1, ixT2, ixT3, truD_b, truD_t, truD_l, lenD_t, lenD_l, notD_b, tupleD_l, tupleD_t, endD_ret, endD_rt, reduceIte, if_true, if_false, Bool.false_eq_true, Bool.not_true, Bool.not_false, decide_true, decide_false, Bool.true_eq, ne_eq])
local macro_rules | `(tactic| walk_at "pvs") => `(tactic| simp only [*, wipe_nil, wipe_cons, sext_eq, sapp_eq, sput_eq, nxE_nx, farsD_n, turnsD_n, insideD_n, fM_eq, netB_n, seqD_d, sdrop_eq, slT_1, slL_1, slS_1, slT_2, slL_2, slS_2, slT_3, slL_3, slS_3, slT_4, slL_4, slS_4, slT_5, slL_5, slS_5, slT_6, slL_6, slS_6, slT_7, slL_7, slS_7, slT_8, slL_8, slS_8, slT_9, slL_9, slS_9, slT_10, slL_10, slS_10, slT_12, slL_12, slS_12, slT_16, slL_16, slS_16, listD_t, listD_l, mulD_r, mulD_l, modD_i, fdivD_i, sseq_eq, seqR_nx, seqR_rt, seqR_ite, endD_ite, bind_ite, sret_eq, sset_eq, sown_eq, sbind_eq, snx_eq, sif_eq, f1_eq, f2_eq, fN_eq, fcons_eq, fnil_eq, kc_eq, tv_eq, tb_eq, boolD_b, tor_eq, tand_eq, tnot_eq, vand_eq, vor_eq, spar_eq, iseq_eq, seqD_l, seqD_t, ienum_eq, enumD_l, enumD_t, irange1_eq, irange2_eq, fch_eq, chL_t, chL_f, fsl_eq, onone_eq, osome_eq, intO_i, sfor_eq, nm_0, nb_0, nbo_0, nm_s, nb_s, obs, obn, ls0, lsS, bindP1, bindT1, bindT2, bindT3, bindT4, tup0, tup1, tup2, tup3, tup4, lst0, lst1, lst2, lst3, lst4, lst5, lst7, lst8, isiD_i, isiD_ib, isiD_is, isiD_in, isiD_it, isiD_il, isiB_i, isiB_b, isiB_s, isiT_i, isiT_b, isiT_s, isiT_n, isiT_t, isiT_l, setE, addD_i, subD_i, negD_i, absD_i, ltD_i, leD_i, gtD_i, geD_i, eqD_i, neD_i, eqD_b, neD_b, isD_b, isntD_b, ixT0, ixT1, ixT2, ixT3, truD_b, truD_t, truD_l, lenD_t, lenD_l, notD_b, tupleD_l, tupleD_t, endD_ret, endD_rt, reduceIte, if_true, if_false, Bool.false_eq_true, Bool.not_true, Bool.not_false, decide_true, decide_false, Bool.true_eq, ne_eq])
local macro_rules | `(tactic| walk_at "pvo") => `(tactic| simp (disch := omega) only [addD_l, addD_t, rng1D_i, rng2D_i, wipe_nil, wipe_cons, sext_eq, sapp_eq, sput_eq, nxE_nx, farsD_n, turnsD_n, insideD_n, fM_eq, netB_n, seqD_d, sdrop_eq, slT_1, slL_1, slS_1, slT_2, slL_2, slS_2, slT_3, slL_3, slS_3, slT_4, slL_4, slS_4, slT_5, slL_5, slS_5, slT_6, slL_6, slS_6, slT_7, slL_7, slS_7, slT_8, slL_8, slS_8, slT_9, slL_9, slS_9, slT_10, slL_10, slS_10, slT_12, slL_12, slS_12, slT_16, slL_16, slS_16, listD_t, listD_l, mulD_r, mulD_l, modD_i, fdivD_i, sseq_eq, seqR_nx, seqR_rt, seqR_ite, endD_ite, bind_ite, sret_eq, sset_eq, sown_eq, sbind_eq, snx_eq, sif_eq, f1_eq, f2_eq, fN_eq, fcons_eq, fnil_eq, kc_eq, tv_eq, tb_eq, boolD_b, tor_eq, tand_eq, tnot_eq, vand_eq, vor_eq, spar_eq, iseq_eq, seqD_l, seqD_t, ienum_eq, enumD_l, enumD_t, irange1_eq, irange2_eq, fch_eq, chL_t, chL_f, fsl_eq, onone_eq, osome_eq, intO_i, sfor_eq, nm_0, nb_0, nbo_0, nm_s, nb_s, obs, obn, ls0, lsS, bindP1, bindT1, bindT2, bindT3, bindT4, tup0, tup1, tup2, tup3, tup4, lst0, lst1, lst2, lst3, lst4, lst5, lst7, lst8, isiD_i, isiD_ib, isiD_is, isiD_in, isiD_it, isiD_il, isiB_i, isiB_b, isiB_s, isiT_i, isiT_b, isiT_s, isiT_n, isiT_t, isiT_l, setE, addD_i, subD_i, negD_i, absD_i, ltD_i, leD_i, gtD_i, geD_i, eqD_i, neD_i, eqD_b, neD_b, isD_b, isntD_b, ixT0, ixT1, ixT2, ixT3, truD_b, truD_t, truD_l, lenD_t, lenD_l, notD_b, tupleD_l, tupleD_t, endD_ret, endD_rt, reduceIte, if_true, if_false, Bool.false_eq_true, Bool.not_true, Bool.not_false, decide_true, decide_false, Bool.true_eq, ne_eq])
theorem blk_F {M : Nat} {s : List Pc} (hs : ∀ q ∈ s, q.Ok (M : Int)) : Blk (FA s) (M + 2) := by
  have hb := FA_b (show (0 : Int) ≤ M by omega) hs
  refine ⟨(up_of hs).l, FA_pos s, head_zero (up_of hs).l (mem_sortU.mpr List.mem_cons_self) (fun x hx => (hb x hx).1), fun x hx => ?_⟩
  have := hb x hx
  omega
theorem blk_T {m : Int} {s : List Pc} (hs : ∀ q ∈ s, q.Ok m) : Blk (TU s) 24 := by
  have U := up_of hs
  exact ⟨U.t, TU_pos s, head_zero U.t (mem_sortU.mpr (List.mem_append_right _ (by simp))) (fun x hx => (U.t0 x hx).1), fun x hx => U.t0 x hx⟩
theorem idx_gap {L : List Int} {R : Nat} (B : Blk L R) {r : Int} (h0 : 0 ≤ r) : ∀ x ∈ L, x ≤ L.getD (idx L r) 0 ∨ r + 1 ≤ x := fun x hx => by
  obtain ⟨a1, a2, a3⟩ := idx_ok B h0
  rcases up_split B.up hx a1 with c | c
  · exact .inl c
  · have := a3 c.1; exact .inr (by omega)
theorem inC_cell {m : Int} {R : Nat} {s : List Pc} (hs : ∀ q ∈ s, q.Ok m) (BL : Blk (FA s) R) (BT : Blk (TU s) 24) {r t : Int} (hr : 0 ≤ r) (ht : 0 ≤ t) (ht2 : t < 24) : ∀ q ∈ s, inC q r t = inC q ((FA s).getD (idx (FA s) r) 0) ((TU s).getD (idx (TU s) t) 0) := fun q hq => by
  have B := brk_of s q hq
  obtain ⟨a1, a2, a3⟩ := idx_ok BL hr
  obtain ⟨b1, b2, b3⟩ := idx_ok BT ht
  have g1 := idx_gap BL hr
  have g2 := idx_gap BT ht
  have t0 := BT.bd _ (getD_mem b1)
  rw [inC_turn (hs q hq) t0.1 (show t + 1 ≤ 24 by omega) (g2 _ B.b) (g2 _ B.e) b2 (by omega), inC_ring (g1 _ B.i) (g1 _ B.o) a2 (by omega)]
def mvC (s : List Pc) (c : Nat × Nat) : Bool := cov s ((FA s).getD c.1 0) ((TU s).getD c.2 0)
def mvF (s : List Pc) (c : Nat × Nat) : Bool := cov s (c.1 : Int) (c.2 : Int)
theorem mv_mk {m : Int} {R : Nat} {s : List Pc} (hs : ∀ q ∈ s, q.Ok m) (BL : Blk (FA s) R) (BT : Blk (TU s) 24) : ∀ w ∈ cellsG R 24, mvF s w = mvC s (fcell (FA s) (TU s) w) := fun w hw => by
  obtain ⟨h1, h2⟩ := mem_cells.mp hw
  exact cov_congr fun q hq => inC_cell hs BL BT (by omega) (by omega) (by omega) q hq
theorem ring_sum {M : Nat} {s : List Pc} (hs : ∀ q ∈ s, q.Ok (M : Int)) (H G : Int → Int) (hc : ∀ r u : Int, (∀ q ∈ s, ∀ t, inC q r t = inC q u t) → H r = H u) (h0 : ∀ r : Int, (∀ q ∈ s, ∀ t, inC q r t = false) → H r = 0) (N : Nat) (hN : M ≤ N) :
    sumN ((FA s).length - 1) (fun k => H ((FA s).getD k 0) * (G ((FA s).getD (k + 1) 0) - G ((FA s).getD k 0))) = sumN N fun r => H (r : Int) * (G ((r : Int) + 1) - G (r : Int)) := by
  have U := up_of hs
  have hp := FA_pos s
  have hb := FA_b (show (0 : Int) ≤ M by omega) hs
  have z0 := head_zero U.l (mem_sortU.mpr List.mem_cons_self) (fun x hx => (hb x hx).1)
  have key := refine1 (fun k => (FA s).getD k 0) H G z0 ((FA s).length - 1) (fun k hk => by
      have h1 := hb _ (getD_mem (L := FA s) (k := k) (by omega))
      have h2 : (FA s).getD k 0 < (FA s).getD (k + 1) 0 := up_get U.l (by omega) (by omega)
      omega) (fun k hk r h1 h2 => by
      refine hc _ _ fun q hq t => ?_
      have sp : ∀ x ∈ FA s, x ≤ (FA s).getD k 0 ∨ (FA s).getD (k + 1) 0 ≤ x := fun x hx => by
        rcases up_split U.l hx (show k < (FA s).length by omega) with c | c
        · exact .inl c
        · exact .inr c.2
      exact inC_ring (sp _ (brk_of s q hq).i) (sp _ (brk_of s q hq).o) h1 h2)
  rw [← key]
  have hlast := hb _ (getD_mem (L := FA s) (k := (FA s).length - 1) (by omega))
  obtain ⟨d, hd⟩ : ∃ d : Nat, N = ((FA s).getD ((FA s).length - 1) 0).toNat + d := ⟨N - ((FA s).getD ((FA s).length - 1) 0).toNat, by omega⟩
  rw [hd, sumN_add]
  rw [show sumN d (fun i => H ((((FA s).getD ((FA s).length - 1) 0).toNat + i : Nat) : Int) * (G (((((FA s).getD ((FA s).length - 1) 0).toNat + i : Nat) : Int) + 1) - G ((((FA s).getD ((FA s).length - 1) 0).toNat + i : Nat) : Int))) = 0 from sumN_zero fun i _ => by
    rw [h0 _ fun q hq t => ?_, Int.zero_mul]
    rcases up_split U.l (brk_of s q hq).o (show (FA s).length - 1 < (FA s).length by omega) with c | c
    · unfold inC
      rw [decide_eq_false (show ¬ ((((FA s).getD ((FA s).length - 1) 0).toNat + i : Nat) : Int) < q.o by omega)]
      simp
    · omega, Int.add_zero]
/-- only the last place of each block counts -/
theorem ends_sum (l : Nat → Nat) (h : Nat → Int) (h0 : l 0 = 0) : ∀ a : Nat, (∀ k, k < a → l k < l (k + 1)) → (∀ k, k < a → ∀ r, l k ≤ r → r + 1 < l (k + 1) → h r = 0) → sumN (l a) h = sumN a fun k => h (l (k + 1) - 1)
  | 0, _, _ => by rw [h0]; rfl
  | a + 1, up, z => by
    have ih := ends_sum l h h0 a (fun k hk => up k (by omega)) fun k hk => z k (by omega)
    obtain ⟨d, hd⟩ : ∃ d : Nat, l (a + 1) = l a + (d + 1) := ⟨l (a + 1) - l a - 1, by have := up a (by omega); omega⟩
    show _ = sumN a _ + h (l (a + 1) - 1)
    rw [← ih, hd, sumN_add]
    congr 1
    show sumN d (fun i => h (l a + i)) + h (l a + d) = h (l a + (d + 1) - 1)
    rw [sumN_zero fun i hi => z a (by omega) _ (by omega) (by omega), show l a + (d + 1) - 1 = l a + d by omega]
    omega
theorem arc_sum {M : Nat} {s : List Pc} (hs : ∀ q ∈ s, q.Ok (M : Int)) (t : Int) (N : Nat) (hN : M ≤ N) :
    sumN ((FA s).length - 1) (fun k => ind (cov s ((FA s).getD k 0) t ≠ cov s ((FA s).getD (k + 1) 0) t) * (FA s).getD (k + 1) 0) = sumN N fun r => ind (cov s (r : Int) t ≠ cov s ((r : Int) + 1) t) * ((r : Int) + 1) := by
  have U := up_of hs
  have hp := FA_pos s
  have hb := FA_b (show (0 : Int) ≤ M by omega) hs
  have z0 := head_zero U.l (mem_sortU.mpr List.mem_cons_self) (fun x hx => (hb x hx).1)
  have lup : ∀ k, k + 1 < (FA s).length → (FA s).getD k 0 < (FA s).getD (k + 1) 0 := fun k hk => up_get U.l (Nat.lt_succ_self k) hk
  have lnn : ∀ k, k < (FA s).length → 0 ≤ (FA s).getD k 0 ∧ (FA s).getD k 0 ≤ M := fun k hk => hb _ (getD_mem hk)
  have sp : ∀ k, k + 1 < (FA s).length → ∀ x ∈ FA s, x ≤ (FA s).getD k 0 ∨ (FA s).getD (k + 1) 0 ≤ x := fun k hk x hx => by
    rcases up_split U.l hx (show k < (FA s).length by omega) with c | c
    · exact .inl c
    · exact .inr c.2
  have inb : ∀ k, k + 1 < (FA s).length → ∀ r : Int, (FA s).getD k 0 ≤ r → r < (FA s).getD (k + 1) 0 → cov s r t = cov s ((FA s).getD k 0) t := fun k hk r h1 h2 => cov_congr fun q hq => inC_ring (sp k hk _ (brk_of s q hq).i) (sp k hk _ (brk_of s q hq).o) h1 h2
  have key := ends_sum (fun k => ((FA s).getD k 0).toNat) (fun r => ind (cov s (r : Int) t ≠ cov s ((r : Int) + 1) t) * ((r : Int) + 1)) (by rw [z0]; rfl) ((FA s).length - 1) (fun k hk => by
      have := lup k (by omega)
      have := lnn k (by omega)
      omega) (fun k hk r h1 h2 => by
      have e1 := lnn k (by omega)
      have e2 := lnn (k + 1) (by omega)
      rw [inb k (by omega) (r : Int) (by omega) (by omega), inb k (by omega) ((r : Int) + 1) (by omega) (by omega), ind_f (fun z => z rfl), Int.zero_mul])
  have hlast := lnn ((FA s).length - 1) (by omega)
  obtain ⟨d, hd⟩ : ∃ d : Nat, N = ((FA s).getD ((FA s).length - 1) 0).toNat + d := ⟨N - ((FA s).getD ((FA s).length - 1) 0).toNat, by omega⟩
  have far : ∀ r : Int, (FA s).getD ((FA s).length - 1) 0 ≤ r → cov s r t = false := fun r hr => by
    unfold cov
    rw [List.any_eq_false]
    intro q hq
    rcases up_split U.l (brk_of s q hq).o (show (FA s).length - 1 < (FA s).length by omega) with c | c
    · unfold inC
      rw [decide_eq_false (show ¬ r < q.o by omega)]
      simp
    · omega
  rw [hd, sumN_add]
  rw [show sumN d (fun i => ind (cov s ((((FA s).getD ((FA s).length - 1) 0).toNat + i : Nat) : Int) t ≠ cov s (((((FA s).getD ((FA s).length - 1) 0).toNat + i : Nat) : Int) + 1) t) * (((((FA s).getD ((FA s).length - 1) 0).toNat + i : Nat) : Int) + 1)) = 0 from sumN_zero fun i _ => by
    rw [far _ (by omega), far _ (by omega), ind_f (fun z => z rfl), Int.zero_mul], Int.add_zero]
  rw [key]
  refine sumN_congr fun k hk => ?_
  have e1 := lnn k (by omega)
  have e2 := lnn (k + 1) (by omega)
  have e3 := lup k (by omega)
  have e4 : ((((FA s).getD (k + 1) 0).toNat - 1 : Nat) : Int) = (FA s).getD (k + 1) 0 - 1 := by omega
  rw [e4, show (FA s).getD (k + 1) 0 - 1 + 1 = (FA s).getD (k + 1) 0 by omega, inb k (by omega) ((FA s).getD (k + 1) 0 - 1) (by omega) (by omega)]
theorem line_sum {m : Int} {s : List Pc} (hs : ∀ q ∈ s, q.Ok m) (r : Int) :
    sumN (TU s).length (fun n => ind (cov s r ((TU s).getD n 0) ≠ cov s r ((TU s).getD (nxt (TU s).length n) 0))) = sumN 24 fun t => ind (cov s r (t : Int) ≠ cov s r ((nxt 24 t : Nat) : Int)) := by
  have U := up_of hs
  have hp := TU_pos s
  have z0 := head_zero U.t (mem_sortU.mpr (List.mem_append_right _ (by simp))) (fun x hx => (U.t0 x hx).1)
  have nx : ∀ n, n < (TU s).length → (TU s).getD n 24 = (TU s).getD n 0 := fun n hn => getD_any hn
  have l24 : (TU s).getD (TU s).length 24 = 24 := getD_last (Nat.lt_irrefl _)
  have inb : ∀ n, n < (TU s).length → ∀ u : Int, (TU s).getD n 0 ≤ u → u < (TU s).getD (n + 1) 24 → cov s r u = cov s r ((TU s).getD n 0) := fun n hn u h1 h2 => by
    obtain ⟨t1, t2, t3, t4⟩ := turn_next U.t U.t0 hn
    exact cov_congr fun q hq => inC_turn (hs q hq) t1 t3 (t4 _ (brk_of s q hq).b) (t4 _ (brk_of s q hq).e) h1 h2
  have key := ends_sum (fun n => ((TU s).getD n 24).toNat) (fun t => ind (cov s r (t : Int) ≠ cov s r ((nxt 24 t : Nat) : Int))) (by rw [nx 0 hp, z0]; rfl) (TU s).length (fun n hn => by
      obtain ⟨t1, t2, t3, t4⟩ := turn_next U.t U.t0 hn
      rw [nx n hn]
      omega) (fun n hn t h1 h2 => by
      obtain ⟨t1, t2, t3, t4⟩ := turn_next U.t U.t0 hn
      rw [nx n hn] at h1
      unfold nxt
      rw [if_pos (by omega), inb n hn (t : Int) (by omega) (by omega), inb n hn ((t + 1 : Nat) : Int) (by omega) (by omega)]
      exact ind_f (fun z => z rfl))
  rw [l24] at key
  rw [show (24 : Int).toNat = 24 from rfl] at key
  rw [key]
  refine sumN_congr fun n hn => ?_
  obtain ⟨t1, t2, t3, t4⟩ := turn_next U.t U.t0 hn
  have e4 : ((((TU s).getD (n + 1) 24).toNat - 1 : Nat) : Int) = (TU s).getD (n + 1) 24 - 1 := by omega
  have e5 : cov s r ((nxt 24 (((TU s).getD (n + 1) 24).toNat - 1) : Nat) : Int) = cov s r ((TU s).getD (nxt (TU s).length n) 0) := by
    unfold nxt
    by_cases c : n + 1 < (TU s).length
    · have b := U.t0 _ (getD_mem (L := TU s) (k := n + 1) c)
      have c2 : (TU s).getD (n + 1) 24 = (TU s).getD (n + 1) 0 := nx _ c
      rw [if_pos c, if_pos (by omega), show ((((TU s).getD (n + 1) 24).toNat - 1 + 1 : Nat) : Int) = (TU s).getD (n + 1) 0 by omega]
    · have c2 : (TU s).getD (n + 1) 24 = 24 := getD_last c
      rw [if_neg c, c2, z0]; rfl
  rw [e4, e5, inb n hn ((TU s).getD (n + 1) 24 - 1) (by omega) (by omega)]
/-- the border by the net is that by small cells -/
def arcC (s : List Pc) (c : Nat × Nat) : Int := if mvC s c ≠ mvC s (c.1 + 1, c.2) then (FA s).getD (c.1 + 1) 0 * wd (TU s) c.2 else 0
def lineC (s : List Pc) (c : Nat × Nat) : Int := if mvC s c ≠ mvC s (c.1, nxt (TU s).length c.2) then (FA s).getD (c.1 + 1) 0 - (FA s).getD c.1 0 else 0
def arcF (s : List Pc) (c : Nat × Nat) : Int := if c.1 < 7 ∧ mvF s c ≠ mvF s (c.1 + 1, c.2) then (c.1 : Int) + 1 else 0
def lineF (s : List Pc) (c : Nat × Nat) : Int := if mvF s c ≠ mvF s (c.1, nxt 24 c.2) then 1 else 0
theorem ind_mul {p : Prop} [Decidable p] {x : Int} : (if p then x else 0) = ind p * x := by
  by_cases h : p
  · rw [if_pos h, ind_t h, Int.one_mul]
  · rw [if_neg h, ind_f h, Int.zero_mul]
theorem sumN_swap {f : Nat → Nat → Int} {b : Nat} : ∀ a : Nat, sumN a (fun k => sumN b fun n => f k n) = sumN b fun n => sumN a fun k => f k n
  | 0 => (sumN_zero fun _ _ => rfl).symm
  | a + 1 => by
    show sumN a _ + sumN b (f a) = sumN b fun n => sumN a (fun k => f k n) + f a n
    rw [sumN_swap a, sumN_plus]
theorem arcs_eq {s : List Pc} (hs : ∀ q ∈ s, q.Ok ((6 : Nat) : Int)) : ((cellsB s).map (arcC s)).sum = ((cellsG 8 24).map (arcF s)).sum := by
  unfold cellsB
  rw [grid_sum, grid_sum, sumN_swap]
  have e1 : ∀ n, sumN ((FA s).length - 1) (fun k => arcC s (k, n)) = (sumN 7 fun r => ind (cov s (r : Int) ((TU s).getD n 0) ≠ cov s ((r : Int) + 1) ((TU s).getD n 0)) * ((r : Int) + 1)) * wd (TU s) n := fun n => by
    rw [← arc_sum hs _ 7 (by decide), ← sumN_mul]
    refine sumN_congr fun k _ => ?_
    unfold arcC mvC
    rw [ind_mul, ← Int.mul_assoc]
  rw [sumN_congr fun n _ => e1 n]
  rw [turn_sum hs (fun t => sumN 7 fun r => ind (cov s (r : Int) t ≠ cov s ((r : Int) + 1) t) * ((r : Int) + 1)) fun t u h => sumN_congr fun r _ => by
    rw [cov_congr fun q hq => h q hq (r : Int), cov_congr fun q hq => h q hq ((r : Int) + 1)]]
  rw [sumN_swap]
  show _ = sumN 7 (fun k => sumN 24 fun n => arcF s (k, n)) + sumN 24 fun n => arcF s (7, n)
  rw [show (sumN 24 fun n => arcF s (7, n)) = 0 from sumN_zero fun n _ => if_neg (by simp), Int.add_zero]
  rw [sumN_swap]
  rw [sumN_swap (a := 7)]
  refine sumN_congr fun t _ => sumN_congr fun r hr => ?_
  unfold arcF mvF
  rw [ind_mul]
  congr 1
  refine ind_iff ?_
  simp only
  rw [show ((r + 1 : Nat) : Int) = (r : Int) + 1 by omega]
  exact ⟨fun h => ⟨hr, h⟩, fun h => h.2⟩
theorem lines_eq {s : List Pc} (hs : ∀ q ∈ s, q.Ok ((6 : Nat) : Int)) : ((cellsB s).map (lineC s)).sum = ((cellsG 8 24).map (lineF s)).sum := by
  unfold cellsB
  rw [grid_sum, grid_sum]
  have e1 : ∀ k, sumN (TU s).length (fun n => lineC s (k, n)) = (sumN 24 fun t => ind (cov s ((FA s).getD k 0) (t : Int) ≠ cov s ((FA s).getD k 0) ((nxt 24 t : Nat) : Int))) * ((FA s).getD (k + 1) 0 - (FA s).getD k 0) := fun k => by
    rw [← line_sum hs, ← sumN_mul]
    refine sumN_congr fun n _ => ?_
    unfold lineC mvC
    rw [ind_mul]
  rw [sumN_congr fun k _ => e1 k]
  have rs := ring_sum hs (fun r => sumN 24 fun t => ind (cov s r (t : Int) ≠ cov s r ((nxt 24 t : Nat) : Int))) (fun x => x) (fun r u h => sumN_congr fun t _ => by
    rw [cov_congr fun q hq => h q hq (t : Int), cov_congr fun q hq => h q hq ((nxt 24 t : Nat) : Int)]) (fun r h => sumN_zero fun t _ => by
    have c : ∀ t, cov s r t = false := fun t => by
      unfold cov
      rw [List.any_eq_false]
      intro q hq
      rw [h q hq t]; exact Bool.false_ne_true
    rw [c, c]
    exact ind_f fun z => z rfl) 8 (by decide)
  refine Eq.trans rs (sumN_congr fun r _ => ?_)
  rw [show (r : Int) + 1 - (r : Int) = 1 by omega, Int.mul_one]
  refine sumN_congr fun t _ => ?_
  unfold lineF mvF
  rw [ind_mul, Int.mul_one]
theorem dgrid_map {a b : Nat} {f : Nat → Nat → D} : dgrid a b f = (cellsG a b).map fun c => (kkey c.1 c.2, f c.1 c.2) := (map_grid (f := fun k n => (k, n)) (g := fun c : Nat × Nat => (kkey c.1 c.2, f c.1 c.2))).symm
theorem cells_nodup (a b : Nat) : (cellsG a b).Nodup := by
  have h := grid_lex a b
  rw [List.pairwise_map] at h
  refine List.Pairwise.imp (fun {x y} hxy e => ?_) h
  subst e
  have := SrtO.lexB_iff.mp hxy
  omega
theorem put_pre {pre : List (Nat × Nat)} {c : Nat × Nat} {f : Nat × Nat → D} (h : c ∉ pre) : putD (pre.map fun x => (kkey x.1 x.2, f x)) (kkey c.1 c.2) (f c) = (pre ++ [c]).map fun x => (kkey x.1 x.2, f x) := by
  rw [putD_new, List.map_append]
  · rfl
  · intro p hp e
    obtain ⟨y, hy, rfl⟩ := List.mem_map.mp hp
    obtain ⟨e1, e2⟩ := kkey_inj e
    exact h (by rw [show c = y from Prod.ext e1.symm e2.symm]; exact hy)
theorem pre_new {α : Type} {xs pre post : List α} {c : α} (nd : xs.Nodup) (h : xs = pre ++ c :: post) : c ∉ pre := fun z => by
  rw [h] at nd
  exact (List.nodup_append.mp nd).2.2 c z c List.mem_cons_self rfl
theorem c_covered_t {s : List Pc} (hl : s.length ≤ 20) : c_covered [netM s] = some (.dct (dgrid (FA s).length (TU s).length fun k n => .bl (mvC s (k, n)))) := by
  have hF := FA_len s
  have hT := TU_len s
  have hV : (cellsA s).length < big := by
    rw [grid_len]
    have := Nat.mul_le_mul (show (FA s).length ≤ 41 by omega) (show (TU s).length ≤ 41 by omega)
    exact Nat.lt_of_le_of_lt this (by decide)
  rw [st_covered]
  unfold F_covered
  walk_at "pv"
  rw [iitems_eq]
  walk_at "pv"
  rw [show insideD (netM s) = some (.dct (dgrid (FA s).length (TU s).length (insF s))) from rfl]
  walk_at "pv"
  rw [items_net (f := .non) (t := .non)]
  walk_at "pv"
  refine endP_seq (nxP_pre (eJ s) (fun pre ρ => ∃ s2 s3, ρ = [.sh (netM s), .ow (.dct (pre.map fun x => (kkey x.1 x.2, .bl (mvC s x)))), s2, s3]) (cellsA s) (fun pre c post hp ρ hρ => ?_) ⟨_, _, rfl⟩) (fun ρ hρ => ?_)
  · obtain ⟨s2, s3, rfl⟩ := hρ
    have hpl := congrArg List.length hp
    rw [List.length_append, List.length_cons] at hpl
    refine ⟨_, bindT2, ?_⟩
    walk_at "pv"
    rw [show lenD (insF s c.1 c.2) = some (.int ((LY s ((FA s).getD c.1 0) ((TU s).getD c.2 0)).length : Nat)) from lenD_eL]
    walk_at "pv"
    rw [decide_eq_decide.mpr (show (0 : Int) < ((LY s ((FA s).getD c.1 0) ((TU s).getD c.2 0)).length : Nat) ↔ 0 < (LY s ((FA s).getD c.1 0) ((TU s).getD c.2 0)).length by omega), cov_len]
    rw [show eC c = D.tup ((kkey c.1 c.2).map D.int) from rfl, putAt_d (ns := kkey c.1 c.2) rfl rfl (by rw [List.length_map]; omega)]
    rw [show D.bl (cov s ((FA s).getD c.1 0) ((TU s).getD c.2 0)) = D.bl (mvC s c) from rfl, put_pre (f := fun x => D.bl (mvC s x)) (pre_new (cells_nodup _ _) hp)]
    exact nxP_nx ⟨_, _, rfl⟩
  · obtain ⟨s2, s3, rfl⟩ := hρ
    rw [sfrz_ow rfl]
    walk_at "pv"
    rw [dgrid_map]
theorem ixHd {g : List (Nat × Nat)} (h : ∃ c t, g = c :: t) : ixD (eG g) (.int 0) = some (eC (g.headD (0, 0))) := by
  obtain ⟨c, t, rfl⟩ := h
  exact ixG (i := 0) rfl rfl
theorem eqD_bl {a b : Bool} : eqD (.bl a) (.bl b) = some (.bl (decide (a = b))) := by cases a <;> cases b <;> rfl
theorem c_lands_t {m : Int} {s : List Pc} (hm : m ≤ 60) (hs : ∀ q ∈ s, q.Ok m) (hl : s.length ≤ 20) :
    ∃ gs : List (List (Nat × Nat)), Parts (cellsA s) (adjC (FA s).length (TU s).length) (mvC s) gs ∧ c_lands [eS s] = some (.int ((gs.filter fun g => mvC s (g.headD (0, 0))).length : Nat)) ∧ c_holes [eS s] = some (.int (((gs.filter fun g => !mvC s (g.headD (0, 0))).length : Nat) - 1)) := by
  have hF := FA_len s
  have hT := TU_len s
  have eN := c_Net_t hm hs (by omega)
  have eM := c_covered_t hl
  obtain ⟨gs, e, P⟩ := c_hanging_t (L := FA s) (T := TU s) (f := insF s) (mf := fun k n => .bl (mvC s (k, n))) (mv := mvC s) (by omega) (by omega) (fun x _ y _ => eqD_bl)
  have G := gr_cells (FA s).length (TU s).length
  have e : c_hanging [netM s, .dct (dgrid (FA s).length (TU s).length fun k n => .bl (mvC s (k, n)))] = some (.lst (gs.map eG)) := e
  have hd : ∀ g ∈ gs, (∃ c t, g = c :: t) ∧ g.headD (0, 0) ∈ cellsA s := fun g hg => by
    obtain ⟨c, t, e1, hc, _⟩ := (P.comp g hg).con
    refine ⟨⟨c, t, e1⟩, ?_⟩
    rw [e1]; exact hc
  have hgl : gs.length < big := by
    have h1 := rel_le (fun g c => c = g.headD (0, 0) ∧ g ∈ gs) gs (cellsA s) (fun g hg => ⟨_, (hd g hg).2, rfl, hg⟩) (by
      refine List.Pairwise.imp (fun {g h} hgh y ⟨e1, hg⟩ ⟨e2, hh⟩ => ?_) P.dis
      obtain ⟨c, t, e3⟩ := (hd g hg).1
      obtain ⟨c', t', e4⟩ := (hd h hh).1
      have a1 : y ∈ g := by rw [e1, e3]; exact List.mem_cons_self
      have a2 : y ∈ h := by rw [e2, e4]; exact List.mem_cons_self
      exact hgh y a1 a2)
    rw [grid_len] at h1
    have := Nat.mul_le_mul (show (FA s).length ≤ 41 by omega) (show (TU s).length ≤ 41 by omega)
    exact Nat.lt_of_le_of_lt (Nat.le_trans h1 this) (by decide)
  refine ⟨gs, P, ?_, ?_⟩
  · rw [st_lands]
    unfold F_lands
    walk_at "pv"
    rw [eN]
    walk_at "pv"
    rw [eM]
    walk_at "pv"
    rw [lcF_map eG (fun g => mvC s (g.headD (0, 0))) eG gs (by
      walk_at "pv"
      rw [e]
      walk_at "pv") hgl (fun g hg => ⟨_, bindP1, by
      walk_at "pv"
      rw [ixHd (hd g hg).1]
      walk_at "pv"
      rw [ix_grid (hd g hg).2]
      walk_at "pv", fun _ => by walk_at "pv"⟩)]
    walk_at "pv"
    rw [List.length_map]
  · rw [st_holes]
    unfold F_holes
    walk_at "pv"
    rw [eN]
    walk_at "pv"
    rw [eM]
    walk_at "pv"
    rw [lcF_map eG (fun g => !mvC s (g.headD (0, 0))) eG gs (by
      walk_at "pv"
      rw [e]
      walk_at "pv") hgl (fun g hg => ⟨_, bindP1, by
      walk_at "pv"
      rw [ixHd (hd g hg).1]
      walk_at "pv"
      rw [ix_grid (hd g hg).2]
      walk_at "pv", fun _ => by walk_at "pv"⟩)]
    walk_at "pv"
    rw [List.length_map]
theorem nxt_mod {b n : Nat} (h : n < b) (hb : b < 1000) : modD (.int ((n : Int) + 1)) (.int (b : Nat)) = some (.int (nxt b n : Nat)) := by
  rw [modD_i (by omega), imod_nxt h]
theorem foldl_two {β : Type} {f g : β → Int} : ∀ (xs : List β) (a l : Int), xs.foldl (fun (st : Int × Int) c => (st.1 + f c, st.2 + g c)) (a, l) = (a + (xs.map f).sum, l + (xs.map g).sum)
  | [], a, l => by simp
  | x :: xs, a, l => by
    rw [List.foldl_cons, foldl_two xs, List.map_cons, List.sum_cons, List.map_cons, List.sum_cons, Int.add_assoc, Int.add_assoc]
theorem ixM {s : List Pc} {k n : Nat} (hk : k < (FA s).length) (hn : n < (TU s).length) : ixD (.dct (dgrid (FA s).length (TU s).length fun k n => .bl (mvC s (k, n)))) (.tup [.int (k : Int), .int (n : Int)]) = some (.bl (mvC s (k, n))) := ix_grid (x := (k, n)) (mem_cells.mpr ⟨hk, hn⟩)
theorem c_border_t {m : Int} {s : List Pc} (h0 : 0 ≤ m) (hm : m ≤ 60) (hs : ∀ q ∈ s, q.Ok m) (hl : s.length ≤ 8) : c_border [eS s] = some (.tup [.int ((cellsB s).map (arcC s)).sum, .int ((cellsB s).map (lineC s)).sum]) := by
  have hT := TU_len s
  have eN := c_Net_t hm hs (show s.length ≤ 300 by omega)
  have eM := c_covered_t (s := s) (by omega)
  have eB := c_Net_bounded_t (s := s) (by omega)
  have net1 : netB (netM s) = true := rfl
  have fF : farsD (netM s) = some (.lst ((FA s).map D.int)) := rfl
  have fT : turnsD (netM s) = some (.lst ((TU s).map D.int)) := rfl
  rw [st_border]
  unfold F_border
  walk_at "pv"
  rw [eN]
  walk_at "pv"
  rw [eM]
  walk_at "pv"
  rw [if_pos net1, eB]
  walk_at "pv"
  refine endP_seq (nxP_fold eC (fun (st : Int × Int) c => (st.1 + arcC s c, st.2 + lineC s c)) (fun st ρ => ∃ s5 s6, ρ = [.sh (eS s), .sh (netM s), .sh (.dct (dgrid (FA s).length (TU s).length fun k n => .bl (mvC s (k, n)))), .sh (.int st.1), .sh (.int st.2), s5, s6]) (cellsB s) (0, 0) (fun c hc st ρ hρ => ?_) ⟨_, _, rfl⟩) (fun ρ hρ => ?_)
  · obtain ⟨s5, s6, rfl⟩ := hρ
    obtain ⟨k, n⟩ := c
    obtain ⟨hc1, hc2⟩ := mem_cellsB hc
    simp only at hc1 hc2
    have w1 := c_Net_width_t (L := FA s) (i := .dct (dgrid (FA s).length (TU s).length (insF s))) hc2 (by omega)
    have w1 : c_Net_width [netM s, .int (n : Int)] = some (.int (wd (TU s) n)) := w1
    have wb := wd_b hs hc2
    have i0 : ixD (.lst ((FA s).map D.int)) (.int (k : Int)) = some (.int ((FA s).getD k 0)) := ixI rfl (by omega)
    have i1 : ixD (.lst ((FA s).map D.int)) (.int ((k : Int) + 1)) = some (.int ((FA s).getD (k + 1) 0)) := ixI (by omega) hc1
    have x1 : (k : Int) + 1 = ((k + 1 : Nat) : Int) := by omega
    refine ⟨_, bindT2, ?_⟩
    rw [sseq_eq]
    refine nxP_seq (I := fun ρ => ρ = [.sh (eS s), .sh (netM s), .sh (.dct (dgrid (FA s).length (TU s).length fun k n => .bl (mvC s (k, n)))), .sh (.int (st.1 + arcC s (k, n))), .sh (.int st.2), .sh (.int (k : Int)), .sh (.int (n : Int))]) ?_ (fun ρ hρ => ?_)
    · walk_at "pv"
      rw [ixM (by omega) hc2]
      walk_at "pv"
      rw [x1, ixM hc1 hc2]
      walk_at "pv"
      unfold arcC
      by_cases h : mvC s (k, n) = mvC s (k + 1, n)
      · rw [beq_iff_eq.mpr h, if_neg (by exact Bool.false_ne_true), if_neg (fun z => z h), Int.add_zero]
        exact nxP_nx rfl
      · rw [beq_eq_false_iff_ne.mpr h, if_pos (by rfl), if_pos h, fF]
        walk_at "pv"
        rw [← x1, i1]
        walk_at "pv"
        rw [if_pos net1, w1]
        walk_at "pv"
        rw [mulD_r (by omega)]
        walk_at "pv"
        exact nxP_nx rfl
    · subst hρ
      walk_at "pv"
      rw [ixM (by omega) hc2]
      walk_at "pv"
      rw [fT]
      walk_at "pv"
      rw [List.length_map, nxt_mod hc2 (by omega)]
      walk_at "pv"
      rw [ixM (by omega) (nxt_lt hc2)]
      walk_at "pv"
      unfold lineC
      by_cases h : mvC s (k, n) = mvC s (k, nxt (TU s).length n)
      · rw [beq_iff_eq.mpr h, if_neg (by exact Bool.false_ne_true), if_neg (fun z => z h), Int.add_zero]
        exact nxP_nx ⟨_, _, rfl⟩
      · rw [beq_eq_false_iff_ne.mpr h, if_pos (by rfl), if_pos h, fF]
        walk_at "pv"
        rw [i1]
        walk_at "pv"
        rw [i0]
        walk_at "pv"
        refine nxP_nx ⟨.sh (.int (k : Int)), .sh (.int (n : Int)), ?_⟩
        rw [Int.add_sub_assoc]
  · obtain ⟨s5, s6, rfl⟩ := hρ
    rw [foldl_two]
    walk_at "pv"
    simp only [Int.zero_add]
theorem Ok_up {m m' : Int} {q : Pc} (h : m ≤ m') (hq : q.Ok m) : q.Ok m' := ⟨hq.i0, hq.io, Int.le_trans hq.om h, hq.b0, hq.b1, hq.w0, hq.w1⟩
theorem Parts.uniq {α γ : Type} {V : List α} {adj : α → List α} {m : α → γ} {gs : List (List α)} (P : Parts V adj m gs) {g h : List α} (hg : g ∈ gs) (hh : h ∈ gs) {x : α} (h1 : x ∈ g) (h2 : x ∈ h) : g = h := by
  obtain ⟨i, hi, rfl⟩ := List.getElem_of_mem hg
  obtain ⟨j, hj, rfl⟩ := List.getElem_of_mem hh
  have d := List.pairwise_iff_getElem.mp P.dis
  rcases Nat.lt_trichotomy i j with c | c | c
  · exact absurd h2 (d i j hi hj c x h1)
  · subst c; rfl
  · exact absurd h1 (d j i hj hi c x h2)
theorem Parts.hd {α γ : Type} {V : List α} {adj : α → List α} {m : α → γ} {gs : List (List α)} (P : Parts V adj m gs) {g : List α} (hg : g ∈ gs) (d : α) : (∃ c t, g = c :: t) ∧ g.headD d ∈ g ∧ g.headD d ∈ V := by
  obtain ⟨c, t, e, hc, _⟩ := (P.comp g hg).con
  refine ⟨⟨c, t, e⟩, ?_, ?_⟩
  · rw [e]; exact List.mem_cons_self
  · rw [e]; exact hc
theorem Parts.nd {α γ : Type} {V : List α} {adj : α → List α} {m : α → γ} {gs : List (List α)} (P : Parts V adj m gs) : gs.Nodup := by
  refine List.Pairwise.imp_of_mem (fun {g h} hg hh hgh e => ?_) P.dis
  obtain ⟨c, t, e1, _⟩ := (P.comp g hg).con
  subst e
  exact hgh c (by rw [e1]; exact List.mem_cons_self) (by rw [e1]; exact List.mem_cons_self)
theorem parts_perm {α β γ : Type} {V : List α} {adj : α → List α} {m : α → γ} {W : List β} {bdj : β → List β} {mb : β → γ} (GA : Gr V adj) (GB : Gr W bdj) (f : β → α) (hf : ∀ w ∈ W, f w ∈ V) (sur : ∀ v ∈ V, ∃ w ∈ W, f w = v)
    (cc : ∀ x ∈ W, ∀ y ∈ W, Conn bdj mb x y ↔ Conn adj m (f x) (f y)) {gs : List (List α)} {hs : List (List β)} (PA : Parts V adj m gs) (PB : Parts W bdj mb hs) :
    ∃ φ : List β → List α, (hs.map φ).Perm gs ∧ ∀ h ∈ hs, φ h ∈ gs ∧ ∀ w ∈ W, w ∈ h ↔ f w ∈ φ h := by
  classical
  have ex : ∀ h ∈ hs, ∃ g, g ∈ gs ∧ ∀ w ∈ W, w ∈ h ↔ f w ∈ g := fun h hh => by
    obtain ⟨c, t, e, hc, _⟩ := (PB.comp h hh).con
    have hch : c ∈ h := by rw [e]; exact List.mem_cons_self
    obtain ⟨g, hg, hcg⟩ := PA.all _ (hf c hc)
    refine ⟨g, hg, fun w hw => ⟨fun h1 => ?_, fun h1 => ?_⟩⟩
    · exact (PA.comp g hg).mem hcg ((cc c hc w hw).mp ((PB.comp h hh).same GB hch h1))
    · exact (PB.comp h hh).mem hch ((cc c hc w hw).mpr ((PA.comp g hg).same GA hcg h1))
  refine ⟨fun h => if hh : ∃ g, g ∈ gs ∧ ∀ w ∈ W, w ∈ h ↔ f w ∈ g then hh.choose else [], ?_, fun h hh => ?_⟩
  · refine (List.perm_ext_iff_of_nodup ?_ PA.nd).mpr fun g => ?_
    · show (hs.map _).Pairwise _
      rw [List.pairwise_map]
      refine List.Pairwise.imp_of_mem (fun {h h'} hh hh' hd e => ?_) PB.dis
      rw [dif_pos (ex h hh), dif_pos (ex h' hh')] at e
      obtain ⟨c, t, ec, hc, _⟩ := (PB.comp h hh).con
      have hch : c ∈ h := by rw [ec]; exact List.mem_cons_self
      have h1 := ((ex h hh).choose_spec.2 c hc).mp hch
      rw [e] at h1
      exact hd c hch (((ex h' hh').choose_spec.2 c hc).mpr h1)
    · rw [List.mem_map]
      constructor
      · rintro ⟨h, hh, rfl⟩
        rw [dif_pos (ex h hh)]
        exact (ex h hh).choose_spec.1
      · intro hg
        obtain ⟨c, t, ec, hc, _⟩ := (PA.comp g hg).con
        have hcg : c ∈ g := by rw [ec]; exact List.mem_cons_self
        obtain ⟨w, hw, hfw⟩ := sur c hc
        obtain ⟨h, hh, hwh⟩ := PB.all w hw
        refine ⟨h, hh, ?_⟩
        rw [dif_pos (ex h hh)]
        have h1 := ((ex h hh).choose_spec.2 w hw).mp hwh
        rw [hfw] at h1
        exact PA.uniq (ex h hh).choose_spec.1 hg h1 hcg
  · dsimp only
    rw [dif_pos (ex h hh)]
    exact (ex h hh).choose_spec
theorem perm_sum {xs ys : List Int} (h : xs.Perm ys) : xs.sum = ys.sum := by
  induction h with
  | nil => rfl
  | cons x _ ih => rw [List.sum_cons, List.sum_cons, ih]
  | swap x y l => simp only [List.sum_cons]; omega
  | trans _ _ i1 i2 => rw [i1, i2]
theorem sum_filt {α : Type} (p : α → Bool) (F : α → Int) : ∀ V : List α, ((V.filter p).map F).sum = (V.map fun c => ind (p c = true) * F c).sum
  | [] => rfl
  | c :: V => by
    rw [List.map_cons, List.sum_cons, ← sum_filt p F V]
    by_cases h : p c = true
    · rw [List.filter_cons_of_pos h, List.map_cons, List.sum_cons, ind_t h, Int.one_mul]
    · rw [List.filter_cons_of_neg h, ind_f h, Int.zero_mul, Int.zero_add]
theorem sum_ind {α : Type} {V g : List α} [DecidablePred fun x => x ∈ g] (nd : V.Nodup) (ndg : g.Nodup) (sub : ∀ x ∈ g, x ∈ V) (F : α → Int) : (g.map F).sum = (V.map fun c => ind (c ∈ g) * F c).sum := by
  have hp : g.Perm (V.filter fun c => decide (c ∈ g)) := (List.perm_ext_iff_of_nodup ndg (nd.sublist List.filter_sublist)).mpr fun x => by
    rw [List.mem_filter, decide_eq_true_eq]
    exact ⟨fun h => ⟨sub x h, h⟩, fun h => h.2⟩
  rw [perm_sum (hp.map F), sum_filt]
  congr 1
  refine List.map_congr_left fun c _ => ?_
  rw [ind_iff (decide_eq_true_iff (p := c ∈ g))]
theorem sum_flat {α : Type} (F : α → Int) : ∀ hs : List (List α), (hs.flatten.map F).sum = (hs.map fun h => (h.map F).sum).sum
  | [] => rfl
  | h :: hs => by rw [List.flatten_cons, List.map_append, List.sum_append, sum_flat F hs, List.map_cons, List.sum_cons]
theorem Parts.flat {α γ : Type} {V : List α} {adj : α → List α} {m : α → γ} {gs : List (List α)} (G : Gr V adj) (nd : V.Nodup) (P : Parts V adj m gs) : gs.flatten.Perm V := by
  refine (List.perm_ext_iff_of_nodup ?_ nd).mpr fun x => ?_
  · show gs.flatten.Pairwise _
    rw [List.pairwise_flatten]
    refine ⟨fun g hg => (P.comp g hg).nd, List.Pairwise.imp (fun {g h} hgh x hx y hy e => ?_) P.dis⟩
    subst e
    exact hgh x hx hy
  · rw [List.mem_flatten]
    constructor
    · rintro ⟨g, hg, hx⟩
      exact (P.comp g hg).inV G hx
    · intro hx
      exact P.all x hx
theorem Parts.sum {α γ : Type} {V : List α} {adj : α → List α} {m : α → γ} {gs : List (List α)} (G : Gr V adj) (nd : V.Nodup) (P : Parts V adj m gs) (F : α → Int) : (gs.map fun g => (g.map F).sum).sum = (V.map F).sum := by
  rw [← sum_flat, perm_sum ((P.flat G nd).map F)]
theorem turn_cells {s : List Pc} {m : Int} (hs : ∀ q ∈ s, q.Ok m) (BT : Blk (TU s) 24) (g : Nat → Int) : sumN (TU s).length (fun n => g n * wd (TU s) n) = sumN 24 fun t => g (idx (TU s) (t : Int)) := by
  have U := up_of hs
  have hp := TU_pos s
  have nx : ∀ n, n < (TU s).length → (TU s).getD n 24 = (TU s).getD n 0 := fun n hn => getD_any hn
  have key := refine1 (fun n => (TU s).getD n 24) (fun x => g (idx (TU s) x)) (fun x => x) (by show (TU s).getD 0 24 = 0; rw [nx 0 hp, BT.z]) (TU s).length (fun k hk => by
      obtain ⟨t1, t2, t3, t4⟩ := turn_next U.t U.t0 hk
      rw [nx k hk]
      omega) (fun k hk r h1 h2 => by
      rw [nx k hk] at h1 ⊢
      rw [idx_at BT.up hk, idx_uniq BT.up hk h1 fun h3 => by rw [← nx _ h3]; exact h2])
  rw [show (TU s).getD (TU s).length 24 = 24 from getD_last (Nat.lt_irrefl _)] at key
  refine Eq.trans (sumN_congr fun n hn => ?_) (key.symm.trans (sumN_congr fun t _ => ?_))
  · unfold wd
    rw [nx n hn, idx_at BT.up hn]
  · rw [show ((t : Int) + 1 - (t : Int)) = 1 by omega, Int.mul_one]
theorem cells_sum {M : Nat} {s : List Pc} (hs : ∀ q ∈ s, q.Ok (M : Int)) (BL : Blk (FA s) (M + 2)) (BT : Blk (TU s) 24) (ψ : Nat × Nat → Int) (h0 : ∀ n, ψ ((FA s).length - 1, n) = 0) :
    ((cellsB s).map fun c => ψ c * areaM (FA s) (TU s) c).sum = ((cellsG (M + 2) 24).map fun w => ψ (fcell (FA s) (TU s) w) * (2 * (w.1 : Int) + 1)).sum := by
  have U := up_of hs
  have hp := FA_pos s
  have hb := FA_b (show (0 : Int) ≤ M by omega) hs
  unfold cellsB
  rw [grid_sum, grid_sum]
  have e1 : ∀ k, sumN (TU s).length (fun n => ψ (k, n) * areaM (FA s) (TU s) (k, n)) = (sumN 24 fun t => ψ (k, idx (TU s) (t : Int))) * ((FA s).getD (k + 1) 0 * (FA s).getD (k + 1) 0 - (FA s).getD k 0 * (FA s).getD k 0) := fun k => by
    rw [← turn_cells hs BT (fun n => ψ (k, n)), ← sumN_mul]
    refine sumN_congr fun n _ => ?_
    show ψ (k, n) * (((FA s).getD (k + 1) 0 * (FA s).getD (k + 1) 0 - (FA s).getD k 0 * (FA s).getD k 0) * wd (TU s) n) = _
    rw [Int.mul_comm (_ - _) (wd _ _), ← Int.mul_assoc]
  rw [sumN_congr fun k _ => e1 k]
  have key := refine1 (fun k => (FA s).getD k 0) (fun x => sumN 24 fun t => ψ (idx (FA s) x, idx (TU s) (t : Int))) (fun x => x * x) BL.z ((FA s).length - 1) (fun k hk => by
      have h1 := hb _ (getD_mem (L := FA s) (k := k) (by omega))
      have h2 : (FA s).getD k 0 < (FA s).getD (k + 1) 0 := up_get U.l (by omega) (by omega)
      omega) (fun k hk r h1 h2 => by
      refine sumN_congr fun t _ => ?_
      rw [idx_at BL.up (by omega), idx_uniq BL.up (k := k) (by omega) h1 fun _ => h2])
  have hlast := hb _ (getD_mem (L := FA s) (k := (FA s).length - 1) (by omega))
  refine Eq.trans (sumN_congr fun k hk => ?_) (key.symm.trans ?_)
  · rw [idx_at BL.up (by omega)]
  obtain ⟨d, hd⟩ : ∃ d : Nat, M + 2 = ((FA s).getD ((FA s).length - 1) 0).toNat + d := ⟨M + 2 - ((FA s).getD ((FA s).length - 1) 0).toNat, by omega⟩
  rw [hd, sumN_add]
  rw [show sumN d (fun i => sumN 24 fun t => ψ (fcell (FA s) (TU s) (((FA s).getD ((FA s).length - 1) 0).toNat + i, t)) * (2 * ((((((FA s).getD ((FA s).length - 1) 0).toNat + i, t) : Nat × Nat).1 : Nat) : Int) + 1)) = 0 from sumN_zero fun i _ => sumN_zero fun t _ => by
    unfold fcell
    simp only
    rw [idx_uniq BL.up (k := (FA s).length - 1) (by omega) (by omega) (fun h => by omega), h0, Int.zero_mul], Int.add_zero]
  refine sumN_congr fun r _ => ?_
  rw [← sumN_mul]
  refine sumN_congr fun t _ => ?_
  unfold fcell
  simp only
  rw [show (((r : Int) + 1) * ((r : Int) + 1) - (r : Int) * (r : Int)) = 2 * (r : Int) + 1 by rw [Int.add_mul, Int.mul_add]; omega]
theorem eqD_eL (a b : List Nat) : eqD (eL a) (eL b) = some (.bl (decide (a = b))) := by
  rw [eL_all, eL_all, eqD_ti]
  congr 2
  rw [decide_eq_decide]
  exact ⟨fun h => List.map_inj_right (fun a b h => by omega) |>.mp h, fun h => by rw [h]⟩
def natI (a : List Nat) : List Int := a.map fun k : Nat => (k : Int)
def itemC (s : List Pc) (g : List (Nat × Nat)) : FK := (natI (LYc s (g.headD (0, 0))), (g.map (areaM (FA s) (TU s))).sum)
def outC (s : List Pc) (g : List (Nat × Nat)) : Bool := (g.map fun c => decide (c.1 + 1 = (FA s).length)).any id
theorem facesK_map : ∀ ps : List FK, facesK (ps.map faceD) = some ps
  | [] => rfl
  | p :: ps => by
    show ((faceK (faceD p)).bind fun p => (facesK (ps.map faceD)).bind fun ps => some (p :: ps)) = _
    rw [facesK_map ps, show faceK (faceD p) = some p by
      show ((asInts (p.1.map D.int)).bind fun ns => some (ns, p.2)) = _
      rw [asInts_map]; rfl]
    rfl
theorem sortedD_f (ps : List FK) : sortedD (.lst (ps.map faceD)) = some (.lst ((sortF ps).map faceD)) := by
  show (facesK (ps.map faceD)).bind _ = _
  rw [facesK_map]; rfl
theorem parts_len {γ : Type} {a b : Nat} {m : Nat × Nat → γ} {gs : List (List (Nat × Nat))} (P : Parts (cellsG a b) (adjC a b) m gs) (ha : a ≤ 41) (hb : b ≤ 41) : gs.length < big ∧ ∀ g ∈ gs, g.length < big := by
  have hV : (cellsG a b).length < big := by
    rw [grid_len]
    exact Nat.lt_of_le_of_lt (Nat.mul_le_mul ha hb) (by decide)
  refine ⟨?_, fun g hg => ?_⟩
  · have h1 := nodup_le (V := cellsG a b) (g := gs.map fun g => g.headD (0, 0)) (by
      show List.Pairwise _ _
      rw [List.pairwise_map]
      refine List.Pairwise.imp_of_mem (fun {g h} hg hh hgh e => ?_) P.dis
      have e : g.headD (0, 0) = h.headD (0, 0) := e
      exact hgh _ (P.hd hg (0, 0)).2.1 (by rw [e]; exact (P.hd hh (0, 0)).2.1)) (fun x hx => by
      obtain ⟨g, hg, rfl⟩ := List.mem_map.mp hx
      exact (P.hd hg _).2.2)
    rw [List.length_map] at h1
    omega
  · have := nodup_le (P.comp g hg).nd fun x hx => (P.comp g hg).inV (gr_cells a b) hx
    omega
theorem c_face_groups_t {s : List Pc} (hl : s.length ≤ 20) : ∃ gs : List (List (Nat × Nat)), c_face_groups [netM s] = some (.lst (gs.map eG)) ∧ Parts (cellsG (FA s).length (TU s).length) (adjC (FA s).length (TU s).length) (LYc s) gs := by
  have hF := FA_len s
  have hT := TU_len s
  obtain ⟨gs, e, P⟩ := c_hanging_t (L := FA s) (T := TU s) (f := insF s) (mf := insF s) (mv := LYc s) (by omega) (by omega) (fun x _ y _ => eqD_eL _ _)
  have e : c_hanging [netM s, .dct (dgrid (FA s).length (TU s).length (insF s))] = some (.lst (gs.map eG)) := e
  refine ⟨gs, ?_, P⟩
  rw [st_face_groups]
  unfold F_face_groups
  walk_at "pv"
  rw [show insideD (netM s) = some (.dct (dgrid (FA s).length (TU s).length (insF s))) from rfl]
  walk_at "pv"
  rw [e]
theorem c_is_outermost_t {s : List Pc} {g : List (Nat × Nat)} (hg : g.length < big) : c_is_outermost [netM s, eG g] = some (.bl (outC s g)) := by
  rw [st_is_outermost]
  unfold F_is_outermost
  walk_at "pv"
  rw [lcF_all eC (fun c => .bl (decide (c.1 + 1 = (FA s).length))) g (by
    unfold eG
    walk_at "pv") hg (fun c _ => ⟨_, bindP1, by
    unfold eC
    walk_at "pv"
    rw [show farsD (netM s) = some (.lst ((FA s).map D.int)) from rfl]
    walk_at "pv"
    rw [List.length_map]
    congr 2
    rw [Bool.eq_iff_iff, beq_iff_eq, decide_eq_true_eq]
    omega⟩)]
  walk_at "pv"
  rw [show g.map (fun c => D.bl (decide (c.1 + 1 = (FA s).length))) = (g.map fun c => decide (c.1 + 1 = (FA s).length)).map D.bl by rw [List.map_map]; rfl, anyD_b]
  rfl
theorem out_f {s : List Pc} {g : List (Nat × Nat)} : outC s g = false ↔ ∀ c ∈ g, c.1 + 1 ≠ (FA s).length := by
  unfold outC
  rw [List.any_map, List.any_eq_false]
  exact ⟨fun h c hc e => h c hc (by simpa using e), fun h c hc e => h c hc (by simpa using e)⟩
theorem c_faces_t {m : Int} {s : List Pc} (h0 : 0 ≤ m) (hm : m ≤ 60) (hs : ∀ q ∈ s, q.Ok m) (hl : s.length ≤ 8) {gs : List (List (Nat × Nat))} (eg : c_face_groups [netM s] = some (.lst (gs.map eG)))
    (P : Parts (cellsG (FA s).length (TU s).length) (adjC (FA s).length (TU s).length) (LYc s) gs) : c_faces [eS s] = some (.tup ((sortF ((gs.filter fun g => !outC s g).map (itemC s))).map faceD)) := by
  have hF := FA_len s
  have hT := TU_len s
  have eN := c_Net_t hm hs (show s.length ≤ 300 by omega)
  obtain ⟨gl, gl2⟩ := parts_len P (by omega) (by omega)
  have net1 : netB (netM s) = true := rfl
  have eI : insideD (netM s) = some (.dct (dgrid (FA s).length (TU s).length (insF s))) := rfl
  rw [st_faces]
  unfold F_faces
  walk_at "pv"
  rw [eN]
  walk_at "pv"
  rw [eg]
  walk_at "pv"
  refine endP_seq (nxP_pre eG (fun pre ρ => ∃ s3 s4, ρ = [.sh (eS s), .sh (netM s), .ow (.lst (((pre.filter fun g => !outC s g).map (itemC s)).map faceD)), s3, s4]) gs (fun pre g post hp ρ hρ => ?_) ⟨_, _, rfl⟩) (fun ρ hρ => ?_)
  · obtain ⟨s3, s4, rfl⟩ := hρ
    have hg : g ∈ gs := by rw [hp]; simp
    obtain ⟨hd1, hd2, hd3⟩ := P.hd hg (0, 0)
    have hpl := congrArg List.length hp
    rw [List.length_append, List.length_cons] at hpl
    refine ⟨_, bindP1, ?_⟩
    walk_at "pv"
    rw [c_is_outermost_t (gl2 g hg)]
    walk_at "pv"
    rw [List.filter_append, List.filter_cons, List.filter_nil]
    cases ho : outC s g with
    | true =>
      walk_at "pv"
      rw [List.append_nil]
      exact nxP_nx ⟨_, _, rfl⟩
    | false =>
      walk_at "pv"
      have hin : ∀ c ∈ g, c.1 + 1 < (FA s).length ∧ c.2 < (TU s).length := fun c hc => by
        obtain ⟨h1, h2⟩ := mem_cells.mp ((P.comp g hg).inV (gr_cells _ _) hc)
        have := out_f.mp ho c hc
        omega
      rw [eI]
      walk_at "pv"
      rw [ixHd hd1]
      walk_at "pv"
      rw [ix_grid hd3]
      walk_at "pv"
      rw [lcF_all eC (fun c => .int (areaM (FA s) (TU s) c)) g (by
        unfold eG
        walk_at "pv") (gl2 g hg) (fun c hc => ⟨_, bindP1, by
        obtain ⟨hc1, hc2⟩ := hin c hc
        have e3 := c_Net_area_t (L := FA s) (T := TU s) (i := .dct (dgrid (FA s).length (TU s).length (insF s))) hc1 hc2 (by omega) (fun x hx => by have := FA_b h0 hs x hx; omega) (by have := wd_b hs hc2; omega)
        have e3' : c_Net_area [netM s, eC c] = some (.int (areaM (FA s) (TU s) c)) := e3
        walk_at "pv"
        rw [if_pos net1, e3']⟩)]
      walk_at "pv"
      rw [show g.map (fun c => D.int (areaM (FA s) (TU s) c)) = (g.map (areaM (FA s) (TU s))).map D.int by rw [List.map_map]; rfl, sumD_i]
      walk_at "pv"
      rw [appAt_l rfl (by
        rw [List.length_map, List.length_map]
        have := List.length_filter_le (fun g => !outC s g) pre
        omega)]
      refine nxP_nx ⟨.sh (eG g), s4, ?_⟩
      rw [List.map_append, List.map_append]
      rw [show insF s (g.headD (0, 0)).1 (g.headD (0, 0)).2 = D.tup ((natI (LYc s (g.headD (0, 0)))).map D.int) from eL_all]
      rfl
  · obtain ⟨s3, s4, rfl⟩ := hρ
    walk_at "pv"
    rw [sortedD_f]
    walk_at "pv"
theorem c_face_count_t {s : List Pc} {ps : List FK} (e : c_faces [eS s] = some (.tup (ps.map faceD))) : c_face_count [eS s] = some (.int ((ps.length : Int) + 1)) := by
  rw [st_face_count]
  unfold F_face_count
  walk_at "pv"
  rw [e]
  walk_at "pv"
  rw [List.length_map]
theorem eqN_eC (a b : Nat × Nat) : eqN 8 (eC a) (eC b) = decide (a = b) := by
  have e := eqN_ints 6 [(a.1 : Int), (a.2 : Int)] [(b.1 : Int), (b.2 : Int)]
  have e2 : eqN 8 (eC a) (eC b) = eqL (eqN 7) ([(a.1 : Int), (a.2 : Int)].map D.int) ([(b.1 : Int), (b.2 : Int)].map D.int) := rfl
  rw [e2, e, decide_eq_decide]
  constructor
  · intro h
    simp only [List.cons.injEq, and_true] at h
    exact Prod.ext (by omega) (by omega)
  · rintro rfl; rfl
theorem inD_g {c : Nat × Nat} {g : List (Nat × Nat)} : inD (eC c) (eG g) = some (.bl (decide (c ∈ g))) := by
  show (if okD 8 (eC c) && (g.map eC).all (okD 8) then some (D.bl ((g.map eC).any fun z => eqN 8 z (eC c))) else none) = _
  rw [if_pos (by
    rw [Bool.and_eq_true]
    exact ⟨rfl, List.all_eq_true.mpr fun x hx => by obtain ⟨i, _, rfl⟩ := List.mem_map.mp hx; rfl⟩)]
  congr 2
  rw [List.any_map, Bool.eq_iff_iff, List.any_eq_true, decide_eq_true_eq]
  constructor
  · rintro ⟨x, hx, h⟩
    have h : eqN 8 (eC x) (eC c) = true := h
    rw [eqN_eC, decide_eq_true_eq] at h
    rw [← h]; exact hx
  · intro h
    exact ⟨c, h, by show eqN 8 (eC c) (eC c) = true; rw [eqN_eC, decide_eq_true_eq]⟩
def mvL (s : List Pc) (c : Nat × Nat) : List Nat := LY s (c.1 : Int) (c.2 : Int)
theorem mvL_mk {m : Int} {R : Nat} {s : List Pc} (hs : ∀ q ∈ s, q.Ok m) (BL : Blk (FA s) R) (BT : Blk (TU s) 24) : ∀ w ∈ cellsG R 24, mvL s w = LYc s (fcell (FA s) (TU s) w) := fun w hw => by
  obtain ⟨h1, h2⟩ := mem_cells.mp hw
  exact LY_congr fun q hq => inC_cell hs BL BT (by omega) (by omega) (by omega) q hq
def itemF (s : List Pc) (h : List (Nat × Nat)) : FK := (natI (mvL s (h.headD (0, 0))), (h.map fun w => 2 * (w.1 : Int) + 1).sum)
def inF (h : List (Nat × Nat)) : Bool := decide (maxL (h.map fun w => (w.1 : Int)) < 7)
theorem in_f {h : List (Nat × Nat)} (h0 : h ≠ []) : inF h = true ↔ ∀ w ∈ h, w.1 < 7 := by
  obtain ⟨h1, h2⟩ := maxL_mem (h.map fun w => (w.1 : Int)) (by simpa using h0)
  unfold inF
  rw [decide_eq_true_eq]
  constructor
  · intro hl w hw
    have := h2 _ (List.mem_map.mpr ⟨w, hw, rfl⟩)
    omega
  · intro hl
    obtain ⟨w, hw, e⟩ := List.mem_map.mp h1
    have := hl w hw
    omega
theorem filt_two {α : Type} (p : α → Bool) : ∀ l : List α, (l.filter p).length + (l.filter fun x => !p x).length = l.length
  | [] => rfl
  | x :: l => by
    have := filt_two p l
    rw [List.filter_cons, List.filter_cons, List.length_cons]
    cases p x
    · simp only [Bool.false_eq_true, if_false, Bool.not_false, if_true, List.length_cons]; omega
    · simp only [if_true, Bool.not_true, Bool.false_eq_true, if_false, List.length_cons]; omega
theorem LYc_last {m : Int} {s : List Pc} (hs : ∀ q ∈ s, q.Ok m) {n : Nat} : LYc s ((FA s).length - 1, n) = [] := LY_far hs (Int.le_refl _)
theorem last_conn {m : Int} {s : List Pc} (hs : ∀ q ∈ s, q.Ok m) : ∀ n, n < (TU s).length → Conn (adjC (FA s).length (TU s).length) (LYc s) ((FA s).length - 1, 0) ((FA s).length - 1, n)
  | 0, _ => .refl _
  | n + 1, h => by
    refine .step (last_conn hs n (by omega)) (mem_adj.mpr (.inr (.inr ⟨by omega, .inl ?_⟩))) ?_
    · unfold nxt
      simp only
      rw [if_pos h]
    · rw [LYc_last hs, LYc_last hs]
theorem one_out {m : Int} {s : List Pc} (hs : ∀ q ∈ s, q.Ok m) {gs : List (List (Nat × Nat))} (P : Parts (cellsG (FA s).length (TU s).length) (adjC (FA s).length (TU s).length) (LYc s) gs) : (gs.filter fun g => !outC s g).length + 1 = gs.length := by
  have hp := FA_pos s
  have ht := TU_pos s
  obtain ⟨g0, hg0, h0⟩ := P.all ((FA s).length - 1, 0) (mem_cells.mpr ⟨by simp only; omega, ht⟩)
  have e : (gs.filter (outC s)).Perm [g0] := by
    refine (List.perm_ext_iff_of_nodup (P.nd.sublist List.filter_sublist) (by simp)).mpr fun g => ?_
    rw [List.mem_filter, List.mem_singleton]
    constructor
    · rintro ⟨hg, ho⟩
      have h1 : ¬ ∀ c ∈ g, c.1 + 1 ≠ (FA s).length := fun z => by
        rw [out_f.mpr z] at ho
        cases ho
      refine Classical.byContradiction fun hne => h1 fun c hc e => hne ?_
      obtain ⟨c1, c2⟩ := c
      obtain ⟨_, h3⟩ := mem_cells.mp ((P.comp g hg).inV (gr_cells _ _) hc)
      have h4 := (P.comp g0 hg0).mem h0 (last_conn hs c2 h3)
      have e : c1 = (FA s).length - 1 := by simp only at e; omega
      rw [e] at hc
      exact P.uniq hg hg0 hc h4
    · rintro rfl
      refine ⟨hg0, ?_⟩
      cases ho : outC s g with
      | true => rfl
      | false => exact absurd (by simp only; omega) (out_f.mp ho _ h0)
  have := filt_two (outC s) gs
  rw [e.length_eq] at this
  simp only [List.length_singleton] at this
  omega
theorem idx_last {s : List Pc} (hs : ∀ q ∈ s, q.Ok ((6 : Nat) : Int)) (BL : Blk (FA s) 8) : idx (FA s) ((7 : Nat) : Int) = (FA s).length - 1 := by
  have hp := FA_pos s
  have hb := FA_b (show (0 : Int) ≤ (6 : Nat) by omega) hs _ (getD_mem (L := FA s) (k := (FA s).length - 1) (by omega))
  exact idx_uniq BL.up (by omega) (by omega) fun h => by omega
theorem faces_perm {s : List Pc} (hs : ∀ q ∈ s, q.Ok ((6 : Nat) : Int)) {gs hgs : List (List (Nat × Nat))} (P : Parts (cellsG (FA s).length (TU s).length) (adjC (FA s).length (TU s).length) (LYc s) gs) (Q : Parts (cellsG 8 24) (adjC 8 24) (mvL s) hgs) :
    ((gs.filter fun g => !outC s g).map (itemC s)).Perm ((hgs.filter inF).map (itemF s)) ∧ gs.length = hgs.length := by
  have BL : Blk (FA s) 8 := blk_F (M := 6) hs
  have BT := blk_T hs
  have mk := mvL_mk hs BL BT
  have hp := FA_pos s
  have GA := gr_cells (FA s).length (TU s).length
  have GB := gr_cells 8 24
  obtain ⟨φ, hφ, h1⟩ := parts_perm GA GB (fcell (FA s) (TU s)) (fun w _ => fcell_in BL BT w) (fcell_sur BL BT) (conn_iff mk BL BT) P Q
  refine ⟨?_, by have := hφ.length_eq; rw [List.length_map] at this; exact this.symm⟩
  have io : ∀ h ∈ hgs, ((!outC s (φ h)) = true ↔ ∀ c ∈ φ h, c.1 + 1 ≠ (FA s).length) := fun h _ => by
    rw [Bool.not_eq_true', out_f]
  have ii : ∀ h ∈ hgs, (!outC s (φ h)) = inF h := fun h hh => by
    obtain ⟨a1, a2⟩ := h1 h hh
    have ne : h ≠ [] := by
      obtain ⟨c, t, e, _⟩ := (Q.comp h hh).con
      rw [e]; exact fun z => nomatch z
    rw [Bool.eq_iff_iff, io h hh, in_f ne]
    constructor
    · intro k w hw
      have hw2 := (Q.comp h hh).inV GB hw
      obtain ⟨w1, w2⟩ := mem_cells.mp hw2
      refine Classical.byContradiction fun hn => ?_
      have e7 : w.1 = 7 := by omega
      have k2 := k _ ((a2 w hw2).mp hw)
      unfold fcell at k2
      simp only at k2
      rw [e7, idx_last hs BL] at k2
      omega
    · intro k c hc e
      have hcV := (P.comp _ a1).inV GA hc
      obtain ⟨c1, c2⟩ := mem_cells.mp hcV
      have b2 := BT.bd _ (getD_mem c2)
      have hwV : ((7 : Nat), ((TU s).getD c.2 0).toNat) ∈ cellsG 8 24 := mem_cells.mpr ⟨by simp only; omega, by simp only; omega⟩
      have ef : fcell (FA s) (TU s) ((7 : Nat), ((TU s).getD c.2 0).toNat) = c := by
        unfold fcell
        simp only
        rw [idx_last hs BL, Int.toNat_of_nonneg b2.1, idx_at BT.up c2]
        exact Prod.ext (by simp only; omega) rfl
      have := k _ ((a2 _ hwV).mpr (by rw [ef]; exact hc))
      simp only at this
      omega
  have it : ∀ h ∈ hgs, inF h = true → itemC s (φ h) = itemF s h := fun h hh hin => by
    obtain ⟨a1, a2⟩ := h1 h hh
    have hb := (Q.hd hh (0, 0)).2
    have hg := (P.hd a1 (0, 0)).2
    have inn := (io h hh).mp (by rw [ii h hh]; exact hin)
    refine Prod.ext ?_ ?_
    · show natI (LYc s _) = natI (mvL s _)
      rw [mk _ hb.2, ((P.comp _ a1).same GA ((a2 _ hb.2).mp hb.1) hg.1).mark]
    · show ((φ h).map _).sum = (h.map _).sum
      rw [sum_ind (V := cellsB s) (cells_nodup _ _) (P.comp _ a1).nd (fun c hc => by
        obtain ⟨c1, c2⟩ := mem_cells.mp ((P.comp _ a1).inV GA hc)
        have := inn c hc
        exact mem_cells.mpr ⟨by omega, c2⟩), cells_sum (M := 6) hs BL BT (fun c => ind (c ∈ φ h)) (fun n => ind_f fun z => inn _ z (by simp only; omega)), sum_ind (V := cellsG 8 24) (cells_nodup _ _) (Q.comp _ hh).nd (fun w hw => (Q.comp h hh).inV GB hw)]
      congr 1
      refine List.map_congr_left fun w hw => ?_
      rw [ind_iff (a2 w hw)]
  have p1 := (hφ.filter fun g => !outC s g).map (itemC s)
  refine p1.symm.trans ?_
  rw [List.filter_map, List.map_map, List.filter_congr (p := (fun g => !outC s g) ∘ φ) (q := inF) fun h hh => ii h hh]
  rw [List.map_congr_left (f := itemC s ∘ φ) (g := itemF s) fun h hh => by
    obtain ⟨m1, m2⟩ := List.mem_filter.mp hh
    exact it h m1 m2]
theorem ok_ints (n : Nat) (ns : List Int) : (ns.map D.int).all (okD (n + 1)) = true := List.all_eq_true.mpr fun x hx => by obtain ⟨i, _, rfl⟩ := List.mem_map.mp hx; rfl
theorem okD_faces (ps : List FK) : okD 8 (.tup (ps.map faceD)) = true := List.all_eq_true.mpr fun x hx => by
  obtain ⟨p, _, rfl⟩ := List.mem_map.mp hx
  show (okD 6 (.tup (p.1.map D.int)) && (true && true)) = true
  rw [show okD 6 (.tup (p.1.map D.int)) = true from ok_ints 4 p.1]; rfl
theorem neD_refl {xs : List D} (h : okD 8 (.tup xs) = true) : neD (.tup xs) (.tup xs) = some (.bl false) := by
  unfold neD
  rw [if_neg (by exact Bool.false_ne_true), if_pos (by rw [h]; rfl), eqN_refl 8 _ h]; rfl
end Pv
set_option Elab.async false
set_option linter.all false
set_option maxRecDepth 100000
set_option maxHeartbeats 4000000
set_option autoImplicit false
namespace Pv
variable [TabT]
open PySem PySem.Spec PyProof.Rows L2
local macro_rules | `(tactic| walk_at "pv") => `(tactic| simp only [wipe_nil, wipe_cons, sext_eq, sapp_eq, sput_eq, nxE_nx, farsD_n, turnsD_n, insideD_n, fM_eq, netB_n, seqD_d, sdrop_eq, slT_1, slL_1, slS_1, slT_2, slL_2, slS_2, slT_3, slL_3, slS_3, slT_4, slL_4, slS_4, slT_5, slL_5, slS_5, slT_6, slL_6, slS_6, slT_7, slL_7, slS_7, slT_8, slL_8, slS_8, slT_9, slL_9, slS_9, slT_10, slL_10, slS_10, slT_12, slL_12, slS_12, slT_16, slL_16, slS_16, listD_t, listD_l, sseq_eq, seqR_nx, seqR_rt, seqR_ite, endD_ite, bind_ite, sret_eq, sset_eq, sown_eq, sbind_eq, snx_eq, sif_eq, f1_eq, f2_eq, fN_eq, fcons_eq, fnil_eq, kc_eq, tv_eq, tb_eq, boolD_b, tor_eq, tand_eq, tnot_eq, vand_eq, vor_eq, spar_eq, iseq_eq, seqD_l, seqD_t, ienum_eq, enumD_l, enumD_t, irange1_eq, irange2_eq, fch_eq, chL_t, chL_f, fsl_eq, onone_eq, osome_eq, intO_i, sfor_eq, nm_0, nb_0, nbo_0, nm_s, nb_s, obs, obn, ls0, lsS, bindP1, bindT1, bindT2, bindT3, bindT4, tup0, tup1, tup2, tup3, tup4, lst0, lst1, lst2, lst3, lst4, lst5, lst7, lst8, isiD_i, isiD_ib, isiD_is, isiD_in, isiD_it, isiD_il, isiB_i, isiB_b, isiB_s, isiT_i, isiT_b, isiT_s, isiT_n, isiT_t, isiT_l, setE, addD_i, subD_i, negD_i, absD_i, ltD_i, leD_i, gtD_i, geD_i, eqD_i, neD_i, eqD_b, neD_b, isD_b, isntD_b, ixT0, ixT1, ixT2, ixT3, truD_b, truD_t, truD_l, lenD_t, lenD_l, notD_b, tupleD_l, tupleD_t, endD_ret, endD_rt, reduceIte, if_true, if_false, Bool.false_eq_true, Bool.not_true, Bool.not_false, decide_true, decide_false, Bool.true_eq, ne_eq])
local macro_rules | `(tactic| walk_at "pvs") => `(tactic| simp only [*, wipe_nil, wipe_cons, sext_eq, sapp_eq, sput_eq, nxE_nx, farsD_n, turnsD_n, insideD_n, fM_eq, netB_n, seqD_d, sdrop_eq, slT_1, slL_1, slS_1, slT_2, slL_2, slS_2, slT_3, slL_3, slS_3, slT_4, slL_4, slS_4, slT_5, slL_5, slS_5, slT_6, slL_6, slS_6, slT_7, slL_7, slS_7, slT_8, slL_8, slS_8, slT_9, slL_9, slS_9, slT_10, slL_10, slS_10, slT_12, slL_12, slS_12, slT_16, slL_16, slS_16, listD_t, listD_l, mulD_r, mulD_l, modD_i, fdivD_i, sseq_eq, seqR_nx, seqR_rt, seqR_ite, endD_ite, bind_ite, sret_eq, sset_eq, sown_eq, sbind_eq, snx_eq, sif_eq, f1_eq, f2_eq, fN_eq, fcons_eq, fnil_eq, kc_eq, tv_eq, tb_eq, boolD_b, tor_eq, tand_eq, tnot_eq, vand_eq, vor_eq, spar_eq, iseq_eq, seqD_l, seqD_t, ienum_eq, enumD_l, enumD_t, irange1_eq, irange2_eq, fch_eq, chL_t, chL_f, fsl_eq, onone_eq, osome_eq, intO_i, sfor_eq, nm_0, nb_0, nbo_0, nm_s, nb_s, obs, obn, ls0, lsS, bindP1, bindT1, bindT2, bindT3, bindT4, tup0, tup1, tup2, tup3, tup4, lst0, lst1, lst2, lst3, lst4, lst5, lst7, lst8, isiD_i, isiD_ib, isiD_is, isiD_in, isiD_it, isiD_il, isiB_i, isiB_b, isiB_s, isiT_i, isiT_b, isiT_s, isiT_n, isiT_t, isiT_l, setE, addD_i, subD_i, negD_i, absD_i, ltD_i, leD_i, gtD_i, geD_i, eqD_i, neD_i, eqD_b, neD_b, isD_b, isntD_b, ixT0, ixT1, ixT2, ixT3, truD_b, truD_t, truD_l, lenD_t, lenD_l, notD_b, tupleD_l, tupleD_t, endD_ret, endD_rt, reduceIte, if_true, if_false, Bool.false_eq_true, Bool.not_true, Bool.not_false, decide_true, decide_false, Bool.true_eq, ne_eq])
local macro_rules | `(tactic| walk_at "pvo") => `(tactic| simp (disch := omega) only [addD_l, addD_t, rng1D_i, rng2D_i, wipe_nil, wipe_cons, sext_eq, sapp_eq, sput_eq, nxE_nx, farsD_n, turnsD_n, insideD_n, fM_eq, netB_n, seqD_d, sdrop_eq, slT_1, slL_1, slS_1, slT_2, slL_2, slS_2, slT_3, slL_3, slS_3, slT_4, slL_4, slS_4, slT_5, slL_5, slS_5, slT_6, slL_6, slS_6, slT_7, slL_7, slS_7, slT_8, slL_8, slS_8, slT_9, slL_9, slS_9, slT_10, slL_10, slS_10, slT_12, slL_12, slS_12, slT_16, slL_16, slS_16, listD_t, listD_l, mulD_r, mulD_l, modD_i, fdivD_i, sseq_eq, seqR_nx, seqR_rt, seqR_ite, endD_ite, bind_ite, sret_eq, sset_eq, sown_eq, sbind_eq, snx_eq, sif_eq, f1_eq, f2_eq, fN_eq, fcons_eq, fnil_eq, kc_eq, tv_eq, tb_eq, boolD_b, tor_eq, tand_eq, tnot_eq, vand_eq, vor_eq, spar_eq, iseq_eq, seqD_l, seqD_t, ienum_eq, enumD_l, enumD_t, irange1_eq, irange2_eq, fch_eq, chL_t, chL_f, fsl_eq, onone_eq, osome_eq, intO_i, sfor_eq, nm_0, nb_0, nbo_0, nm_s, nb_s, obs, obn, ls0, lsS, bindP1, bindT1, bindT2, bindT3, bindT4, tup0, tup1, tup2, tup3, tup4, lst0, lst1, lst2, lst3, lst4, lst5, lst7, lst8, isiD_i, isiD_ib, isiD_is, isiD_in, isiD_it, isiD_il, isiB_i, isiB_b, isiB_s, isiT_i, isiT_b, isiT_s, isiT_n, isiT_t, isiT_l, setE, addD_i, subD_i, negD_i, absD_i, ltD_i, leD_i, gtD_i, geD_i, eqD_i, neD_i, eqD_b, neD_b, isD_b, isntD_b, ixT0, ixT1, ixT2, ixT3, truD_b, truD_t, truD_l, lenD_t, lenD_l, notD_b, tupleD_l, tupleD_t, endD_ret, endD_rt, reduceIte, if_true, if_false, Bool.false_eq_true, Bool.not_true, Bool.not_false, decide_true, decide_false, Bool.true_eq, ne_eq])
/-! ### pieces for the wished cells -/
def cellQ (s : List Pc) (c : Nat × Nat) : Pc := ⟨(FA s).getD c.1 0, (FA s).getD (c.1 + 1) 0, (TU s).getD c.2 0, wd (TU s) c.2⟩
def pcs (s : List Pc) (w : Nat × Nat → Bool) : List Pc := ((cellsB s).filter w).map (cellQ s)
theorem cellsB_len {s : List Pc} : (cellsB s).length = ((FA s).length - 1) * (TU s).length := grid_len
abbrev E6 (s : List Pc) (p : Addr × Addr × Str) (x : List Pc) (x3 x4 x5 : Sl) : Env := [.sh (netM s), .sh (.fn p.1 p.2.1 p.2.2), .ow (.lst (x.map eQ)), x3, x4, x5]
theorem wishB_t {p : Addr × Addr × Str} {a b c d e : Sl} : wishB p [a, .sh (.fn p.1 p.2.1 p.2.2), b, c, d, e] = true := by
  show (decide (p.1 = p.1) && (decide (p.2.1 = p.2.1) && decide (p.2.2 = p.2.2))) = true
  simp
theorem inside_at {s : List Pc} {c : Nat × Nat} (h : c ∈ cellsB s) : ixD (.dct (dgrid (FA s).length (TU s).length (insF s))) (eC c) = some (eL (LYc s c)) := by
  obtain ⟨h1, h2⟩ := mem_cellsB h
  exact ix_grid (mem_cells.mpr ⟨by omega, h2⟩)
theorem pw_row {s : List Pc} {p : Addr × Addr × Str} {W : D → Option D} {acc : List Pc} {x4 x5 : Sl} {c : Nat × Nat} {b : Bool} (h : c ∈ cellsB s) (hT : (TU s).length < 1000) (hW : W (eL (LYc s c)) = some (.bl b)) (ha : acc.length < 100000) :
    ∃ y4 y5, sif (tWish W p) L_pwB snx (E6 s p acc (.sh (eC c)) x4 x5) = some (.nx (E6 s p (acc ++ if b = true then [cellQ s c] else []) (.sh (eC c)) y4 y5)) := by
  obtain ⟨h1, h2⟩ := mem_cellsB h
  have et : tWish W p (E6 s p acc (.sh (eC c)) x4 x5) = some b := by
    unfold tWish E6
    rw [if_pos wishB_t]
    unfold L_pwA netM
    walk_at "pv"
    rw [inside_at h]
    walk_at "pv"
    show ((W (eL (LYc s c))).bind boolD) = _
    rw [hW]; rfl
  rw [sif_eq, et, Option.bind_some]
  cases b with
  | false => exact ⟨x4, x5, by rw [if_neg Bool.false_ne_true, if_neg Bool.false_ne_true, List.append_nil]; rfl⟩
  | true =>
    have i0 : ixD (.lst ((FA s).map D.int)) (.int (c.1 : Int)) = some (.int ((FA s).getD c.1 0)) := ixI rfl (by omega)
    have i1 : ixD (.lst ((FA s).map D.int)) (.int ((c.1 : Int) + 1)) = some (.int ((FA s).getD (c.1 + 1) 0)) := ixI (by omega) h1
    have i2 : ixD (.lst ((TU s).map D.int)) (.int (c.2 : Int)) = some (.int ((TU s).getD c.2 0)) := ixI rfl h2
    have e1 := c_Net_width_t (L := FA s) (T := TU s) (i := .dct (dgrid (FA s).length (TU s).length (insF s))) h2 hT
    refine ⟨.sh (.int (c.1 : Int)), .sh (.int (c.2 : Int)), ?_⟩
    rw [if_pos rfl, if_pos rfl]
    unfold L_pwB E6 netM eC
    walk_at "pv"
    rw [i0, i1, i2]
    walk_at "pv"
    rw [e1]
    walk_at "pv"
    rw [appAt_l rfl (by rw [List.length_map]; unfold big; omega)]
    rw [List.map_append]
    rfl
theorem pw_loop {s : List Pc} {p : Addr × Addr × Str} {W : D → Option D} {w : Nat × Nat → Bool} (hT : (TU s).length < 1000) (hW : ∀ c ∈ cellsB s, W (eL (LYc s c)) = some (.bl (w c))) : ∀ (cs : List (Nat × Nat)) (acc : List Pc) (x3 x4 x5 : Sl), (∀ c ∈ cs, c ∈ cellsB s) → acc.length + cs.length < 100000 →
    ∃ y3 y4 y5, forD (.one 3) (sif (tWish W p) L_pwB snx) (cs.map eC) (E6 s p acc x3 x4 x5) = some (.nx (E6 s p (acc ++ (cs.filter w).map (cellQ s)) y3 y4 y5))
  | [], acc, x3, x4, x5, _, _ => ⟨x3, x4, x5, by rw [show (List.filter w []).map (cellQ s) = [] from rfl, List.append_nil]; rfl⟩
  | c :: cs, acc, x3, x4, x5, h, hl => by
    rw [List.length_cons] at hl
    obtain ⟨y4, y5, e1⟩ := pw_row (p := p) (acc := acc) (x4 := x4) (x5 := x5) (h c List.mem_cons_self) hT (hW c (h c List.mem_cons_self)) (by omega)
    obtain ⟨z3, z4, z5, e2⟩ := pw_loop (p := p) (W := W) hT hW cs (acc ++ if w c = true then [cellQ s c] else []) (.sh (eC c)) y4 y5 (fun x hx => h x (List.mem_cons_of_mem _ hx)) (by
      rw [List.length_append]
      split <;> simp <;> omega)
    refine ⟨z3, z4, z5, ?_⟩
    have z : forD (.one 3) (sif (tWish W p) L_pwB snx) (eC c :: cs.map eC) (E6 s p acc x3 x4 x5) = (sif (tWish W p) L_pwB snx (E6 s p acc (.sh (eC c)) x4 x5)).bind fun r => match r with
      | .nx ρ' => forD (.one 3) (sif (tWish W p) L_pwB snx) (cs.map eC) ρ'
      | .rt d => some (.rt d) := rfl
    rw [List.map_cons, z, e1]
    show forD _ _ _ _ = _
    rw [e2, List.append_assoc, List.filter_cons]
    cases w c <;> rfl
theorem c_pw_t {s : List Pc} {W : D → Option D} {w : Nat × Nat → Bool} (hl : s.length ≤ 300) (hF : (FA s).length ≤ 61) (hT : (TU s).length ≤ 24) (hW : ∀ c ∈ cellsB s, W (eL (LYc s c)) = some (.bl (w c))) : c_pw W (netM s) = some (eS (pcs s w)) := by
  refine anyF_i fun p => ?_
  have lenB : (cellsB s).length ≤ 61 * 24 := by rw [cellsB_len]; exact Nat.mul_le_mul (by omega) hT
  have eB := c_Net_bounded_t (s := s) hl
  have eS' : sortedC (.lst ((cellsB s).map eC)) = some (.lst ((cellsB s).map eC)) := by
    have e : (cellsB s).map eC = ((cellsB s).map fun c => ((c.1 : Int), (c.2 : Int))).map pairD := by rw [List.map_map]; rfl
    show ((pairsO ((cellsB s).map eC)).bind fun ps => gdR (ps.Pairwise fun p q => SrtO.lexB p q = true) (D.lst ((cellsB s).map eC))) = _
    rw [e, pairsO_map, Option.bind_some]
    exact gdR_t (grid_lex _ _)
  obtain ⟨y3, y4, y5, e1⟩ := pw_loop (p := p) (W := W) (w := w) (by omega) hW (cellsB s) [] .no .no .no (fun c h => h) (by show 0 + _ < _; omega)
  unfold F_pw L_pw0 L_pwI L_pwR
  have net1 : netB (netM s) = true := rfl
  walk_at "pv"
  rw [if_pos net1, eB]
  show endD (seqR (((sortedC (.lst ((cellsB s).map eC))).bind seqD).bind _) _) = _
  rw [eS']
  walk_at "pv"
  refine (congrArg (fun z => endD (seqR z _)) e1).trans ?_
  unfold E6
  walk_at "pv"
  rfl
end Pv
set_option Elab.async false
set_option linter.all false
set_option maxRecDepth 100000
set_option maxHeartbeats 4000000
set_option autoImplicit false
namespace Pv
variable [TabT]
open PySem PySem.Spec PyProof.Rows L2
local macro_rules | `(tactic| walk_at "pv") => `(tactic| simp only [wipe_nil, wipe_cons, sext_eq, sapp_eq, sput_eq, nxE_nx, farsD_n, turnsD_n, insideD_n, fM_eq, netB_n, seqD_d, sdrop_eq, slT_1, slL_1, slS_1, slT_2, slL_2, slS_2, slT_3, slL_3, slS_3, slT_4, slL_4, slS_4, slT_5, slL_5, slS_5, slT_6, slL_6, slS_6, slT_7, slL_7, slS_7, slT_8, slL_8, slS_8, slT_9, slL_9, slS_9, slT_10, slL_10, slS_10, slT_12, slL_12, slS_12, slT_16, slL_16, slS_16, listD_t, listD_l, sseq_eq, seqR_nx, seqR_rt, seqR_ite, endD_ite, bind_ite, sret_eq, sset_eq, sown_eq, sbind_eq, snx_eq, sif_eq, f1_eq, f2_eq, fN_eq, fcons_eq, fnil_eq, kc_eq, tv_eq, tb_eq, boolD_b, tor_eq, tand_eq, tnot_eq, vand_eq, vor_eq, spar_eq, iseq_eq, seqD_l, seqD_t, ienum_eq, enumD_l, enumD_t, irange1_eq, irange2_eq, fch_eq, chL_t, chL_f, fsl_eq, onone_eq, osome_eq, intO_i, sfor_eq, nm_0, nb_0, nbo_0, nm_s, nb_s, obs, obn, ls0, lsS, bindP1, bindT1, bindT2, bindT3, bindT4, tup0, tup1, tup2, tup3, tup4, lst0, lst1, lst2, lst3, lst4, lst5, lst7, lst8, isiD_i, isiD_ib, isiD_is, isiD_in, isiD_it, isiD_il, isiB_i, isiB_b, isiB_s, isiT_i, isiT_b, isiT_s, isiT_n, isiT_t, isiT_l, setE, addD_i, subD_i, negD_i, absD_i, ltD_i, leD_i, gtD_i, geD_i, eqD_i, neD_i, eqD_b, neD_b, isD_b, isntD_b, ixT0, ixT1, ixT2, ixT3, truD_b, truD_t, truD_l, lenD_t, lenD_l, notD_b, tupleD_l, tupleD_t, endD_ret, endD_rt, reduceIte, if_true, if_false, Bool.false_eq_true, Bool.not_true, Bool.not_false, decide_true, decide_false, Bool.true_eq, ne_eq])
local macro_rules | `(tactic| walk_at "pvs") => `(tactic| simp only [*, wipe_nil, wipe_cons, sext_eq, sapp_eq, sput_eq, nxE_nx, farsD_n, turnsD_n, insideD_n, fM_eq, netB_n, seqD_d, sdrop_eq, slT_1, slL_1, slS_1, slT_2, slL_2, slS_2, slT_3, slL_3, slS_3, slT_4, slL_4, slS_4, slT_5, slL_5, slS_5, slT_6, slL_6, slS_6, slT_7, slL_7, slS_7, slT_8, slL_8, slS_8, slT_9, slL_9, slS_9, slT_10, slL_10, slS_10, slT_12, slL_12, slS_12, slT_16, slL_16, slS_16, listD_t, listD_l, mulD_r, mulD_l, modD_i, fdivD_i, sseq_eq, seqR_nx, seqR_rt, seqR_ite, endD_ite, bind_ite, sret_eq, sset_eq, sown_eq, sbind_eq, snx_eq, sif_eq, f1_eq, f2_eq, fN_eq, fcons_eq, fnil_eq, kc_eq, tv_eq, tb_eq, boolD_b, tor_eq, tand_eq, tnot_eq, vand_eq, vor_eq, spar_eq, iseq_eq, seqD_l, seqD_t, ienum_eq, enumD_l, enumD_t, irange1_eq, irange2_eq, fch_eq, chL_t, chL_f, fsl_eq, onone_eq, osome_eq, intO_i, sfor_eq, nm_0, nb_0, nbo_0, nm_s, nb_s, obs, obn, ls0, lsS, bindP1, bindT1, bindT2, bindT3, bindT4, tup0, tup1, tup2, tup3, tup4, lst0, lst1, lst2, lst3, lst4, lst5, lst7, lst8, isiD_i, isiD_ib, isiD_is, isiD_in, isiD_it, isiD_il, isiB_i, isiB_b, isiB_s, isiT_i, isiT_b, isiT_s, isiT_n, isiT_t, isiT_l, setE, addD_i, subD_i, negD_i, absD_i, ltD_i, leD_i, gtD_i, geD_i, eqD_i, neD_i, eqD_b, neD_b, isD_b, isntD_b, ixT0, ixT1, ixT2, ixT3, truD_b, truD_t, truD_l, lenD_t, lenD_l, notD_b, tupleD_l, tupleD_t, endD_ret, endD_rt, reduceIte, if_true, if_false, Bool.false_eq_true, Bool.not_true, Bool.not_false, decide_true, decide_false, Bool.true_eq, ne_eq])
local macro_rules | `(tactic| walk_at "pvo") => `(tactic| simp (disch := omega) only [addD_l, addD_t, rng1D_i, rng2D_i, wipe_nil, wipe_cons, sext_eq, sapp_eq, sput_eq, nxE_nx, farsD_n, turnsD_n, insideD_n, fM_eq, netB_n, seqD_d, sdrop_eq, slT_1, slL_1, slS_1, slT_2, slL_2, slS_2, slT_3, slL_3, slS_3, slT_4, slL_4, slS_4, slT_5, slL_5, slS_5, slT_6, slL_6, slS_6, slT_7, slL_7, slS_7, slT_8, slL_8, slS_8, slT_9, slL_9, slS_9, slT_10, slL_10, slS_10, slT_12, slL_12, slS_12, slT_16, slL_16, slS_16, listD_t, listD_l, mulD_r, mulD_l, modD_i, fdivD_i, sseq_eq, seqR_nx, seqR_rt, seqR_ite, endD_ite, bind_ite, sret_eq, sset_eq, sown_eq, sbind_eq, snx_eq, sif_eq, f1_eq, f2_eq, fN_eq, fcons_eq, fnil_eq, kc_eq, tv_eq, tb_eq, boolD_b, tor_eq, tand_eq, tnot_eq, vand_eq, vor_eq, spar_eq, iseq_eq, seqD_l, seqD_t, ienum_eq, enumD_l, enumD_t, irange1_eq, irange2_eq, fch_eq, chL_t, chL_f, fsl_eq, onone_eq, osome_eq, intO_i, sfor_eq, nm_0, nb_0, nbo_0, nm_s, nb_s, obs, obn, ls0, lsS, bindP1, bindT1, bindT2, bindT3, bindT4, tup0, tup1, tup2, tup3, tup4, lst0, lst1, lst2, lst3, lst4, lst5, lst7, lst8, isiD_i, isiD_ib, isiD_is, isiD_in, isiD_it, isiD_il, isiB_i, isiB_b, isiB_s, isiT_i, isiT_b, isiT_s, isiT_n, isiT_t, isiT_l, setE, addD_i, subD_i, negD_i, absD_i, ltD_i, leD_i, gtD_i, geD_i, eqD_i, neD_i, eqD_b, neD_b, isD_b, isntD_b, ixT0, ixT1, ixT2, ixT3, truD_b, truD_t, truD_l, lenD_t, lenD_l, notD_b, tupleD_l, tupleD_t, endD_ret, endD_rt, reduceIte, if_true, if_false, Bool.false_eq_true, Bool.not_true, Bool.not_false, decide_true, decide_false, Bool.true_eq, ne_eq])
/-! ### plain, both_of, cut_out -/
def wPl (s : List Pc) (c : Nat × Nat) : Bool := decide (0 < (LYc s c).length)
def wBo (m : Nat) (s : List Pc) (c : Nat × Nat) : Bool := decide (0 < (LYc s c).length) && (decide ((LYc s c).headD 0 < m) && decide (m ≤ (LYc s c).getLastD 0))
def wCu (m : Nat) (s : List Pc) (c : Nat × Nat) : Bool := decide (0 < (LYc s c).length) && decide ((LYc s c).getLastD 0 < m)
theorem lam_plain_t {ns : List Nat} : L_lam_plain [.sh (eL ns)] = some (.bl (decide (0 < ns.length))) := by
  unfold L_lam_plain
  walk_at "pv"
  rw [lenD_eL]
  walk_at "pv"
  exact congrArg (fun b => some (D.bl b)) (decide_eq_decide.mpr (by omega))
theorem ixHd0 {n : Nat} {ns : List Nat} : ixD (eL (n :: ns)) (.int 0) = some (.int (n : Int)) := ixT0
theorem ixLst {n : Nat} {ns : List Nat} : ixD (eL (n :: ns)) (.int (-1)) = some (.int (((n :: ns).getLastD 0 : Nat) : Int)) := by
  have e : eL (n :: ns) = .tup (((n :: ns).map fun k : Nat => (k : Int)).map D.int) := by rw [List.map_map]; rfl
  rw [e, ixLast (by simp)]
  refine congrArg (fun z => some (D.int z)) ?_
  rw [List.length_map, List.getLastD_eq_getLast?, List.getLast?_eq_getElem?, List.getD_eq_getElem?_getD, List.getElem?_map]
  cases h : (n :: ns)[(n :: ns).length - 1]? with
  | none => rw [List.getElem?_eq_none_iff, List.length_cons] at h; omega
  | some v => rfl
theorem lam_both_t {ns : List Nat} {m : Nat} : L_lam_both_of [.sh (eL ns), .sh (.int (m : Int))] = some (.bl (decide (0 < ns.length) && (decide (ns.headD 0 < m) && decide (m ≤ ns.getLastD 0)))) := by
  unfold L_lam_both_of
  walk_at "pv"
  rw [lenD_eL]
  walk_at "pv"
  cases ns with
  | nil => rfl
  | cons n ns =>
    rw [decide_eq_true (show (0 : Int) < (((n :: ns).length : Nat) : Int) by rw [List.length_cons]; omega), decide_eq_true (show 0 < (n :: ns).length by simp)]
    rw [ixHd0, ixLst]
    walk_at "pv"
    rw [decide_eq_decide.mpr (show ((n : Int) < (m : Int)) ↔ (n :: ns).headD 0 < m from Int.ofNat_lt)]
    cases decide ((n :: ns).headD 0 < m) with
    | false => rfl
    | true =>
      walk_at "pv"
      exact congrArg (fun b => some (D.bl b)) (by rw [Bool.true_and, Bool.true_and]; exact decide_eq_decide.mpr (by omega))
theorem lam_cut_t {ns : List Nat} {m : Nat} : L_lam_cut_out [.sh (eL ns), .sh (.int (m : Int))] = some (.bl (decide (0 < ns.length) && decide (ns.getLastD 0 < m))) := by
  unfold L_lam_cut_out
  walk_at "pv"
  rw [lenD_eL]
  walk_at "pv"
  cases ns with
  | nil => rfl
  | cons n ns =>
    rw [decide_eq_true (show (0 : Int) < (((n :: ns).length : Nat) : Int) by rw [List.length_cons]; omega), decide_eq_true (show 0 < (n :: ns).length by simp)]
    rw [ixLst]
    walk_at "pv"
    exact congrArg (fun b => some (D.bl b)) (by rw [Bool.true_and]; exact decide_eq_decide.mpr (by omega))
theorem c_plain_t {m : Int} {s : List Pc} (hm : m ≤ 60) (h0 : 0 ≤ m) (hs : ∀ q ∈ s, q.Ok m) (hl : s.length ≤ 300) : c_plain [eS s] = some (eS (pcs s (wPl s))) := by
  have hF := FA_len2 h0 hs
  rw [st_plain]
  unfold F_plain L_plE
  walk_at "pv"
  rw [c_Net_t hm hs hl]
  walk_at "pv"
  rw [c_pw_t (w := wPl s) hl (by omega) (TU_len2 hs) fun c _ => lam_plain_t]
theorem eS_app {s1 s2 : List Pc} (hl : s1.length + s2.length ≤ 300) : addD (eS s1) (eS s2) = some (eS (s1 ++ s2)) := by
  unfold eS
  rw [addD_t (by rw [List.length_map, List.length_map]; unfold big; omega), List.map_append]
theorem len_eS {s : List Pc} : lenD (eS s) = some (.int (s.length : Nat)) := by
  show some (D.int ((s.map eQ).length : Nat)) = _
  rw [List.length_map]
theorem c_both_of_t {m : Int} {s1 s2 : List Pc} (hm : m ≤ 60) (h0 : 0 ≤ m) (h1 : ∀ q ∈ s1, q.Ok m) (h2 : ∀ q ∈ s2, q.Ok m) (hl : s1.length + s2.length ≤ 300) : c_both_of [eS s1, eS s2] = some (eS (pcs (s1 ++ s2) (wBo s1.length (s1 ++ s2)))) := by
  have hs : ∀ q ∈ s1 ++ s2, q.Ok m := fun q hq => (List.mem_append.mp hq).elim (h1 q) (h2 q)
  have hF := FA_len2 h0 hs
  have hl2 : (s1 ++ s2).length ≤ 300 := by rw [List.length_append]; exact hl
  rw [st_both_of]
  unfold F_both_of L_bo0 L_bo1 L_boE
  walk_at "pv"
  rw [len_eS]
  walk_at "pv"
  rw [eS_app hl]
  walk_at "pv"
  rw [c_Net_t hm hs hl2]
  walk_at "pv"
  show c_pw (fun x => L_lam_both_of [.sh x, .sh (.int (s1.length : Int))]) (netM (s1 ++ s2)) = _
  rw [c_pw_t (w := wBo s1.length (s1 ++ s2)) hl2 (by omega) (TU_len2 hs) fun c _ => lam_both_t]
theorem c_cut_out_t {m : Int} {s1 s2 : List Pc} (hm : m ≤ 60) (h0 : 0 ≤ m) (h1 : ∀ q ∈ s1, q.Ok m) (h2 : ∀ q ∈ s2, q.Ok m) (hl : s1.length + s2.length ≤ 300) : c_cut_out [eS s1, eS s2] = some (eS (pcs (s1 ++ s2) (wCu s1.length (s1 ++ s2)))) := by
  have hs : ∀ q ∈ s1 ++ s2, q.Ok m := fun q hq => (List.mem_append.mp hq).elim (h1 q) (h2 q)
  have hF := FA_len2 h0 hs
  have hl2 : (s1 ++ s2).length ≤ 300 := by rw [List.length_append]; exact hl
  rw [st_cut_out]
  unfold F_cut_out L_co0 L_co1 L_coE
  walk_at "pv"
  rw [len_eS]
  walk_at "pv"
  rw [eS_app hl]
  walk_at "pv"
  rw [c_Net_t hm hs hl2]
  walk_at "pv"
  show c_pw (fun x => L_lam_cut_out [.sh x, .sh (.int (s1.length : Int))]) (netM (s1 ++ s2)) = _
  rw [c_pw_t (w := wCu s1.length (s1 ++ s2)) hl2 (by omega) (TU_len2 hs) fun c _ => lam_cut_t]
end Pv
set_option Elab.async false
set_option linter.all false
set_option maxRecDepth 100000
set_option maxHeartbeats 4000000
set_option autoImplicit false
namespace Pv
variable [TabT]
open PySem PySem.Spec PyProof.Rows L2
local macro_rules | `(tactic| walk_at "pv") => `(tactic| simp only [wipe_nil, wipe_cons, sext_eq, sapp_eq, sput_eq, nxE_nx, farsD_n, turnsD_n, insideD_n, fM_eq, netB_n, seqD_d, sdrop_eq, slT_1, slL_1, slS_1, slT_2, slL_2, slS_2, slT_3, slL_3, slS_3, slT_4, slL_4, slS_4, slT_5, slL_5, slS_5, slT_6, slL_6, slS_6, slT_7, slL_7, slS_7, slT_8, slL_8, slS_8, slT_9, slL_9, slS_9, slT_10, slL_10, slS_10, slT_12, slL_12, slS_12, slT_16, slL_16, slS_16, listD_t, listD_l, sseq_eq, seqR_nx, seqR_rt, seqR_ite, endD_ite, bind_ite, sret_eq, sset_eq, sown_eq, sbind_eq, snx_eq, sif_eq, f1_eq, f2_eq, fN_eq, fcons_eq, fnil_eq, kc_eq, tv_eq, tb_eq, boolD_b, tor_eq, tand_eq, tnot_eq, vand_eq, vor_eq, spar_eq, iseq_eq, seqD_l, seqD_t, ienum_eq, enumD_l, enumD_t, irange1_eq, irange2_eq, fch_eq, chL_t, chL_f, fsl_eq, onone_eq, osome_eq, intO_i, sfor_eq, nm_0, nb_0, nbo_0, nm_s, nb_s, obs, obn, ls0, lsS, bindP1, bindT1, bindT2, bindT3, bindT4, tup0, tup1, tup2, tup3, tup4, lst0, lst1, lst2, lst3, lst4, lst5, lst7, lst8, isiD_i, isiD_ib, isiD_is, isiD_in, isiD_it, isiD_il, isiB_i, isiB_b, isiB_s, isiT_i, isiT_b, isiT_s, isiT_n, isiT_t, isiT_l, setE, addD_i, subD_i, negD_i, absD_i, ltD_i, leD_i, gtD_i, geD_i, eqD_i, neD_i, eqD_b, neD_b, isD_b, isntD_b, ixT0, ixT1, ixT2, ixT3, truD_b, truD_t, truD_l, lenD_t, lenD_l, notD_b, tupleD_l, tupleD_t, endD_ret, endD_rt, reduceIte, if_true, if_false, Bool.false_eq_true, Bool.not_true, Bool.not_false, decide_true, decide_false, Bool.true_eq, ne_eq])
local macro_rules | `(tactic| walk_at "pvs") => `(tactic| simp only [*, wipe_nil, wipe_cons, sext_eq, sapp_eq, sput_eq, nxE_nx, farsD_n, turnsD_n, insideD_n, fM_eq, netB_n, seqD_d, sdrop_eq, slT_1, slL_1, slS_1, slT_2, slL_2, slS_2, slT_3, slL_3, slS_3, slT_4, slL_4, slS_4, slT_5, slL_5, slS_5, slT_6, slL_6, slS_6, slT_7, slL_7, slS_7, slT_8, slL_8, slS_8, slT_9, slL_9, slS_9, slT_10, slL_10, slS_10, slT_12, slL_12, slS_12, slT_16, slL_16, slS_16, listD_t, listD_l, mulD_r, mulD_l, modD_i, fdivD_i, sseq_eq, seqR_nx, seqR_rt, seqR_ite, endD_ite, bind_ite, sret_eq, sset_eq, sown_eq, sbind_eq, snx_eq, sif_eq, f1_eq, f2_eq, fN_eq, fcons_eq, fnil_eq, kc_eq, tv_eq, tb_eq, boolD_b, tor_eq, tand_eq, tnot_eq, vand_eq, vor_eq, spar_eq, iseq_eq, seqD_l, seqD_t, ienum_eq, enumD_l, enumD_t, irange1_eq, irange2_eq, fch_eq, chL_t, chL_f, fsl_eq, onone_eq, osome_eq, intO_i, sfor_eq, nm_0, nb_0, nbo_0, nm_s, nb_s, obs, obn, ls0, lsS, bindP1, bindT1, bindT2, bindT3, bindT4, tup0, tup1, tup2, tup3, tup4, lst0, lst1, lst2, lst3, lst4, lst5, lst7, lst8, isiD_i, isiD_ib, isiD_is, isiD_in, isiD_it, isiD_il, isiB_i, isiB_b, isiB_s, isiT_i, isiT_b, isiT_s, isiT_n, isiT_t, isiT_l, setE, addD_i, subD_i, negD_i, absD_i, ltD_i, leD_i, gtD_i, geD_i, eqD_i, neD_i, eqD_b, neD_b, isD_b, isntD_b, ixT0, ixT1, ixT2, ixT3, truD_b, truD_t, truD_l, lenD_t, lenD_l, notD_b, tupleD_l, tupleD_t, endD_ret, endD_rt, reduceIte, if_true, if_false, Bool.false_eq_true, Bool.not_true, Bool.not_false, decide_true, decide_false, Bool.true_eq, ne_eq])
local macro_rules | `(tactic| walk_at "pvo") => `(tactic| simp (disch := omega) only [addD_l, addD_t, rng1D_i, rng2D_i, wipe_nil, wipe_cons, sext_eq, sapp_eq, sput_eq, nxE_nx, farsD_n, turnsD_n, insideD_n, fM_eq, netB_n, seqD_d, sdrop_eq, slT_1, slL_1, slS_1, slT_2, slL_2, slS_2, slT_3, slL_3, slS_3, slT_4, slL_4, slS_4, slT_5, slL_5, slS_5, slT_6, slL_6, slS_6, slT_7, slL_7, slS_7, slT_8, slL_8, slS_8, slT_9, slL_9, slS_9, slT_10, slL_10, slS_10, slT_12, slL_12, slS_12, slT_16, slL_16, slS_16, listD_t, listD_l, mulD_r, mulD_l, modD_i, fdivD_i, sseq_eq, seqR_nx, seqR_rt, seqR_ite, endD_ite, bind_ite, sret_eq, sset_eq, sown_eq, sbind_eq, snx_eq, sif_eq, f1_eq, f2_eq, fN_eq, fcons_eq, fnil_eq, kc_eq, tv_eq, tb_eq, boolD_b, tor_eq, tand_eq, tnot_eq, vand_eq, vor_eq, spar_eq, iseq_eq, seqD_l, seqD_t, ienum_eq, enumD_l, enumD_t, irange1_eq, irange2_eq, fch_eq, chL_t, chL_f, fsl_eq, onone_eq, osome_eq, intO_i, sfor_eq, nm_0, nb_0, nbo_0, nm_s, nb_s, obs, obn, ls0, lsS, bindP1, bindT1, bindT2, bindT3, bindT4, tup0, tup1, tup2, tup3, tup4, lst0, lst1, lst2, lst3, lst4, lst5, lst7, lst8, isiD_i, isiD_ib, isiD_is, isiD_in, isiD_it, isiD_il, isiB_i, isiB_b, isiB_s, isiT_i, isiT_b, isiT_s, isiT_n, isiT_t, isiT_l, setE, addD_i, subD_i, negD_i, absD_i, ltD_i, leD_i, gtD_i, geD_i, eqD_i, neD_i, eqD_b, neD_b, isD_b, isntD_b, ixT0, ixT1, ixT2, ixT3, truD_b, truD_t, truD_l, lenD_t, lenD_l, notD_b, tupleD_l, tupleD_t, endD_ret, endD_rt, reduceIte, if_true, if_false, Bool.false_eq_true, Bool.not_true, Bool.not_false, decide_true, decide_false, Bool.true_eq, ne_eq])
/-! ### what such pieces cover -/
theorem mem_cellsB2 {s : List Pc} {c : Nat × Nat} : c ∈ cellsB s ↔ c.1 + 1 < (FA s).length ∧ c.2 < (TU s).length := by
  have := FA_pos s
  exact ⟨mem_cellsB, fun h => mem_cells.mpr ⟨by omega, h.2⟩⟩
theorem cell_in {M : Nat} {s : List Pc} (hs : ∀ q ∈ s, q.Ok (M : Int)) {c : Nat × Nat} (hc : c ∈ cellsB s) {r t : Nat} (ht : t < 24) : inC (cellQ s c) (r : Int) (t : Int) = decide (fcell (FA s) (TU s) (r, t) = c) := by
  obtain ⟨h1, h2⟩ := mem_cellsB hc
  have U := up_of hs
  have BL := blk_F hs
  have BT := blk_T hs
  obtain ⟨t0, t1, t2, _⟩ := turn_next U.t U.t0 h2
  have hnext : c.2 + 1 < (TU s).length → (TU s).getD (c.2 + 1) 24 = (TU s).getD (c.2 + 1) 0 := fun h => getD_any h
  have hlast : ¬ c.2 + 1 < (TU s).length → (TU s).getD (c.2 + 1) 24 = 24 := fun h => getD_last h
  have key : (((TU s).getD c.2 0 ≤ (t : Int) ∧ (t : Int) < (TU s).getD (c.2 + 1) 24)) ↔ ((t : Int) - (TU s).getD c.2 0) % 24 < wd (TU s) c.2 := by
    unfold wd
    generalize (TU s).getD c.2 0 = b at *
    generalize (TU s).getD (c.2 + 1) 24 = e at *
    omega
  show (decide ((FA s).getD c.1 0 ≤ (r : Int)) && (decide ((r : Int) < (FA s).getD (c.1 + 1) 0) && decide (((t : Int) - (TU s).getD c.2 0) % 24 < wd (TU s) c.2))) = _
  rw [Bool.eq_iff_iff]
  simp only [Bool.and_eq_true, decide_eq_true_eq]
  constructor
  · rintro ⟨a1, a2, a34⟩
    obtain ⟨a3, a4⟩ := key.mpr a34
    have e1 := idx_uniq U.l (by omega : c.1 < (FA s).length) a1 fun _ => a2
    have e2 := idx_uniq U.t h2 a3 fun h => by rw [← hnext h]; exact a4
    exact Prod.ext e1 e2
  · intro e
    have e1 : idx (FA s) (r : Int) = c.1 := congrArg Prod.fst e
    have e2 : idx (TU s) (t : Int) = c.2 := congrArg Prod.snd e
    obtain ⟨_, b1, b2⟩ := idx_ok BL (r := (r : Int)) (by omega)
    obtain ⟨_, d1, d2⟩ := idx_ok BT (r := (t : Int)) (by omega)
    rw [e1] at b1 b2
    rw [e2] at d1 d2
    refine ⟨b1, b2 h1, key.mp ⟨d1, ?_⟩⟩
    by_cases h : c.2 + 1 < (TU s).length
    · rw [hnext h]; exact d2 h
    · rw [hlast h]; omega
theorem one_filter {α : Type} [DecidableEq α] {x : α} : ∀ {V : List α}, V.Nodup → (V.filter fun c => decide (x = c)).length = if x ∈ V then 1 else 0
  | [], _ => rfl
  | y :: V, nd => by
    obtain ⟨h1, h2⟩ := List.nodup_cons.mp nd
    have ih := one_filter (x := x) h2
    by_cases e : x = y
    · subst e
      rw [List.filter_cons_of_pos (by simp), List.length_cons, ih, if_neg h1, if_pos List.mem_cons_self]
    · rw [List.filter_cons_of_neg (by simpa using e), ih]
      by_cases hv : x ∈ V
      · rw [if_pos hv, if_pos (List.mem_cons_of_mem _ hv)]
      · rw [if_neg hv, if_neg fun z => (List.mem_cons.mp z).elim e hv]
theorem cellsB_nd (s : List Pc) : (cellsB s).Nodup := cells_nodup _ _
theorem LYc_fine {M : Nat} {s : List Pc} (hs : ∀ q ∈ s, q.Ok (M : Int)) {r t : Nat} (hr : r < M + 2) (ht : t < 24) : LYc s (fcell (FA s) (TU s) (r, t)) = LY s (r : Int) (t : Int) := (mvL_mk hs (blk_F hs) (blk_T hs) (r, t) (mem_cells.mpr ⟨hr, ht⟩)).symm
theorem pcs_count {M : Nat} {s : List Pc} {w : Nat × Nat → Bool} (hs : ∀ q ∈ s, q.Ok (M : Int)) (hw : ∀ c, w c = true → LYc s c ≠ []) {r t : Nat} (ht : t < 24) : (LY (pcs s w) (r : Int) (t : Int)).length = if w (fcell (FA s) (TU s) (r, t)) = true then 1 else 0 := by
  rw [LY_len]
  unfold pcs
  rw [List.filter_map, List.length_map, show ((fun q => inC q (r : Int) (t : Int)) ∘ cellQ s) = fun c => inC (cellQ s c) (r : Int) (t : Int) from rfl, List.filter_congr (q := fun c => decide (fcell (FA s) (TU s) (r, t) = c)) fun c hc => cell_in hs (List.mem_filter.mp hc).1 ht, one_filter ((cellsB_nd s).filter _)]
  by_cases h : w (fcell (FA s) (TU s) (r, t)) = true
  · rw [if_pos h, if_pos]
    refine List.mem_filter.mpr ⟨mem_cellsB2.mpr ⟨?_, (idx_ok (blk_T hs) (r := (t : Int)) (by omega)).1⟩, h⟩
    have h1 := (idx_ok (blk_F hs) (r := (r : Int)) (by omega)).1
    by_cases e : (fcell (FA s) (TU s) (r, t)).1 + 1 < (FA s).length
    · exact e
    · have hl := LYc_last hs (n := (fcell (FA s) (TU s) (r, t)).2)
      rw [show (FA s).length - 1 = (fcell (FA s) (TU s) (r, t)).1 by
        have h1 : (fcell (FA s) (TU s) (r, t)).1 < (FA s).length := h1
        omega] at hl
      exact absurd hl (hw _ h)
  · rw [if_neg h, if_neg fun z => h (List.mem_filter.mp z).2]
theorem pcs_ok {m : Int} {s : List Pc} {w : Nat × Nat → Bool} (h0 : 0 ≤ m) (hs : ∀ q ∈ s, q.Ok m) : ∀ q ∈ pcs s w, q.Ok m := fun q hq => by
  obtain ⟨c, hc, rfl⟩ := List.mem_map.mp hq
  obtain ⟨h1, h2⟩ := mem_cellsB (List.mem_filter.mp hc).1
  have U := up_of hs
  have a1 := FA_b h0 hs _ (getD_mem (L := FA s) (k := c.1) (by omega))
  have a2 := FA_b h0 hs _ (getD_mem (L := FA s) (k := c.1 + 1) h1)
  have a3 := up_get U.l (Nat.lt_succ_self c.1) h1
  have a4 := U.t0 _ (getD_mem (L := TU s) h2)
  have a5 := wd_b hs h2
  exact ⟨a1.1, a3, a2.2, a4.1, a4.2, a5.1, a5.2⟩
theorem pcs_len {s : List Pc} {w : Nat × Nat → Bool} (hs : ∀ q ∈ s, q.Ok ((6 : Nat) : Int)) : (pcs s w).length ≤ 144 := by
  have hF := FA_len2 (m := ((6 : Nat) : Int)) (by omega) hs
  have hT := TU_len2 hs
  unfold pcs
  rw [List.length_map]
  refine Nat.le_trans (List.length_filter_le _ _) ?_
  rw [cellsB_len]
  exact Nat.mul_le_mul (show (FA s).length - 1 ≤ 6 by omega) hT
theorem two_parts {m : Nat} {A B : List Nat} (hA : ∀ x ∈ A, x < m) (hB : ∀ x ∈ B, m ≤ x) :
    (decide (0 < (A ++ B).length) && (decide ((A ++ B).headD 0 < m) && decide (m ≤ (A ++ B).getLastD 0))) = (decide (0 < A.length) && decide (0 < B.length)) ∧ (decide (0 < (A ++ B).length) && decide ((A ++ B).getLastD 0 < m)) = (decide (0 < A.length) && !decide (0 < B.length)) := by
  have last : ∀ (b : Nat) (B : List Nat), ((A ++ (b :: B)).getLastD 0) ∈ b :: B := fun b B => by
    rw [List.getLastD_eq_getLast?, List.getLast?_append]
    obtain ⟨x, hx⟩ : ∃ x, (b :: B).getLast? = some x := ⟨_, List.getLast?_eq_some_getLast (by simp)⟩
    rw [hx]
    show x ∈ b :: B
    exact List.mem_of_getLast? hx
  cases A with
  | nil =>
    cases B with
    | nil => exact ⟨rfl, rfl⟩
    | cons b B =>
      have h1 := hB b List.mem_cons_self
      have h2 := hB _ (last b B)
      have h3 : ¬ (([] ++ b :: B : List Nat).headD 0 < m) := by show ¬ b < m; omega
      generalize ([] ++ b :: B : List Nat).getLastD 0 = z at h2 ⊢
      rw [decide_eq_false h3, decide_eq_false (show ¬ z < m by omega)]
      exact ⟨by simp, by simp⟩
  | cons a A =>
    have h1 := hA a List.mem_cons_self
    rw [decide_eq_true (show 0 < (a :: A ++ B).length by simp), decide_eq_true (show ((a :: A ++ B).headD 0 < m) from h1), decide_eq_true (show 0 < (a :: A).length by simp)]
    cases B with
    | nil =>
      have h2 : (a :: A ++ []).getLastD 0 < m := by
        refine hA _ ?_
        rw [List.append_nil, List.getLastD_eq_getLast?]
        obtain ⟨x, hx⟩ : ∃ x, (a :: A).getLast? = some x := ⟨_, List.getLast?_eq_some_getLast (by simp)⟩
        rw [hx]
        exact List.mem_of_getLast? hx
      generalize (a :: A ++ []).getLastD 0 = z at h2 ⊢
      rw [decide_eq_true h2, decide_eq_false (show ¬ m ≤ z by omega)]
      exact ⟨rfl, rfl⟩
    | cons b B =>
      have h2 := hB _ (last b B)
      generalize (a :: A ++ b :: B).getLastD 0 = z at h2 ⊢
      rw [decide_eq_true h2, decide_eq_false (show ¬ z < m by omega), decide_eq_true (show 0 < (b :: B).length by simp)]
      exact ⟨rfl, rfl⟩
end Pv
set_option Elab.async false
set_option linter.all false
set_option maxRecDepth 100000
set_option maxHeartbeats 4000000
set_option autoImplicit false
namespace Pv
variable [TabT]
open PySem PySem.Spec PyProof.Rows L2
local macro_rules | `(tactic| walk_at "pv") => `(tactic| simp only [wipe_nil, wipe_cons, sext_eq, sapp_eq, sput_eq, nxE_nx, farsD_n, turnsD_n, insideD_n, fM_eq, netB_n, seqD_d, sdrop_eq, slT_1, slL_1, slS_1, slT_2, slL_2, slS_2, slT_3, slL_3, slS_3, slT_4, slL_4, slS_4, slT_5, slL_5, slS_5, slT_6, slL_6, slS_6, slT_7, slL_7, slS_7, slT_8, slL_8, slS_8, slT_9, slL_9, slS_9, slT_10, slL_10, slS_10, slT_12, slL_12, slS_12, slT_16, slL_16, slS_16, listD_t, listD_l, sseq_eq, seqR_nx, seqR_rt, seqR_ite, endD_ite, bind_ite, sret_eq, sset_eq, sown_eq, sbind_eq, snx_eq, sif_eq, f1_eq, f2_eq, fN_eq, fcons_eq, fnil_eq, kc_eq, tv_eq, tb_eq, boolD_b, tor_eq, tand_eq, tnot_eq, vand_eq, vor_eq, spar_eq, iseq_eq, seqD_l, seqD_t, ienum_eq, enumD_l, enumD_t, irange1_eq, irange2_eq, fch_eq, chL_t, chL_f, fsl_eq, onone_eq, osome_eq, intO_i, sfor_eq, nm_0, nb_0, nbo_0, nm_s, nb_s, obs, obn, ls0, lsS, bindP1, bindT1, bindT2, bindT3, bindT4, tup0, tup1, tup2, tup3, tup4, lst0, lst1, lst2, lst3, lst4, lst5, lst7, lst8, isiD_i, isiD_ib, isiD_is, isiD_in, isiD_it, isiD_il, isiB_i, isiB_b, isiB_s, isiT_i, isiT_b, isiT_s, isiT_n, isiT_t, isiT_l, setE, addD_i, subD_i, negD_i, absD_i, ltD_i, leD_i, gtD_i, geD_i, eqD_i, neD_i, eqD_b, neD_b, isD_b, isntD_b, ixT0, ixT1, ixT2, ixT3, truD_b, truD_t, truD_l, lenD_t, lenD_l, notD_b, tupleD_l, tupleD_t, endD_ret, endD_rt, reduceIte, if_true, if_false, Bool.false_eq_true, Bool.not_true, Bool.not_false, decide_true, decide_false, Bool.true_eq, ne_eq])
local macro_rules | `(tactic| walk_at "pvs") => `(tactic| simp only [*, wipe_nil, wipe_cons, sext_eq, sapp_eq, sput_eq, nxE_nx, farsD_n, turnsD_n, insideD_n, fM_eq, netB_n, seqD_d, sdrop_eq, slT_1, slL_1, slS_1, slT_2, slL_2, slS_2, slT_3, slL_3, slS_3, slT_4, slL_4, slS_4, slT_5, slL_5, slS_5, slT_6, slL_6, slS_6, slT_7, slL_7, slS_7, slT_8, slL_8, slS_8, slT_9, slL_9, slS_9, slT_10, slL_10, slS_10, slT_12, slL_12, slS_12, slT_16, slL_16, slS_16, listD_t, listD_l, mulD_r, mulD_l, modD_i, fdivD_i, sseq_eq, seqR_nx, seqR_rt, seqR_ite, endD_ite, bind_ite, sret_eq, sset_eq, sown_eq, sbind_eq, snx_eq, sif_eq, f1_eq, f2_eq, fN_eq, fcons_eq, fnil_eq, kc_eq, tv_eq, tb_eq, boolD_b, tor_eq, tand_eq, tnot_eq, vand_eq, vor_eq, spar_eq, iseq_eq, seqD_l, seqD_t, ienum_eq, enumD_l, enumD_t, irange1_eq, irange2_eq, fch_eq, chL_t, chL_f, fsl_eq, onone_eq, osome_eq, intO_i, sfor_eq, nm_0, nb_0, nbo_0, nm_s, nb_s, obs, obn, ls0, lsS, bindP1, bindT1, bindT2, bindT3, bindT4, tup0, tup1, tup2, tup3, tup4, lst0, lst1, lst2, lst3, lst4, lst5, lst7, lst8, isiD_i, isiD_ib, isiD_is, isiD_in, isiD_it, isiD_il, isiB_i, isiB_b, isiB_s, isiT_i, isiT_b, isiT_s, isiT_n, isiT_t, isiT_l, setE, addD_i, subD_i, negD_i, absD_i, ltD_i, leD_i, gtD_i, geD_i, eqD_i, neD_i, eqD_b, neD_b, isD_b, isntD_b, ixT0, ixT1, ixT2, ixT3, truD_b, truD_t, truD_l, lenD_t, lenD_l, notD_b, tupleD_l, tupleD_t, endD_ret, endD_rt, reduceIte, if_true, if_false, Bool.false_eq_true, Bool.not_true, Bool.not_false, decide_true, decide_false, Bool.true_eq, ne_eq])
local macro_rules | `(tactic| walk_at "pvo") => `(tactic| simp (disch := omega) only [addD_l, addD_t, rng1D_i, rng2D_i, wipe_nil, wipe_cons, sext_eq, sapp_eq, sput_eq, nxE_nx, farsD_n, turnsD_n, insideD_n, fM_eq, netB_n, seqD_d, sdrop_eq, slT_1, slL_1, slS_1, slT_2, slL_2, slS_2, slT_3, slL_3, slS_3, slT_4, slL_4, slS_4, slT_5, slL_5, slS_5, slT_6, slL_6, slS_6, slT_7, slL_7, slS_7, slT_8, slL_8, slS_8, slT_9, slL_9, slS_9, slT_10, slL_10, slS_10, slT_12, slL_12, slS_12, slT_16, slL_16, slS_16, listD_t, listD_l, mulD_r, mulD_l, modD_i, fdivD_i, sseq_eq, seqR_nx, seqR_rt, seqR_ite, endD_ite, bind_ite, sret_eq, sset_eq, sown_eq, sbind_eq, snx_eq, sif_eq, f1_eq, f2_eq, fN_eq, fcons_eq, fnil_eq, kc_eq, tv_eq, tb_eq, boolD_b, tor_eq, tand_eq, tnot_eq, vand_eq, vor_eq, spar_eq, iseq_eq, seqD_l, seqD_t, ienum_eq, enumD_l, enumD_t, irange1_eq, irange2_eq, fch_eq, chL_t, chL_f, fsl_eq, onone_eq, osome_eq, intO_i, sfor_eq, nm_0, nb_0, nbo_0, nm_s, nb_s, obs, obn, ls0, lsS, bindP1, bindT1, bindT2, bindT3, bindT4, tup0, tup1, tup2, tup3, tup4, lst0, lst1, lst2, lst3, lst4, lst5, lst7, lst8, isiD_i, isiD_ib, isiD_is, isiD_in, isiD_it, isiD_il, isiB_i, isiB_b, isiB_s, isiT_i, isiT_b, isiT_s, isiT_n, isiT_t, isiT_l, setE, addD_i, subD_i, negD_i, absD_i, ltD_i, leD_i, gtD_i, geD_i, eqD_i, neD_i, eqD_b, neD_b, isD_b, isntD_b, ixT0, ixT1, ixT2, ixT3, truD_b, truD_t, truD_l, lenD_t, lenD_l, notD_b, tupleD_l, tupleD_t, endD_ret, endD_rt, reduceIte, if_true, if_false, Bool.false_eq_true, Bool.not_true, Bool.not_false, decide_true, decide_false, Bool.true_eq, ne_eq])
/-! ### covered by small cells -/
theorem wPl_ne {s : List Pc} : ∀ c, wPl s c = true → LYc s c ≠ [] := fun c h z => by
  unfold wPl at h
  rw [z] at h
  cases h
theorem wBo_ne {m : Nat} {s : List Pc} : ∀ c, wBo m s c = true → LYc s c ≠ [] := fun c h z => by
  unfold wBo at h
  rw [z] at h
  cases h
theorem wCu_ne {m : Nat} {s : List Pc} : ∀ c, wCu m s c = true → LYc s c ≠ [] := fun c h z => by
  unfold wCu at h
  rw [z] at h
  cases h
section
variable {M : Nat} {s s1 s2 : List Pc} {r t : Nat}
theorem plain_fine (hs : ∀ q ∈ s, q.Ok (M : Int)) (hr : r < M + 2) (ht : t < 24) : (LY (pcs s (wPl s)) (r : Int) (t : Int)).length = if cov s (r : Int) (t : Int) = true then 1 else 0 := by
  rw [pcs_count hs wPl_ne ht]
  unfold wPl
  rw [LYc_fine hs hr ht, cov_len]
theorem parts12 (r t : Int) : (decide (0 < (LY (s1 ++ s2) r t).length) && (decide ((LY (s1 ++ s2) r t).headD 0 < s1.length) && decide (s1.length ≤ (LY (s1 ++ s2) r t).getLastD 0))) = (cov s1 r t && cov s2 r t) ∧ (decide (0 < (LY (s1 ++ s2) r t).length) && decide ((LY (s1 ++ s2) r t).getLastD 0 < s1.length)) = (cov s1 r t && !cov s2 r t) := by
  have e := rest_len (s1 := s1) (s2 := s2) (r := r) (t := t)
  rw [LY_app] at e ⊢
  have hB : (((s2.zipIdx s1.length).filter fun q => inC q.1 r t).map Prod.snd).length = (LY s2 r t).length := by
    rw [List.length_append] at e; omega
  have h := two_parts (m := s1.length) (A := LY s1 r t) (B := ((s2.zipIdx s1.length).filter fun q => inC q.1 r t).map Prod.snd) LY_lt fun x hx => by
    obtain ⟨p, hp, rfl⟩ := List.mem_map.mp hx
    exact List.le_snd_of_mem_zipIdx (List.mem_filter.mp hp).1
  rw [hB, cov_len, cov_len] at h
  exact h
theorem both_fine (h1 : ∀ q ∈ s1, q.Ok (M : Int)) (h2 : ∀ q ∈ s2, q.Ok (M : Int)) (hr : r < M + 2) (ht : t < 24) : (LY (pcs (s1 ++ s2) (wBo s1.length (s1 ++ s2))) (r : Int) (t : Int)).length = if (cov s1 (r : Int) (t : Int) && cov s2 (r : Int) (t : Int)) = true then 1 else 0 := by
  have hs : ∀ q ∈ s1 ++ s2, q.Ok (M : Int) := fun q hq => (List.mem_append.mp hq).elim (h1 q) (h2 q)
  rw [pcs_count hs wBo_ne ht]
  unfold wBo
  rw [LYc_fine hs hr ht, (parts12 _ _).1]
theorem cut_fine (h1 : ∀ q ∈ s1, q.Ok (M : Int)) (h2 : ∀ q ∈ s2, q.Ok (M : Int)) (hr : r < M + 2) (ht : t < 24) : (LY (pcs (s1 ++ s2) (wCu s1.length (s1 ++ s2))) (r : Int) (t : Int)).length = if (cov s1 (r : Int) (t : Int) && !cov s2 (r : Int) (t : Int)) = true then 1 else 0 := by
  have hs : ∀ q ∈ s1 ++ s2, q.Ok (M : Int) := fun q hq => (List.mem_append.mp hq).elim (h1 q) (h2 q)
  rw [pcs_count hs wCu_ne ht]
  unfold wCu
  rw [LYc_fine hs hr ht, (parts12 _ _).2]
theorem cov_of {X : List Pc} {r t : Int} {b : Bool} (h : (LY X r t).length = if b = true then 1 else 0) : cov X r t = b := by
  rw [← cov_len, h]
  cases b <;> rfl
theorem cov_app {X Y : List Pc} {r t : Int} : cov (X ++ Y) r t = (cov X r t || cov Y r t) := List.any_append
theorem unlike_none {X Y : List Pc} (hX : ∀ q ∈ X, q.Ok ((6 : Nat) : Int)) (hY : ∀ q ∈ Y, q.Ok ((6 : Nat) : Int)) (hl : X.length + Y.length ≤ 300) (h : ∀ r t : Nat, r < 7 → t < 24 → cov X (r : Int) (t : Int) = cov Y (r : Int) (t : Int)) : c_unlike [eS X, eS Y] = some .non := by
  refine (c_unlike_t (m := ((6 : Nat) : Int)) (by decide) hX hY hl).2 ((dif_iff hX hY).mpr ?_)
  rw [List.filter_eq_nil_iff]
  intro c hc
  obtain ⟨h1, h2⟩ := mem_cells.mp hc
  unfold dif
  rw [h c.1 c.2 h1 h2]
  simp
theorem covers_t {X : List Pc} (hX : ∀ q ∈ X, q.Ok ((6 : Nat) : Int)) (hl : X.length ≤ 300) {g : List (Nat × Nat)} (h : ∀ r t : Nat, r < 7 → t < 24 → (LY X (r : Int) (t : Int)).length = if (r, t) ∈ g then 1 else 0) : c__law_covers [eS X, .lst (g.map eC), .int 6] = some (.bl true) := by
  rw [st__law_covers]
  unfold F__law_covers
  walk_at "pv"
  rw [cells6 hX hl]
  walk_at "pv"
  rw [show (dgrid (6 + 1) 24 (fineF X)).map (fun p => D.tup (p.1.map D.int)) = (cellsG 7 24).map eC by rw [map_grid, map_grid]; rfl]
  refine endP_seq (nxP_for eC (I := fun ρ => ∃ x4, ρ = [.sh (eS X), .sh (.lst (g.map eC)), .sh (.int 6), .sh (.dct (dgrid (6 + 1) 24 (fineF X))), x4]) (cellsG 7 24) (fun c hc ρ hρ => ?_) ⟨_, rfl⟩) fun ρ hρ => ?_
  · obtain ⟨x4, rfl⟩ := hρ
    obtain ⟨h1, h2⟩ := mem_cells.mp hc
    refine ⟨_, bindP1, ?_⟩
    have e1 := fine_at (s := X) (M := 6) (c := c) (by omega) h2
    have e2 : inD (eC c) (.lst (g.map eC)) = some (.bl (decide (c ∈ g))) := inD_g
    walk_at "pv"
    rw [e1, e2]
    walk_at "pv"
    rw [lenD_eL]
    walk_at "pv"
    have e3 : intD (.bl (decide (c ∈ g))) = some (.int (if c ∈ g then 1 else 0)) := by
      by_cases hg : c ∈ g
      · rw [decide_eq_true hg, if_pos hg]; rfl
      · rw [decide_eq_false hg, if_neg hg]; rfl
    rw [e3]
    walk_at "pv"
    have h3 := h c.1 c.2 h1 h2
    have e4 : ((((LY X (c.1 : Int) (c.2 : Int)).length : Nat) : Int) == (if c ∈ g then 1 else 0)) = true := by
      rw [h3]
      by_cases hg : c ∈ g
      · rw [if_pos hg, if_pos hg]; rfl
      · rw [if_neg hg, if_neg hg]; rfl
    rw [e4]
    exact nxP_nx ⟨_, rfl⟩
  · obtain ⟨x4, rfl⟩ := hρ
    walk_at "pv"
theorem area_sum {X Y Z : List Pc} (hl1 : ∀ r t : Nat, r < 7 → t < 24 → ind (0 < (LY X (r : Int) (t : Int)).length) + ind (0 < (LY Y (r : Int) (t : Int)).length) = ind (0 < (LY Z (r : Int) (t : Int)).length)) : covM 6 X + covM 6 Y = covM 6 Z := by
  unfold covM
  rw [← fine_add]
  exact fine_congr fun r t hr ht => hl1 r t hr ht
end
end Pv
set_option Elab.async false
set_option linter.all false
set_option maxRecDepth 100000
set_option maxHeartbeats 4000000
set_option autoImplicit false
namespace Pv
variable [TabT]
open PySem PySem.Spec PyProof.Rows L2
local macro_rules | `(tactic| walk_at "pv") => `(tactic| simp only [wipe_nil, wipe_cons, sext_eq, sapp_eq, sput_eq, nxE_nx, farsD_n, turnsD_n, insideD_n, fM_eq, netB_n, seqD_d, sdrop_eq, slT_1, slL_1, slS_1, slT_2, slL_2, slS_2, slT_3, slL_3, slS_3, slT_4, slL_4, slS_4, slT_5, slL_5, slS_5, slT_6, slL_6, slS_6, slT_7, slL_7, slS_7, slT_8, slL_8, slS_8, slT_9, slL_9, slS_9, slT_10, slL_10, slS_10, slT_12, slL_12, slS_12, slT_16, slL_16, slS_16, listD_t, listD_l, sseq_eq, seqR_nx, seqR_rt, seqR_ite, endD_ite, bind_ite, sret_eq, sset_eq, sown_eq, sbind_eq, snx_eq, sif_eq, f1_eq, f2_eq, fN_eq, fcons_eq, fnil_eq, kc_eq, tv_eq, tb_eq, boolD_b, tor_eq, tand_eq, tnot_eq, vand_eq, vor_eq, spar_eq, iseq_eq, seqD_l, seqD_t, ienum_eq, enumD_l, enumD_t, irange1_eq, irange2_eq, fch_eq, chL_t, chL_f, fsl_eq, onone_eq, osome_eq, intO_i, sfor_eq, nm_0, nb_0, nbo_0, nm_s, nb_s, obs, obn, ls0, lsS, bindP1, bindT1, bindT2, bindT3, bindT4, tup0, tup1, tup2, tup3, tup4, lst0, lst1, lst2, lst3, lst4, lst5, lst7, lst8, isiD_i, isiD_ib, isiD_is, isiD_in, isiD_it, isiD_il, isiB_i, isiB_b, isiB_s, isiT_i, isiT_b, isiT_s, isiT_n, isiT_t, isiT_l, setE, addD_i, subD_i, negD_i, absD_i, ltD_i, leD_i, gtD_i, geD_i, eqD_i, neD_i, eqD_b, neD_b, isD_b, isntD_b, ixT0, ixT1, ixT2, ixT3, truD_b, truD_t, truD_l, lenD_t, lenD_l, notD_b, tupleD_l, tupleD_t, endD_ret, endD_rt, reduceIte, if_true, if_false, Bool.false_eq_true, Bool.not_true, Bool.not_false, decide_true, decide_false, Bool.true_eq, ne_eq])
local macro_rules | `(tactic| walk_at "pvs") => `(tactic| simp only [*, wipe_nil, wipe_cons, sext_eq, sapp_eq, sput_eq, nxE_nx, farsD_n, turnsD_n, insideD_n, fM_eq, netB_n, seqD_d, sdrop_eq, slT_1, slL_1, slS_1, slT_2, slL_2, slS_2, slT_3, slL_3, slS_3, slT_4, slL_4, slS_4, slT_5, slL_5, slS_5, slT_6, slL_6, slS_6, slT_7, slL_7, slS_7, slT_8, slL_8, slS_8, slT_9, slL_9, slS_9, slT_10, slL_10, slS_10, slT_12, slL_12, slS_12, slT_16, slL_16, slS_16, listD_t, listD_l, mulD_r, mulD_l, modD_i, fdivD_i, sseq_eq, seqR_nx, seqR_rt, seqR_ite, endD_ite, bind_ite, sret_eq, sset_eq, sown_eq, sbind_eq, snx_eq, sif_eq, f1_eq, f2_eq, fN_eq, fcons_eq, fnil_eq, kc_eq, tv_eq, tb_eq, boolD_b, tor_eq, tand_eq, tnot_eq, vand_eq, vor_eq, spar_eq, iseq_eq, seqD_l, seqD_t, ienum_eq, enumD_l, enumD_t, irange1_eq, irange2_eq, fch_eq, chL_t, chL_f, fsl_eq, onone_eq, osome_eq, intO_i, sfor_eq, nm_0, nb_0, nbo_0, nm_s, nb_s, obs, obn, ls0, lsS, bindP1, bindT1, bindT2, bindT3, bindT4, tup0, tup1, tup2, tup3, tup4, lst0, lst1, lst2, lst3, lst4, lst5, lst7, lst8, isiD_i, isiD_ib, isiD_is, isiD_in, isiD_it, isiD_il, isiB_i, isiB_b, isiB_s, isiT_i, isiT_b, isiT_s, isiT_n, isiT_t, isiT_l, setE, addD_i, subD_i, negD_i, absD_i, ltD_i, leD_i, gtD_i, geD_i, eqD_i, neD_i, eqD_b, neD_b, isD_b, isntD_b, ixT0, ixT1, ixT2, ixT3, truD_b, truD_t, truD_l, lenD_t, lenD_l, notD_b, tupleD_l, tupleD_t, endD_ret, endD_rt, reduceIte, if_true, if_false, Bool.false_eq_true, Bool.not_true, Bool.not_false, decide_true, decide_false, Bool.true_eq, ne_eq])
local macro_rules | `(tactic| walk_at "pvo") => `(tactic| simp (disch := omega) only [addD_l, addD_t, rng1D_i, rng2D_i, wipe_nil, wipe_cons, sext_eq, sapp_eq, sput_eq, nxE_nx, farsD_n, turnsD_n, insideD_n, fM_eq, netB_n, seqD_d, sdrop_eq, slT_1, slL_1, slS_1, slT_2, slL_2, slS_2, slT_3, slL_3, slS_3, slT_4, slL_4, slS_4, slT_5, slL_5, slS_5, slT_6, slL_6, slS_6, slT_7, slL_7, slS_7, slT_8, slL_8, slS_8, slT_9, slL_9, slS_9, slT_10, slL_10, slS_10, slT_12, slL_12, slS_12, slT_16, slL_16, slS_16, listD_t, listD_l, mulD_r, mulD_l, modD_i, fdivD_i, sseq_eq, seqR_nx, seqR_rt, seqR_ite, endD_ite, bind_ite, sret_eq, sset_eq, sown_eq, sbind_eq, snx_eq, sif_eq, f1_eq, f2_eq, fN_eq, fcons_eq, fnil_eq, kc_eq, tv_eq, tb_eq, boolD_b, tor_eq, tand_eq, tnot_eq, vand_eq, vor_eq, spar_eq, iseq_eq, seqD_l, seqD_t, ienum_eq, enumD_l, enumD_t, irange1_eq, irange2_eq, fch_eq, chL_t, chL_f, fsl_eq, onone_eq, osome_eq, intO_i, sfor_eq, nm_0, nb_0, nbo_0, nm_s, nb_s, obs, obn, ls0, lsS, bindP1, bindT1, bindT2, bindT3, bindT4, tup0, tup1, tup2, tup3, tup4, lst0, lst1, lst2, lst3, lst4, lst5, lst7, lst8, isiD_i, isiD_ib, isiD_is, isiD_in, isiD_it, isiD_il, isiB_i, isiB_b, isiB_s, isiT_i, isiT_b, isiT_s, isiT_n, isiT_t, isiT_l, setE, addD_i, subD_i, negD_i, absD_i, ltD_i, leD_i, gtD_i, geD_i, eqD_i, neD_i, eqD_b, neD_b, isD_b, isntD_b, ixT0, ixT1, ixT2, ixT3, truD_b, truD_t, truD_l, lenD_t, lenD_l, notD_b, tupleD_l, tupleD_t, endD_ret, endD_rt, reduceIte, if_true, if_false, Bool.false_eq_true, Bool.not_true, Bool.not_false, decide_true, decide_false, Bool.true_eq, ne_eq])
/-! ### turned, mirrored, grown -/
def turnQ (b : Int) (q : Pc) : Pc := ⟨q.i, q.o, (q.b + b) % 24, q.w⟩
def mirrQ (q : Pc) : Pc := ⟨q.i, q.o, (-q.b - q.w) % 24, q.w⟩
def growQ (k : Int) (q : Pc) : Pc := ⟨k * q.i, k * q.o, q.b, q.w⟩
theorem turnQ_ok {m b : Int} {q : Pc} (h : q.Ok m) : (turnQ b q).Ok m := ⟨h.i0, h.io, h.om, Int.emod_nonneg _ (by decide), Int.emod_lt_of_pos _ (by decide), h.w0, h.w1⟩
theorem mirrQ_ok {m : Int} {q : Pc} (h : q.Ok m) : (mirrQ q).Ok m := ⟨h.i0, h.io, h.om, Int.emod_nonneg _ (by decide), Int.emod_lt_of_pos _ (by decide), h.w0, h.w1⟩
theorem growQ_ok {m k : Int} {q : Pc} (hk : 0 < k) (h : q.Ok m) : (growQ k q).Ok (k * m) :=
  ⟨Int.mul_nonneg (by omega) h.i0, Int.mul_lt_mul_of_pos_left h.io hk, Int.mul_le_mul_of_nonneg_left h.om (by omega), h.b0, h.b1, h.w0, h.w1⟩
theorem inC_tq {q : Pc} {b r t : Int} : inC (turnQ b q) r t = inC q r ((t - b) % 24) := by
  unfold inC turnQ
  simp only
  rw [show (t - (q.b + b) % 24) % 24 = ((t - b) % 24 - q.b) % 24 by omega]
theorem inC_mirr {m : Int} {q : Pc} (h : q.Ok m) {r t : Int} : inC (mirrQ q) r t = inC q r (23 - t) := by
  have := h.w0; have := h.w1
  unfold inC mirrQ
  simp only
  rw [decide_eq_decide.mpr (show (t - (-q.b - q.w) % 24) % 24 < q.w ↔ (23 - t - q.b) % 24 < q.w by omega)]
theorem inC_grow {q : Pc} {k r t : Int} (hk : 0 < k) : inC (growQ k q) (k * r) t = inC q r t := by
  unfold inC growQ
  simp only
  rw [decide_eq_decide.mpr (show k * q.i ≤ k * r ↔ q.i ≤ r from ⟨fun h => Int.le_of_mul_le_mul_left h hk, fun h => Int.mul_le_mul_of_nonneg_left h (by omega)⟩),
    decide_eq_decide.mpr (show k * r < k * q.o ↔ r < q.o from ⟨fun h => Int.lt_of_mul_lt_mul_left h (by omega), fun h => Int.mul_lt_mul_of_pos_left h hk⟩)]
theorem zip_map_filter {f : Pc → Pc} {p p' : Pc → Bool} : ∀ (s : List Pc) (k : Nat), (∀ q ∈ s, p' (f q) = p q) → (((s.map f).zipIdx k).filter fun q => p' q.1).map Prod.snd = ((s.zipIdx k).filter fun q => p q.1).map Prod.snd
  | [], _, _ => rfl
  | q :: s, k, h => by
    have ih := zip_map_filter s (k + 1) fun x hx => h x (List.mem_cons_of_mem _ hx)
    rw [List.map_cons, List.zipIdx_cons, List.zipIdx_cons, List.filter_cons, List.filter_cons]
    have e := h q List.mem_cons_self
    show ((if p' (f q) = true then _ else _ : List (Pc × Nat))).map Prod.snd = _
    rw [e]
    cases hp : p q with
    | true => rw [if_pos rfl, if_pos rfl, List.map_cons, List.map_cons, ih]
    | false => rw [if_neg Bool.false_ne_true, if_neg Bool.false_ne_true, ih]
theorem LY_map {f : Pc → Pc} {s : List Pc} {r t r' t' : Int} (h : ∀ q ∈ s, inC (f q) r t = inC q r' t') : LY (s.map f) r t = LY s r' t' := zip_map_filter (p := fun q => inC q r' t') (p' := fun q => inC q r t) s 0 h
/-! a turn of the round -/
structure Sym (σ τ ρ : Nat → Nat) : Prop where
  lσ : ∀ t, t < 24 → σ t < 24
  lτ : ∀ t, t < 24 → τ t < 24
  τσ : ∀ t, t < 24 → τ (σ t) = t
  στ : ∀ t, t < 24 → σ (τ t) = t
  aσ : ∀ t, t < 24 → (σ (nxt 24 t) = nxt 24 (σ t) ∧ σ (prv 24 t) = prv 24 (σ t)) ∨ (σ (nxt 24 t) = prv 24 (σ t) ∧ σ (prv 24 t) = nxt 24 (σ t))
  aτ : ∀ t, t < 24 → (τ (nxt 24 t) = nxt 24 (τ t) ∧ τ (prv 24 t) = prv 24 (τ t)) ∨ (τ (nxt 24 t) = prv 24 (τ t) ∧ τ (prv 24 t) = nxt 24 (τ t))
  pσ : ((List.range 24).map σ).Perm (List.range 24)
  pρ : ((List.range 24).map ρ).Perm (List.range 24)
  li : ∀ t, t < 24 → (σ t = ρ t ∧ σ (nxt 24 t) = nxt 24 (ρ t)) ∨ (σ t = nxt 24 (ρ t) ∧ σ (nxt 24 t) = ρ t)
theorem sym_turn (b : Nat) (hb : b < 24) : Sym (fun t => (t + (24 - b)) % 24) (fun t => (t + b) % 24) (fun t => (t + (24 - b)) % 24) := by
  have lt : ∀ t, t < 24 → t ∈ List.range 24 := fun t h => List.mem_range.mpr h
  have all : ∀ b ∈ List.range 24, (((List.range 24).map fun t => (t + (24 - b)) % 24).Perm (List.range 24)) := by decide +kernel
  have nx : ∀ t, t < 24 → nxt 24 t = (t + 1) % 24 := fun t h => by unfold nxt; split <;> omega
  have pv : ∀ t, t < 24 → prv 24 t = (t + 23) % 24 := fun t h => by unfold prv; split <;> omega
  refine ⟨fun t h => Nat.mod_lt _ (by decide), fun t h => Nat.mod_lt _ (by decide), fun t h => ?_, fun t h => ?_, fun t h => .inl ⟨?_, ?_⟩, fun t h => .inl ⟨?_, ?_⟩, all b (lt b hb), all b (lt b hb), fun t h => .inl ⟨rfl, ?_⟩⟩
  · show ((t + (24 - b)) % 24 + b) % 24 = t
    omega
  · show ((t + b) % 24 + (24 - b)) % 24 = t
    omega
  · rw [nx t h, nx _ (Nat.mod_lt _ (by decide))]; show ((t + 1) % 24 + (24 - b)) % 24 = ((t + (24 - b)) % 24 + 1) % 24; omega
  · rw [pv t h, pv _ (Nat.mod_lt _ (by decide))]; show ((t + 23) % 24 + (24 - b)) % 24 = ((t + (24 - b)) % 24 + 23) % 24; omega
  · rw [nx t h, nx _ (Nat.mod_lt _ (by decide))]; show ((t + 1) % 24 + b) % 24 = ((t + b) % 24 + 1) % 24; omega
  · rw [pv t h, pv _ (Nat.mod_lt _ (by decide))]; show ((t + 23) % 24 + b) % 24 = ((t + b) % 24 + 23) % 24; omega
  · rw [nx t h, nx _ (Nat.mod_lt _ (by decide))]; show ((t + 1) % 24 + (24 - b)) % 24 = ((t + (24 - b)) % 24 + 1) % 24; omega
theorem sym_mirr : Sym (fun t => 23 - t) (fun t => 23 - t) (fun t => prv 24 (23 - t)) := by
  have lt : ∀ t, t < 24 → t ∈ List.range 24 := fun t h => List.mem_range.mpr h
  have al : ∀ t ∈ List.range 24, 23 - nxt 24 t = prv 24 (23 - t) ∧ 23 - prv 24 t = nxt 24 (23 - t) := by decide +kernel
  exact ⟨fun t h => by omega, fun t h => by omega, fun t h => by omega, fun t h => by omega, fun t h => .inr (al t (lt t h)), fun t h => .inr (al t (lt t h)), by decide +kernel, by decide +kernel, fun t h => .inr ⟨(prv_nxt (by omega)).symm, (al t (lt t h)).1⟩⟩
/-! a sheet whose cells are another's, turned -/
structure SymS (s X : List Pc) (σ τ ρ : Nat → Nat) : Prop where
  y : Sym σ τ ρ
  len : X.length = s.length
  ok : ∀ q ∈ X, q.Ok ((6 : Nat) : Int)
  ly : ∀ r t : Nat, t < 24 → LY X (r : Int) (t : Int) = LY s (r : Int) (σ t : Int)
theorem sums_turn {s : List Pc} (hs : ∀ q ∈ s, q.Ok ((6 : Nat) : Int)) (b : Int) : ∃ σ τ ρ, SymS s (s.map (turnQ b)) σ τ ρ := by
  obtain ⟨n, hn⟩ := Int.ex_nat (a := b % 24) (Int.emod_nonneg _ (by decide))
  have hl : n < 24 := by have := Int.emod_lt_of_pos b (show (0 : Int) < 24 by decide); omega
  refine ⟨_, _, _, sym_turn n hl, List.length_map _, fun q hq => ?_, fun r t ht => LY_map fun q hq => ?_⟩
  · obtain ⟨x, hx, rfl⟩ := List.mem_map.mp hq
    exact turnQ_ok (hs x hx)
  · rw [inC_tq]
    congr 1
    omega
theorem sums_mirr {s : List Pc} (hs : ∀ q ∈ s, q.Ok ((6 : Nat) : Int)) : ∃ σ τ ρ, SymS s (s.map mirrQ) σ τ ρ := by
  refine ⟨_, _, _, sym_mirr, List.length_map _, fun q hq => ?_, fun r t ht => LY_map fun q hq => ?_⟩
  · obtain ⟨x, hx, rfl⟩ := List.mem_map.mp hq
    exact mirrQ_ok (hs x hx)
  · rw [inC_mirr (hs q hq)]
    congr 1
    omega
theorem sumN_perm {σ : Nat → Nat} (h : ((List.range 24).map σ).Perm (List.range 24)) (φ : Nat → Int) : sumN 24 (fun t => φ (σ t)) = sumN 24 φ := by
  rw [← range_sum, ← range_sum, show (List.range 24).map (fun t => φ (σ t)) = ((List.range 24).map σ).map φ by rw [List.map_map]; rfl]
  exact perm_sum (h.map φ)
section
variable {s X : List Pc} {σ τ ρ : Nat → Nat}
theorem SymS.cov (y : SymS s X σ τ ρ) {r t : Nat} (ht : t < 24) : Pv.cov X (r : Int) (t : Int) = Pv.cov s (r : Int) (σ t : Int) := by rw [← cov_len, ← cov_len, y.ly r t ht]
theorem SymS.depth (y : SymS s X σ τ ρ) (hs : ∀ q ∈ s, q.Ok ((6 : Nat) : Int)) : depthM X = depthM s := by
  rw [depthM_eq y.ok, depthM_eq hs, y.len]
  refine List.map_congr_left fun i _ => ?_
  unfold cntM fine
  refine sumN_congr fun r _ => ?_
  rw [← sumN_perm y.y.pσ fun t => ind ((LY s (r : Int) (t : Int)).length = i + 1) * (2 * (r : Int) + 1)]
  exact sumN_congr fun t ht => by
    show ind ((LY X (r : Int) (t : Int)).length = i + 1) * _ = _
    rw [y.ly r t ht]
theorem SymS.arcs (y : SymS s X σ τ ρ) (hs : ∀ q ∈ s, q.Ok ((6 : Nat) : Int)) : ((cellsB X).map (arcC X)).sum = ((cellsB s).map (arcC s)).sum := by
  rw [arcs_eq y.ok, arcs_eq hs, grid_sum, grid_sum]
  refine sumN_congr fun r _ => ?_
  rw [← sumN_perm y.y.pσ fun t => arcF s (r, t)]
  refine sumN_congr fun t ht => ?_
  unfold arcF mvF
  rw [y.cov ht, y.cov ht]
theorem SymS.lines (y : SymS s X σ τ ρ) (hs : ∀ q ∈ s, q.Ok ((6 : Nat) : Int)) : ((cellsB X).map (lineC X)).sum = ((cellsB s).map (lineC s)).sum := by
  rw [lines_eq y.ok, lines_eq hs, grid_sum, grid_sum]
  refine sumN_congr fun r _ => ?_
  rw [← sumN_perm y.y.pρ fun t => lineF s (r, t)]
  refine sumN_congr fun t ht => ?_
  unfold lineF mvF
  simp only
  rw [y.cov ht, y.cov (nxt_lt ht)]
  rcases y.y.li t ht with ⟨e1, e2⟩ | ⟨e1, e2⟩
  · rw [e1, e2]
  · rw [e1, e2]
    simp only [ne_eq, eq_comm]
end
end Pv
set_option Elab.async false
set_option linter.all false
set_option maxRecDepth 100000
set_option maxHeartbeats 4000000
set_option autoImplicit false
namespace Pv
variable [TabT]
open PySem PySem.Spec PyProof.Rows L2
local macro_rules | `(tactic| walk_at "pv") => `(tactic| simp only [wipe_nil, wipe_cons, sext_eq, sapp_eq, sput_eq, nxE_nx, farsD_n, turnsD_n, insideD_n, fM_eq, netB_n, seqD_d, sdrop_eq, slT_1, slL_1, slS_1, slT_2, slL_2, slS_2, slT_3, slL_3, slS_3, slT_4, slL_4, slS_4, slT_5, slL_5, slS_5, slT_6, slL_6, slS_6, slT_7, slL_7, slS_7, slT_8, slL_8, slS_8, slT_9, slL_9, slS_9, slT_10, slL_10, slS_10, slT_12, slL_12, slS_12, slT_16, slL_16, slS_16, listD_t, listD_l, sseq_eq, seqR_nx, seqR_rt, seqR_ite, endD_ite, bind_ite, sret_eq, sset_eq, sown_eq, sbind_eq, snx_eq, sif_eq, f1_eq, f2_eq, fN_eq, fcons_eq, fnil_eq, kc_eq, tv_eq, tb_eq, boolD_b, tor_eq, tand_eq, tnot_eq, vand_eq, vor_eq, spar_eq, iseq_eq, seqD_l, seqD_t, ienum_eq, enumD_l, enumD_t, irange1_eq, irange2_eq, fch_eq, chL_t, chL_f, fsl_eq, onone_eq, osome_eq, intO_i, sfor_eq, nm_0, nb_0, nbo_0, nm_s, nb_s, obs, obn, ls0, lsS, bindP1, bindT1, bindT2, bindT3, bindT4, tup0, tup1, tup2, tup3, tup4, lst0, lst1, lst2, lst3, lst4, lst5, lst7, lst8, isiD_i, isiD_ib, isiD_is, isiD_in, isiD_it, isiD_il, isiB_i, isiB_b, isiB_s, isiT_i, isiT_b, isiT_s, isiT_n, isiT_t, isiT_l, setE, addD_i, subD_i, negD_i, absD_i, ltD_i, leD_i, gtD_i, geD_i, eqD_i, neD_i, eqD_b, neD_b, isD_b, isntD_b, ixT0, ixT1, ixT2, ixT3, truD_b, truD_t, truD_l, lenD_t, lenD_l, notD_b, tupleD_l, tupleD_t, endD_ret, endD_rt, reduceIte, if_true, if_false, Bool.false_eq_true, Bool.not_true, Bool.not_false, decide_true, decide_false, Bool.true_eq, ne_eq])
local macro_rules | `(tactic| walk_at "pvs") => `(tactic| simp only [*, wipe_nil, wipe_cons, sext_eq, sapp_eq, sput_eq, nxE_nx, farsD_n, turnsD_n, insideD_n, fM_eq, netB_n, seqD_d, sdrop_eq, slT_1, slL_1, slS_1, slT_2, slL_2, slS_2, slT_3, slL_3, slS_3, slT_4, slL_4, slS_4, slT_5, slL_5, slS_5, slT_6, slL_6, slS_6, slT_7, slL_7, slS_7, slT_8, slL_8, slS_8, slT_9, slL_9, slS_9, slT_10, slL_10, slS_10, slT_12, slL_12, slS_12, slT_16, slL_16, slS_16, listD_t, listD_l, mulD_r, mulD_l, modD_i, fdivD_i, sseq_eq, seqR_nx, seqR_rt, seqR_ite, endD_ite, bind_ite, sret_eq, sset_eq, sown_eq, sbind_eq, snx_eq, sif_eq, f1_eq, f2_eq, fN_eq, fcons_eq, fnil_eq, kc_eq, tv_eq, tb_eq, boolD_b, tor_eq, tand_eq, tnot_eq, vand_eq, vor_eq, spar_eq, iseq_eq, seqD_l, seqD_t, ienum_eq, enumD_l, enumD_t, irange1_eq, irange2_eq, fch_eq, chL_t, chL_f, fsl_eq, onone_eq, osome_eq, intO_i, sfor_eq, nm_0, nb_0, nbo_0, nm_s, nb_s, obs, obn, ls0, lsS, bindP1, bindT1, bindT2, bindT3, bindT4, tup0, tup1, tup2, tup3, tup4, lst0, lst1, lst2, lst3, lst4, lst5, lst7, lst8, isiD_i, isiD_ib, isiD_is, isiD_in, isiD_it, isiD_il, isiB_i, isiB_b, isiB_s, isiT_i, isiT_b, isiT_s, isiT_n, isiT_t, isiT_l, setE, addD_i, subD_i, negD_i, absD_i, ltD_i, leD_i, gtD_i, geD_i, eqD_i, neD_i, eqD_b, neD_b, isD_b, isntD_b, ixT0, ixT1, ixT2, ixT3, truD_b, truD_t, truD_l, lenD_t, lenD_l, notD_b, tupleD_l, tupleD_t, endD_ret, endD_rt, reduceIte, if_true, if_false, Bool.false_eq_true, Bool.not_true, Bool.not_false, decide_true, decide_false, Bool.true_eq, ne_eq])
local macro_rules | `(tactic| walk_at "pvo") => `(tactic| simp (disch := omega) only [addD_l, addD_t, rng1D_i, rng2D_i, wipe_nil, wipe_cons, sext_eq, sapp_eq, sput_eq, nxE_nx, farsD_n, turnsD_n, insideD_n, fM_eq, netB_n, seqD_d, sdrop_eq, slT_1, slL_1, slS_1, slT_2, slL_2, slS_2, slT_3, slL_3, slS_3, slT_4, slL_4, slS_4, slT_5, slL_5, slS_5, slT_6, slL_6, slS_6, slT_7, slL_7, slS_7, slT_8, slL_8, slS_8, slT_9, slL_9, slS_9, slT_10, slL_10, slS_10, slT_12, slL_12, slS_12, slT_16, slL_16, slS_16, listD_t, listD_l, mulD_r, mulD_l, modD_i, fdivD_i, sseq_eq, seqR_nx, seqR_rt, seqR_ite, endD_ite, bind_ite, sret_eq, sset_eq, sown_eq, sbind_eq, snx_eq, sif_eq, f1_eq, f2_eq, fN_eq, fcons_eq, fnil_eq, kc_eq, tv_eq, tb_eq, boolD_b, tor_eq, tand_eq, tnot_eq, vand_eq, vor_eq, spar_eq, iseq_eq, seqD_l, seqD_t, ienum_eq, enumD_l, enumD_t, irange1_eq, irange2_eq, fch_eq, chL_t, chL_f, fsl_eq, onone_eq, osome_eq, intO_i, sfor_eq, nm_0, nb_0, nbo_0, nm_s, nb_s, obs, obn, ls0, lsS, bindP1, bindT1, bindT2, bindT3, bindT4, tup0, tup1, tup2, tup3, tup4, lst0, lst1, lst2, lst3, lst4, lst5, lst7, lst8, isiD_i, isiD_ib, isiD_is, isiD_in, isiD_it, isiD_il, isiB_i, isiB_b, isiB_s, isiT_i, isiT_b, isiT_s, isiT_n, isiT_t, isiT_l, setE, addD_i, subD_i, negD_i, absD_i, ltD_i, leD_i, gtD_i, geD_i, eqD_i, neD_i, eqD_b, neD_b, isD_b, isntD_b, ixT0, ixT1, ixT2, ixT3, truD_b, truD_t, truD_l, lenD_t, lenD_l, notD_b, tupleD_l, tupleD_t, endD_ret, endD_rt, reduceIte, if_true, if_false, Bool.false_eq_true, Bool.not_true, Bool.not_false, decide_true, decide_false, Bool.true_eq, ne_eq])
/-! ### parts under a turn -/
section
variable {α γ : Type}
theorem conn_map {V : List α} {adj : α → List α} {m m' : α → γ} {g : α → α} (G : Gr V adj) (hadj : ∀ x ∈ V, ∀ y ∈ adj x, g y ∈ adj (g x)) (hm : ∀ x ∈ V, m' (g x) = m x) {x y : α} (hx : x ∈ V) (h : Conn adj m x y) : Conn adj m' (g x) (g y) := by
  induction h with
  | refl => exact .refl _
  | @step y z h1 a e ih =>
    have hy := h1.inV G hx
    have hz := G.inn _ hy _ a
    exact .step ih (hadj _ hy _ a) (by rw [hm _ hz, hm _ hy, e])
theorem parts_map {V : List α} {adj : α → List α} {m m' : α → γ} {f g : α → α} (G : Gr V adj) (gV : ∀ x ∈ V, g x ∈ V) (fV : ∀ x ∈ V, f x ∈ V) (fg : ∀ x ∈ V, f (g x) = x) (gf : ∀ x ∈ V, g (f x) = x) (ga : ∀ x ∈ V, ∀ y ∈ adj x, g y ∈ adj (g x)) (fa : ∀ x ∈ V, ∀ y ∈ adj x, f y ∈ adj (f x))
    (hm : ∀ x ∈ V, m' (g x) = m x) {gs : List (List α)} (P : Parts V adj m gs) : Parts V adj m' (gs.map (List.map g)) := by
  have inV : ∀ {h : List α}, h ∈ gs → ∀ x ∈ h, x ∈ V := fun hh x hx => (P.comp _ hh).inV G hx
  refine ⟨fun h hh => ?_, ?_, fun x hx => ?_⟩
  · obtain ⟨h0, hh0, rfl⟩ := List.mem_map.mp hh
    have C := P.comp h0 hh0
    obtain ⟨c, t, e, hc, hcon⟩ := C.con
    refine ⟨⟨g c, t.map g, by rw [e, List.map_cons], gV c hc, fun x hx => ?_⟩, fun x hx y hy hym => ?_, ?_⟩
    · obtain ⟨x0, hx0, rfl⟩ := List.mem_map.mp hx
      exact conn_map G ga hm hc (hcon x0 hx0)
    · obtain ⟨x0, hx0, rfl⟩ := List.mem_map.mp hx
      have x0V := inV hh0 x0 hx0
      have yV := G.inn _ (gV _ x0V) _ hy
      have a1 := fa _ (gV _ x0V) _ hy
      rw [fg x0 x0V] at a1
      have e1 : m (f y) = m x0 := by
        rw [← hm _ (fV y yV), gf y yV, hym, hm x0 x0V]
      exact List.mem_map.mpr ⟨f y, C.clo x0 hx0 _ a1 e1, gf y yV⟩
    · refine List.pairwise_map.mpr (C.nd.imp_of_mem fun {a b} ha hb hne e => hne ?_)
      rw [← fg a (inV hh0 a ha), ← fg b (inV hh0 b hb), e]
  · refine List.pairwise_map.mpr (P.dis.imp_of_mem fun {a b} ha hb hd x hx hx2 => ?_)
    obtain ⟨x0, hx0, rfl⟩ := List.mem_map.mp hx
    obtain ⟨x1, hx1, e⟩ := List.mem_map.mp hx2
    have e2 : x1 = x0 := by rw [← fg x1 (inV hb x1 hx1), ← fg x0 (inV ha x0 hx0), e]
    rw [e2] at hx1
    exact hd x0 hx0 hx1
  · obtain ⟨h, hh, hfx⟩ := P.all (f x) (fV x hx)
    exact ⟨h.map g, List.mem_map.mpr ⟨h, hh, rfl⟩, List.mem_map.mpr ⟨f x, hfx, gf x hx⟩⟩
end
section
variable {s X : List Pc} {σ τ ρ : Nat → Nat}
abbrev upT (σ : Nat → Nat) (c : Nat × Nat) : Nat × Nat := (c.1, σ c.2)
theorem adj_turn {σ : Nat → Nat} {R : Nat} (h : ∀ t, t < 24 → (σ (nxt 24 t) = nxt 24 (σ t) ∧ σ (prv 24 t) = prv 24 (σ t)) ∨ (σ (nxt 24 t) = prv 24 (σ t) ∧ σ (prv 24 t) = nxt 24 (σ t))) : ∀ x ∈ cellsG R 24, ∀ y ∈ adjC R 24 x, upT σ y ∈ adjC R 24 (upT σ x) := fun x hx y hy => by
  obtain ⟨_, h2⟩ := mem_cells.mp hx
  rcases mem_adj.mp hy with ⟨a, rfl⟩ | ⟨a, rfl⟩ | ⟨a, rfl | rfl⟩
  · exact mem_adj.mpr (.inl ⟨a, rfl⟩)
  · exact mem_adj.mpr (.inr (.inl ⟨a, rfl⟩))
  · refine mem_adj.mpr (.inr (.inr ⟨a, ?_⟩))
    rcases h x.2 h2 with ⟨e, _⟩ | ⟨e, _⟩
    · exact .inl (Prod.ext rfl e)
    · exact .inr (Prod.ext rfl e)
  · refine mem_adj.mpr (.inr (.inr ⟨a, ?_⟩))
    rcases h x.2 h2 with ⟨_, e⟩ | ⟨_, e⟩
    · exact .inr (Prod.ext rfl e)
    · exact .inl (Prod.ext rfl e)
/-- a part of s, turned, is one of X -/
theorem SymS.parts {γ : Type} {R : Nat} {m m' : Nat × Nat → γ} (y : SymS s X σ τ ρ) (hm : ∀ x ∈ cellsG R 24, m' x = m (upT σ x)) {gs : List (List (Nat × Nat))} (P : Parts (cellsG R 24) (adjC R 24) m gs) : Parts (cellsG R 24) (adjC R 24) m' (gs.map (List.map (upT τ))) := by
  have inn : ∀ {σ : Nat → Nat}, (∀ t, t < 24 → σ t < 24) → ∀ x ∈ cellsG R 24, upT σ x ∈ cellsG R 24 := fun h x hx => mem_cells.mpr ⟨(mem_cells.mp hx).1, h _ (mem_cells.mp hx).2⟩
  refine parts_map (f := upT σ) (g := upT τ) (gr_cells R 24) (inn y.y.lτ) (inn y.y.lσ) (fun x hx => Prod.ext rfl (y.y.στ _ (mem_cells.mp hx).2)) (fun x hx => Prod.ext rfl (y.y.τσ _ (mem_cells.mp hx).2)) (adj_turn y.y.aτ) (adj_turn y.y.aσ) (fun x hx => ?_) P
  rw [hm _ (inn y.y.lτ x hx)]
  exact congrArg m (Prod.ext rfl (y.y.στ _ (mem_cells.mp hx).2))
theorem fine_parts_L (s : List Pc) : ∃ hgs, Parts (cellsG 8 24) (adjC 8 24) (mvL s) hgs := by
  obtain ⟨gs, _, P⟩ := c_hanging_t (L := List.replicate 8 0) (T := List.replicate 24 0) (f := fun _ _ => .non) (mf := fun r t => eL (LY s (r : Int) (t : Int))) (mv := mvL s) (by decide) (by decide) (fun x _ y _ => eqD_eL _ _)
  exact ⟨gs, P⟩
theorem fine_parts_F (s : List Pc) : ∃ hgs, Parts (cellsG 8 24) (adjC 8 24) (mvF s) hgs := by
  obtain ⟨gs, _, P⟩ := c_hanging_t (L := List.replicate 8 0) (T := List.replicate 24 0) (f := fun _ _ => .non) (mf := fun r t => .bl (mvF s (r, t))) (mv := mvF s) (by decide) (by decide) (fun x _ y _ => eqD_bl)
  exact ⟨gs, P⟩
theorem headD_map {g : Nat × Nat → Nat × Nat} : ∀ {h : List (Nat × Nat)}, h ≠ [] → (h.map g).headD (0, 0) = g (h.headD (0, 0))
  | [], h => absurd rfl h
  | _ :: _, _ => rfl
theorem itemF_map (y : SymS s X σ τ ρ) {h : List (Nat × Nat)} (h0 : h ≠ []) (hd : h.headD (0, 0) ∈ cellsG 8 24) : itemF X (h.map (upT τ)) = itemF s h := by
  unfold itemF
  rw [headD_map h0, List.map_map]
  refine Prod.ext (congrArg natI ?_) rfl
  show LY X ((h.headD (0, 0)).1 : Int) (τ (h.headD (0, 0)).2 : Int) = LY s ((h.headD (0, 0)).1 : Int) ((h.headD (0, 0)).2 : Int)
  have h2 := (mem_cells.mp hd).2
  rw [y.ly _ _ (y.y.lτ _ h2), y.y.στ _ h2]
theorem inF_map {h : List (Nat × Nat)} : inF (h.map (upT τ)) = inF h := by
  unfold inF
  rw [List.map_map]
  rfl
end
end Pv
set_option Elab.async false
set_option linter.all false
set_option maxRecDepth 100000
set_option maxHeartbeats 4000000
set_option autoImplicit false
namespace Pv
variable [TabT]
open PySem PySem.Spec PyProof.Rows L2
local macro_rules | `(tactic| walk_at "pv") => `(tactic| simp only [wipe_nil, wipe_cons, sext_eq, sapp_eq, sput_eq, nxE_nx, farsD_n, turnsD_n, insideD_n, fM_eq, netB_n, seqD_d, sdrop_eq, slT_1, slL_1, slS_1, slT_2, slL_2, slS_2, slT_3, slL_3, slS_3, slT_4, slL_4, slS_4, slT_5, slL_5, slS_5, slT_6, slL_6, slS_6, slT_7, slL_7, slS_7, slT_8, slL_8, slS_8, slT_9, slL_9, slS_9, slT_10, slL_10, slS_10, slT_12, slL_12, slS_12, slT_16, slL_16, slS_16, listD_t, listD_l, sseq_eq, seqR_nx, seqR_rt, seqR_ite, endD_ite, bind_ite, sret_eq, sset_eq, sown_eq, sbind_eq, snx_eq, sif_eq, f1_eq, f2_eq, fN_eq, fcons_eq, fnil_eq, kc_eq, tv_eq, tb_eq, boolD_b, tor_eq, tand_eq, tnot_eq, vand_eq, vor_eq, spar_eq, iseq_eq, seqD_l, seqD_t, ienum_eq, enumD_l, enumD_t, irange1_eq, irange2_eq, fch_eq, chL_t, chL_f, fsl_eq, onone_eq, osome_eq, intO_i, sfor_eq, nm_0, nb_0, nbo_0, nm_s, nb_s, obs, obn, ls0, lsS, bindP1, bindT1, bindT2, bindT3, bindT4, tup0, tup1, tup2, tup3, tup4, lst0, lst1, lst2, lst3, lst4, lst5, lst7, lst8, isiD_i, isiD_ib, isiD_is, isiD_in, isiD_it, isiD_il, isiB_i, isiB_b, isiB_s, isiT_i, isiT_b, isiT_s, isiT_n, isiT_t, isiT_l, setE, addD_i, subD_i, negD_i, absD_i, ltD_i, leD_i, gtD_i, geD_i, eqD_i, neD_i, eqD_b, neD_b, isD_b, isntD_b, ixT0, ixT1, ixT2, ixT3, truD_b, truD_t, truD_l, lenD_t, lenD_l, notD_b, tupleD_l, tupleD_t, endD_ret, endD_rt, reduceIte, if_true, if_false, Bool.false_eq_true, Bool.not_true, Bool.not_false, decide_true, decide_false, Bool.true_eq, ne_eq])
local macro_rules | `(tactic| walk_at "pvs") => `(tactic| simp only [*, wipe_nil, wipe_cons, sext_eq, sapp_eq, sput_eq, nxE_nx, farsD_n, turnsD_n, insideD_n, fM_eq, netB_n, seqD_d, sdrop_eq, slT_1, slL_1, slS_1, slT_2, slL_2, slS_2, slT_3, slL_3, slS_3, slT_4, slL_4, slS_4, slT_5, slL_5, slS_5, slT_6, slL_6, slS_6, slT_7, slL_7, slS_7, slT_8, slL_8, slS_8, slT_9, slL_9, slS_9, slT_10, slL_10, slS_10, slT_12, slL_12, slS_12, slT_16, slL_16, slS_16, listD_t, listD_l, mulD_r, mulD_l, modD_i, fdivD_i, sseq_eq, seqR_nx, seqR_rt, seqR_ite, endD_ite, bind_ite, sret_eq, sset_eq, sown_eq, sbind_eq, snx_eq, sif_eq, f1_eq, f2_eq, fN_eq, fcons_eq, fnil_eq, kc_eq, tv_eq, tb_eq, boolD_b, tor_eq, tand_eq, tnot_eq, vand_eq, vor_eq, spar_eq, iseq_eq, seqD_l, seqD_t, ienum_eq, enumD_l, enumD_t, irange1_eq, irange2_eq, fch_eq, chL_t, chL_f, fsl_eq, onone_eq, osome_eq, intO_i, sfor_eq, nm_0, nb_0, nbo_0, nm_s, nb_s, obs, obn, ls0, lsS, bindP1, bindT1, bindT2, bindT3, bindT4, tup0, tup1, tup2, tup3, tup4, lst0, lst1, lst2, lst3, lst4, lst5, lst7, lst8, isiD_i, isiD_ib, isiD_is, isiD_in, isiD_it, isiD_il, isiB_i, isiB_b, isiB_s, isiT_i, isiT_b, isiT_s, isiT_n, isiT_t, isiT_l, setE, addD_i, subD_i, negD_i, absD_i, ltD_i, leD_i, gtD_i, geD_i, eqD_i, neD_i, eqD_b, neD_b, isD_b, isntD_b, ixT0, ixT1, ixT2, ixT3, truD_b, truD_t, truD_l, lenD_t, lenD_l, notD_b, tupleD_l, tupleD_t, endD_ret, endD_rt, reduceIte, if_true, if_false, Bool.false_eq_true, Bool.not_true, Bool.not_false, decide_true, decide_false, Bool.true_eq, ne_eq])
local macro_rules | `(tactic| walk_at "pvo") => `(tactic| simp (disch := omega) only [addD_l, addD_t, rng1D_i, rng2D_i, wipe_nil, wipe_cons, sext_eq, sapp_eq, sput_eq, nxE_nx, farsD_n, turnsD_n, insideD_n, fM_eq, netB_n, seqD_d, sdrop_eq, slT_1, slL_1, slS_1, slT_2, slL_2, slS_2, slT_3, slL_3, slS_3, slT_4, slL_4, slS_4, slT_5, slL_5, slS_5, slT_6, slL_6, slS_6, slT_7, slL_7, slS_7, slT_8, slL_8, slS_8, slT_9, slL_9, slS_9, slT_10, slL_10, slS_10, slT_12, slL_12, slS_12, slT_16, slL_16, slS_16, listD_t, listD_l, mulD_r, mulD_l, modD_i, fdivD_i, sseq_eq, seqR_nx, seqR_rt, seqR_ite, endD_ite, bind_ite, sret_eq, sset_eq, sown_eq, sbind_eq, snx_eq, sif_eq, f1_eq, f2_eq, fN_eq, fcons_eq, fnil_eq, kc_eq, tv_eq, tb_eq, boolD_b, tor_eq, tand_eq, tnot_eq, vand_eq, vor_eq, spar_eq, iseq_eq, seqD_l, seqD_t, ienum_eq, enumD_l, enumD_t, irange1_eq, irange2_eq, fch_eq, chL_t, chL_f, fsl_eq, onone_eq, osome_eq, intO_i, sfor_eq, nm_0, nb_0, nbo_0, nm_s, nb_s, obs, obn, ls0, lsS, bindP1, bindT1, bindT2, bindT3, bindT4, tup0, tup1, tup2, tup3, tup4, lst0, lst1, lst2, lst3, lst4, lst5, lst7, lst8, isiD_i, isiD_ib, isiD_is, isiD_in, isiD_it, isiD_il, isiB_i, isiB_b, isiB_s, isiT_i, isiT_b, isiT_s, isiT_n, isiT_t, isiT_l, setE, addD_i, subD_i, negD_i, absD_i, ltD_i, leD_i, gtD_i, geD_i, eqD_i, neD_i, eqD_b, neD_b, isD_b, isntD_b, ixT0, ixT1, ixT2, ixT3, truD_b, truD_t, truD_l, lenD_t, lenD_l, notD_b, tupleD_l, tupleD_t, endD_ret, endD_rt, reduceIte, if_true, if_false, Bool.false_eq_true, Bool.not_true, Bool.not_false, decide_true, decide_false, Bool.true_eq, ne_eq])
/-! ### what stays -/
structure Alike (s X : List Pc) (a : Int) : Prop where
  dep : depthM X = (depthM s).map fun x => x * a
  fac : ∃ is iX : List FK, c_faces [eS s] = some (.tup ((sortF is).map faceD)) ∧ c_faces [eS X] = some (.tup ((sortF iX).map faceD)) ∧ (iX.map Prod.snd).Perm (is.map fun p => p.2 * a) ∧ is.length < big ∧ iX.length < big
  lan : ∃ l h : Int, c_lands [eS s] = some (.int l) ∧ c_lands [eS X] = some (.int l) ∧ c_holes [eS s] = some (.int h) ∧ c_holes [eS X] = some (.int h)
section
variable {s X : List Pc} {σ τ ρ : Nat → Nat}
theorem lands_fine {s : List Pc} (hs : ∀ q ∈ s, q.Ok ((6 : Nat) : Int)) (hl : s.length ≤ 8) {Q : List (List (Nat × Nat))} (PQ : Parts (cellsG 8 24) (adjC 8 24) (mvF s) Q) :
    c_lands [eS s] = some (.int ((Q.filter fun g => mvF s (g.headD (0, 0))).length : Nat)) ∧ c_holes [eS s] = some (.int (((Q.filter fun g => !mvF s (g.headD (0, 0))).length : Nat) - 1)) := by
  obtain ⟨gs, P, e1, e2⟩ := c_lands_t (m := ((6 : Nat) : Int)) (by decide) hs (show s.length ≤ 20 by omega)
  have BL := blk_F hs
  have BT := blk_T hs
  have mk := mv_mk hs BL BT
  have cnt := fun lit => parts_count (gr_cells _ _) (gr_cells 8 24) (fcell (FA s) (TU s)) (fun w _ => fcell_in BL BT w) (fcell_sur BL BT) mk (conn_iff mk BL BT) P PQ (0, 0) (0, 0) lit
  have c1 := cnt fun b => b
  have c2 := cnt fun b => !b
  rw [c1] at e1
  rw [c2] at e2
  exact ⟨e1, e2⟩
theorem faces_few {s : List Pc} (hl : s.length ≤ 8) {gs : List (List (Nat × Nat))} (P : Parts (cellsG (FA s).length (TU s).length) (adjC (FA s).length (TU s).length) (LYc s) gs) : ((gs.filter fun g => !outC s g).map (itemC s)).length < big := by
  have hF := FA_len s
  have hT := TU_len s
  rw [List.length_map]
  exact Nat.lt_of_le_of_lt (List.length_filter_le _ _) (parts_len P (by omega) (by omega)).1
theorem faces_fine {s : List Pc} (hs : ∀ q ∈ s, q.Ok ((6 : Nat) : Int)) (hl : s.length ≤ 8) {Q : List (List (Nat × Nat))} (PQ : Parts (cellsG 8 24) (adjC 8 24) (mvL s) Q) :
    ∃ is : List FK, c_faces [eS s] = some (.tup ((sortF is).map faceD)) ∧ is.Perm ((Q.filter inF).map (itemF s)) ∧ is.length < big := by
  obtain ⟨gs, eg, P⟩ := c_face_groups_t (s := s) (by omega)
  exact ⟨_, c_faces_t (by decide) (m := ((6 : Nat) : Int)) (by decide) hs hl eg P, (faces_perm hs P PQ).1, faces_few hl P⟩
theorem alike_sym (y : SymS s X σ τ ρ) (hs : ∀ q ∈ s, q.Ok ((6 : Nat) : Int)) (hl : s.length ≤ 8) : Alike s X 1 := by
  have hlX : X.length ≤ 8 := by rw [y.len]; exact hl
  refine ⟨by rw [y.depth hs]; simp, ?_, ?_⟩
  · obtain ⟨Q, PQ⟩ := fine_parts_L s
    have PX := y.parts (m' := mvL X) (fun x hx => by
      show LY X _ _ = LY s _ _
      exact y.ly _ _ (mem_cells.mp hx).2) PQ
    obtain ⟨is, e1, p1, q1⟩ := faces_fine hs hl PQ
    obtain ⟨iX, e2, p2, q2⟩ := faces_fine y.ok hlX PX
    refine ⟨is, iX, e1, e2, ?_, q1, q2⟩
    have e3 : ((Q.map (List.map (upT τ))).filter inF).map (itemF X) = (Q.filter inF).map (itemF s) := by
      rw [List.filter_map, List.map_map]
      rw [show (inF ∘ List.map (upT τ)) = inF from funext fun h => inF_map]
      refine List.map_congr_left fun h hh => ?_
      have hhQ := (List.mem_filter.mp hh).1
      obtain ⟨⟨c, t, e⟩, _, hv⟩ := PQ.hd hhQ (0, 0)
      exact itemF_map y (by rw [e]; simp) hv
    rw [e3] at p2
    have p3 := (p2.trans p1.symm).map Prod.snd
    rw [show (is.map fun p => p.2 * 1) = is.map Prod.snd from List.map_congr_left fun p _ => Int.mul_one _]
    exact p3
  · obtain ⟨Q, PQ⟩ := fine_parts_F s
    have PX := y.parts (m' := mvF X) (fun x hx => by
      show cov X _ _ = cov s _ _
      exact y.cov (mem_cells.mp hx).2) PQ
    obtain ⟨a1, a2⟩ := lands_fine hs hl PQ
    obtain ⟨b1, b2⟩ := lands_fine y.ok hlX PX
    have e3 : ∀ lit : Bool → Bool, ((Q.map (List.map (upT τ))).filter fun g => lit (mvF X (g.headD (0, 0)))).length = (Q.filter fun g => lit (mvF s (g.headD (0, 0)))).length := fun lit => by
      rw [List.filter_map, List.length_map]
      refine congrArg List.length (List.filter_congr fun h hh => ?_)
      obtain ⟨⟨c, t, e⟩, _, hv⟩ := PQ.hd hh (0, 0)
      show lit (mvF X ((h.map (upT τ)).headD (0, 0))) = lit (mvF s (h.headD (0, 0)))
      rw [headD_map (by rw [e]; simp)]
      have h2 := (mem_cells.mp hv).2
      refine congrArg lit ?_
      show cov X _ _ = cov s _ _
      rw [y.cov (y.y.lτ _ h2), y.y.στ _ h2]
    rw [e3 fun b => b] at b1
    rw [e3 fun b => !b] at b2
    exact ⟨_, _, a1, b1, a2, b2⟩
end
end Pv
set_option Elab.async false
set_option linter.all false
set_option maxRecDepth 100000
set_option maxHeartbeats 4000000
set_option autoImplicit false
namespace Pv
variable [TabT]
open PySem PySem.Spec PyProof.Rows L2
local macro_rules | `(tactic| walk_at "pv") => `(tactic| simp only [wipe_nil, wipe_cons, sext_eq, sapp_eq, sput_eq, nxE_nx, farsD_n, turnsD_n, insideD_n, fM_eq, netB_n, seqD_d, sdrop_eq, slT_1, slL_1, slS_1, slT_2, slL_2, slS_2, slT_3, slL_3, slS_3, slT_4, slL_4, slS_4, slT_5, slL_5, slS_5, slT_6, slL_6, slS_6, slT_7, slL_7, slS_7, slT_8, slL_8, slS_8, slT_9, slL_9, slS_9, slT_10, slL_10, slS_10, slT_12, slL_12, slS_12, slT_16, slL_16, slS_16, listD_t, listD_l, sseq_eq, seqR_nx, seqR_rt, seqR_ite, endD_ite, bind_ite, sret_eq, sset_eq, sown_eq, sbind_eq, snx_eq, sif_eq, f1_eq, f2_eq, fN_eq, fcons_eq, fnil_eq, kc_eq, tv_eq, tb_eq, boolD_b, tor_eq, tand_eq, tnot_eq, vand_eq, vor_eq, spar_eq, iseq_eq, seqD_l, seqD_t, ienum_eq, enumD_l, enumD_t, irange1_eq, irange2_eq, fch_eq, chL_t, chL_f, fsl_eq, onone_eq, osome_eq, intO_i, sfor_eq, nm_0, nb_0, nbo_0, nm_s, nb_s, obs, obn, ls0, lsS, bindP1, bindT1, bindT2, bindT3, bindT4, tup0, tup1, tup2, tup3, tup4, lst0, lst1, lst2, lst3, lst4, lst5, lst7, lst8, isiD_i, isiD_ib, isiD_is, isiD_in, isiD_it, isiD_il, isiB_i, isiB_b, isiB_s, isiT_i, isiT_b, isiT_s, isiT_n, isiT_t, isiT_l, setE, addD_i, subD_i, negD_i, absD_i, ltD_i, leD_i, gtD_i, geD_i, eqD_i, neD_i, eqD_b, neD_b, isD_b, isntD_b, ixT0, ixT1, ixT2, ixT3, truD_b, truD_t, truD_l, lenD_t, lenD_l, notD_b, tupleD_l, tupleD_t, endD_ret, endD_rt, reduceIte, if_true, if_false, Bool.false_eq_true, Bool.not_true, Bool.not_false, decide_true, decide_false, Bool.true_eq, ne_eq])
local macro_rules | `(tactic| walk_at "pvs") => `(tactic| simp only [*, wipe_nil, wipe_cons, sext_eq, sapp_eq, sput_eq, nxE_nx, farsD_n, turnsD_n, insideD_n, fM_eq, netB_n, seqD_d, sdrop_eq, slT_1, slL_1, slS_1, slT_2, slL_2, slS_2, slT_3, slL_3, slS_3, slT_4, slL_4, slS_4, slT_5, slL_5, slS_5, slT_6, slL_6, slS_6, slT_7, slL_7, slS_7, slT_8, slL_8, slS_8, slT_9, slL_9, slS_9, slT_10, slL_10, slS_10, slT_12, slL_12, slS_12, slT_16, slL_16, slS_16, listD_t, listD_l, mulD_r, mulD_l, modD_i, fdivD_i, sseq_eq, seqR_nx, seqR_rt, seqR_ite, endD_ite, bind_ite, sret_eq, sset_eq, sown_eq, sbind_eq, snx_eq, sif_eq, f1_eq, f2_eq, fN_eq, fcons_eq, fnil_eq, kc_eq, tv_eq, tb_eq, boolD_b, tor_eq, tand_eq, tnot_eq, vand_eq, vor_eq, spar_eq, iseq_eq, seqD_l, seqD_t, ienum_eq, enumD_l, enumD_t, irange1_eq, irange2_eq, fch_eq, chL_t, chL_f, fsl_eq, onone_eq, osome_eq, intO_i, sfor_eq, nm_0, nb_0, nbo_0, nm_s, nb_s, obs, obn, ls0, lsS, bindP1, bindT1, bindT2, bindT3, bindT4, tup0, tup1, tup2, tup3, tup4, lst0, lst1, lst2, lst3, lst4, lst5, lst7, lst8, isiD_i, isiD_ib, isiD_is, isiD_in, isiD_it, isiD_il, isiB_i, isiB_b, isiB_s, isiT_i, isiT_b, isiT_s, isiT_n, isiT_t, isiT_l, setE, addD_i, subD_i, negD_i, absD_i, ltD_i, leD_i, gtD_i, geD_i, eqD_i, neD_i, eqD_b, neD_b, isD_b, isntD_b, ixT0, ixT1, ixT2, ixT3, truD_b, truD_t, truD_l, lenD_t, lenD_l, notD_b, tupleD_l, tupleD_t, endD_ret, endD_rt, reduceIte, if_true, if_false, Bool.false_eq_true, Bool.not_true, Bool.not_false, decide_true, decide_false, Bool.true_eq, ne_eq])
local macro_rules | `(tactic| walk_at "pvo") => `(tactic| simp (disch := omega) only [addD_l, addD_t, rng1D_i, rng2D_i, wipe_nil, wipe_cons, sext_eq, sapp_eq, sput_eq, nxE_nx, farsD_n, turnsD_n, insideD_n, fM_eq, netB_n, seqD_d, sdrop_eq, slT_1, slL_1, slS_1, slT_2, slL_2, slS_2, slT_3, slL_3, slS_3, slT_4, slL_4, slS_4, slT_5, slL_5, slS_5, slT_6, slL_6, slS_6, slT_7, slL_7, slS_7, slT_8, slL_8, slS_8, slT_9, slL_9, slS_9, slT_10, slL_10, slS_10, slT_12, slL_12, slS_12, slT_16, slL_16, slS_16, listD_t, listD_l, mulD_r, mulD_l, modD_i, fdivD_i, sseq_eq, seqR_nx, seqR_rt, seqR_ite, endD_ite, bind_ite, sret_eq, sset_eq, sown_eq, sbind_eq, snx_eq, sif_eq, f1_eq, f2_eq, fN_eq, fcons_eq, fnil_eq, kc_eq, tv_eq, tb_eq, boolD_b, tor_eq, tand_eq, tnot_eq, vand_eq, vor_eq, spar_eq, iseq_eq, seqD_l, seqD_t, ienum_eq, enumD_l, enumD_t, irange1_eq, irange2_eq, fch_eq, chL_t, chL_f, fsl_eq, onone_eq, osome_eq, intO_i, sfor_eq, nm_0, nb_0, nbo_0, nm_s, nb_s, obs, obn, ls0, lsS, bindP1, bindT1, bindT2, bindT3, bindT4, tup0, tup1, tup2, tup3, tup4, lst0, lst1, lst2, lst3, lst4, lst5, lst7, lst8, isiD_i, isiD_ib, isiD_is, isiD_in, isiD_it, isiD_il, isiB_i, isiB_b, isiB_s, isiT_i, isiT_b, isiT_s, isiT_n, isiT_t, isiT_l, setE, addD_i, subD_i, negD_i, absD_i, ltD_i, leD_i, gtD_i, geD_i, eqD_i, neD_i, eqD_b, neD_b, isD_b, isntD_b, ixT0, ixT1, ixT2, ixT3, truD_b, truD_t, truD_l, lenD_t, lenD_l, notD_b, tupleD_l, tupleD_t, endD_ret, endD_rt, reduceIte, if_true, if_false, Bool.false_eq_true, Bool.not_true, Bool.not_false, decide_true, decide_false, Bool.true_eq, ne_eq])
/-! ### grown -/
section
variable {s : List Pc} {k : Int}
abbrev gr (k : Int) (s : List Pc) : List Pc := s.map (growQ k)
theorem FA_gr (hk : 0 < k) : FA (gr k s) = (FA s).map fun x => k * x := by
  have e : FL (gr k s) = (FL s).map fun x => k * x := by
    unfold FL
    rw [List.map_cons, Int.mul_zero]
    congr 1
    induction s with
    | nil => rfl
    | cons q s ih => rw [show gr k (q :: s) = growQ k q :: gr k s from rfl, List.flatMap_cons, List.flatMap_cons, List.map_append, ih]; rfl
  unfold FA
  refine up_eq (sortU_up _) (List.pairwise_map.mpr ((sortU_up _).imp fun {a b} h => Int.mul_lt_mul_of_pos_left h hk)) fun x => ?_
  rw [mem_sortU, e, List.mem_map, List.mem_map]
  exact ⟨fun ⟨a, h1, h2⟩ => ⟨a, mem_sortU.mpr h1, h2⟩, fun ⟨a, h1, h2⟩ => ⟨a, mem_sortU.mp h1, h2⟩⟩
theorem TU_gr : TU (gr k s) = TU s := by
  have e : (gr k s).flatMap (fun q => [q.b, (q.b + q.w) % 24]) = s.flatMap fun q => [q.b, (q.b + q.w) % 24] := by
    induction s with
    | nil => rfl
    | cons q s ih => rw [show gr k (q :: s) = growQ k q :: gr k s from rfl, List.flatMap_cons, List.flatMap_cons, ih]; rfl
  unfold TU TL
  rw [e]
theorem getD_gr (hk : 0 < k) (j : Nat) : (FA (gr k s)).getD j 0 = k * (FA s).getD j 0 := by
  rw [FA_gr hk, List.getD_eq_getElem?_getD, List.getD_eq_getElem?_getD, List.getElem?_map]
  cases (FA s)[j]? with
  | none => exact (Int.mul_zero k).symm
  | some x => rfl
theorem lenF_gr (hk : 0 < k) : (FA (gr k s)).length = (FA s).length := by rw [FA_gr hk, List.length_map]
theorem LYc_gr (hk : 0 < k) : LYc (gr k s) = LYc s := by
  funext c
  unfold LYc
  rw [getD_gr hk, TU_gr]
  exact LY_map fun q _ => inC_grow hk
theorem mvC_gr (hk : 0 < k) : mvC (gr k s) = mvC s := by
  funext c
  have e : ∀ s c, mvC s c = decide (0 < (LYc s c).length) := fun s c => cov_len.symm
  rw [e, e, LYc_gr hk]
theorem area_gr (hk : 0 < k) (c : Nat × Nat) : areaM (FA (gr k s)) (TU (gr k s)) c = areaM (FA s) (TU s) c * (k * k) := by
  unfold areaM
  rw [getD_gr hk, getD_gr hk, TU_gr]
  generalize (FA s).getD (c.1 + 1) 0 = a
  generalize (FA s).getD c.1 0 = b
  generalize wd (TU s) c.2 = w
  rw [show k * a * (k * a) = a * a * (k * k) by ac_rfl, show k * b * (k * b) = b * b * (k * k) by ac_rfl, ← Int.sub_mul]
  ac_rfl
theorem cellsB_gr (hk : 0 < k) : cellsB (gr k s) = cellsB s := by
  unfold cellsB
  rw [lenF_gr hk, TU_gr]
theorem sum_scale {α : Type} (f : α → Int) (z : Int) : ∀ xs : List α, (xs.map fun c => f c * z).sum = (xs.map f).sum * z
  | [] => (Int.zero_mul z).symm
  | x :: xs => by rw [List.map_cons, List.sum_cons, List.map_cons, List.sum_cons, sum_scale f z xs, Int.add_mul]
theorem depth_gr (hk : 0 < k) : depthM (gr k s) = (depthM s).map fun x => x * (k * k) := by
  have bound : ∀ c, (LYc s c).length ≤ (List.replicate s.length (0 : Int)).length := fun c => by rw [List.length_replicate]; exact LY_le
  have e1 : depthM s = _ := fold_addAt (fun c => (LYc s c).length) (areaM (FA s) (TU s)) (cellsB s) (List.replicate s.length 0) fun c _ => bound c
  have e2 : depthM (gr k s) = _ := fold_addAt (fun c => (LYc (gr k s) c).length) (areaM (FA (gr k s)) (TU (gr k s))) (cellsB (gr k s)) (List.replicate (gr k s).length 0) fun c _ => by
    rw [LYc_gr hk, List.length_map]; exact bound c
  rw [e1, e2, List.map_map, cellsB_gr hk, LYc_gr hk, List.length_replicate, List.length_replicate, List.length_map]
  refine List.map_congr_left fun i _ => ?_
  have z : ∀ n : Nat, (List.replicate n (0 : Int)).getD i 0 = 0 := fun n => by
    rw [List.getD_eq_getElem?_getD, List.getElem?_replicate]; split <;> rfl
  show (List.replicate s.length (0 : Int)).getD i 0 + _ = ((List.replicate s.length (0 : Int)).getD i 0 + _) * (k * k)
  rw [z, Int.zero_add, Int.zero_add, ← sum_scale]
  refine congrArg List.sum (List.map_congr_left fun c _ => ?_)
  rw [area_gr hk, Int.mul_assoc]
theorem arcs_gr (hk : 0 < k) : ((cellsB (gr k s)).map (arcC (gr k s))).sum = ((cellsB s).map (arcC s)).sum * k := by
  rw [cellsB_gr hk, ← sum_scale]
  refine congrArg List.sum (List.map_congr_left fun c _ => ?_)
  unfold arcC
  rw [mvC_gr hk, getD_gr hk, TU_gr]
  split
  · ac_rfl
  · exact (Int.zero_mul k).symm
theorem lines_gr (hk : 0 < k) : ((cellsB (gr k s)).map (lineC (gr k s))).sum = ((cellsB s).map (lineC s)).sum * k := by
  rw [cellsB_gr hk, ← sum_scale]
  refine congrArg List.sum (List.map_congr_left fun c _ => ?_)
  unfold lineC
  rw [mvC_gr hk, getD_gr hk, getD_gr hk, TU_gr]
  split
  · rw [← Int.mul_sub]; ac_rfl
  · exact (Int.zero_mul k).symm
theorem gr_ok (hk : 0 < k) (h9 : k ≤ 9) (hs : ∀ q ∈ s, q.Ok ((6 : Nat) : Int)) : ∀ q ∈ gr k s, q.Ok 54 := fun q hq => by
  obtain ⟨x, hx, rfl⟩ := List.mem_map.mp hq
  exact Ok_up (show k * ((6 : Nat) : Int) ≤ 54 by omega) (growQ_ok hk (hs x hx))
theorem same_conn {α γ : Type} {V : List α} {adj : α → List α} {m : α → γ} : ∀ x ∈ V, ∀ y ∈ V, Conn adj m x y ↔ Conn adj m (id x) (id y) := fun _ _ _ _ => Iff.rfl
theorem alike_gr (hk : 0 < k) (h9 : k ≤ 9) (hs : ∀ q ∈ s, q.Ok ((6 : Nat) : Int)) (hl : s.length ≤ 8) : Alike s (gr k s) (k * k) := by
  have hX := gr_ok hk h9 hs
  have hlX : (gr k s).length ≤ 8 := by rw [List.length_map]; exact hl
  refine ⟨depth_gr hk, ?_, ?_⟩
  · obtain ⟨gs, eg, P⟩ := c_face_groups_t (s := s) (by omega)
    obtain ⟨gX, egX, PX⟩ := c_face_groups_t (s := gr k s) (by omega)
    refine ⟨_, _, c_faces_t (by decide) (m := ((6 : Nat) : Int)) (by decide) hs hl eg P, c_faces_t (by decide) (m := 54) (by decide) hX hlX egX PX, ?_, faces_few hl P, faces_few hlX PX⟩
    rw [lenF_gr hk, TU_gr, LYc_gr hk] at PX
    obtain ⟨φ, p1, p2⟩ := parts_perm (gr_cells _ _) (gr_cells _ _) id (fun w hw => hw) (fun v hv => ⟨v, hv, rfl⟩) same_conn P PX
    have inV : ∀ {h : List (Nat × Nat)}, h ∈ gX → ∀ x ∈ h, x ∈ cellsG (FA s).length (TU s).length := fun hh x hx => (PX.comp _ hh).inV (gr_cells _ _) hx
    have inW : ∀ {h : List (Nat × Nat)}, h ∈ gs → ∀ x ∈ h, x ∈ cellsG (FA s).length (TU s).length := fun hh x hx => (P.comp _ hh).inV (gr_cells _ _) hx
    have same : ∀ h ∈ gX, h.Perm (φ h) := fun h hh => by
      obtain ⟨q1, q2⟩ := p2 h hh
      refine (List.perm_ext_iff_of_nodup (PX.comp h hh).nd (P.comp _ q1).nd).mpr fun x => ⟨fun hx => (q2 x (inV hh x hx)).mp hx, fun hx => (q2 x (inW q1 x hx)).mpr hx⟩
    have out : ∀ h ∈ gX, outC (gr k s) h = outC s (φ h) := fun h hh => by
      have z : outC (gr k s) h = false ↔ outC s (φ h) = false := by
        rw [out_f, out_f, lenF_gr hk]
        exact ⟨fun z c hc => z c ((same h hh).mem_iff.mpr hc), fun z c hc => z c ((same h hh).mem_iff.mp hc)⟩
      cases e1 : outC (gr k s) h with
      | false => exact (z.mp e1).symm
      | true =>
        cases e2 : outC s (φ h) with
        | false => rw [z.mpr e2] at e1; cases e1
        | true => rfl
    rw [List.map_map, List.map_map]
    have e1 : (gX.filter fun g => !outC (gr k s) g).map (Prod.snd ∘ itemC (gr k s)) = ((gX.filter fun g => !outC s (φ g)).map φ).map fun g => (g.map (areaM (FA s) (TU s))).sum * (k * k) := by
      rw [List.map_map, List.filter_congr (q := fun g => !outC s (φ g)) fun h hh => by rw [out h hh]]
      refine List.map_congr_left fun h hh => ?_
      have hh := (List.mem_filter.mp hh).1
      show (h.map (areaM (FA (gr k s)) (TU (gr k s)))).sum = ((φ h).map (areaM (FA s) (TU s))).sum * (k * k)
      rw [← perm_sum ((same h hh).map _), ← sum_scale]
      exact congrArg List.sum (List.map_congr_left fun c _ => area_gr hk c)
    rw [e1]
    have e2 : (gX.filter fun g => !outC s (φ g)).map φ = (gX.map φ).filter fun g => !outC s g := by rw [List.filter_map]; rfl
    rw [e2]
    exact (p1.filter _).map _
  · obtain ⟨gs, P, a1, a2⟩ := c_lands_t (m := ((6 : Nat) : Int)) (by decide) hs (show s.length ≤ 20 by omega)
    obtain ⟨gX, PX, b1, b2⟩ := c_lands_t (m := 54) (by decide) hX (show (gr k s).length ≤ 20 by omega)
    rw [show cellsA (gr k s) = cellsG (FA (gr k s)).length (TU (gr k s)).length from rfl, lenF_gr hk, TU_gr, mvC_gr hk] at PX
    rw [mvC_gr hk] at b1 b2
    have cnt := fun lit => parts_count (gr_cells _ _) (gr_cells _ _) id (fun w hw => hw) (fun v hv => ⟨v, hv, rfl⟩) (fun w _ => rfl) same_conn P PX (0, 0) (0, 0) lit
    have c1 := cnt fun b => b
    have c2 := cnt fun b => !b
    rw [← c1] at b1
    rw [← c2] at b2
    exact ⟨_, _, a1, b1, a2, b2⟩
end
end Pv
set_option Elab.async false
set_option linter.all false
set_option maxRecDepth 100000
set_option maxHeartbeats 4000000
set_option autoImplicit false
namespace Pv
variable [TabT]
open PySem PySem.Spec PyProof.Rows L2
local macro_rules | `(tactic| walk_at "pv") => `(tactic| simp only [wipe_nil, wipe_cons, sext_eq, sapp_eq, sput_eq, nxE_nx, farsD_n, turnsD_n, insideD_n, fM_eq, netB_n, seqD_d, sdrop_eq, slT_1, slL_1, slS_1, slT_2, slL_2, slS_2, slT_3, slL_3, slS_3, slT_4, slL_4, slS_4, slT_5, slL_5, slS_5, slT_6, slL_6, slS_6, slT_7, slL_7, slS_7, slT_8, slL_8, slS_8, slT_9, slL_9, slS_9, slT_10, slL_10, slS_10, slT_12, slL_12, slS_12, slT_16, slL_16, slS_16, listD_t, listD_l, sseq_eq, seqR_nx, seqR_rt, seqR_ite, endD_ite, bind_ite, sret_eq, sset_eq, sown_eq, sbind_eq, snx_eq, sif_eq, f1_eq, f2_eq, fN_eq, fcons_eq, fnil_eq, kc_eq, tv_eq, tb_eq, boolD_b, tor_eq, tand_eq, tnot_eq, vand_eq, vor_eq, spar_eq, iseq_eq, seqD_l, seqD_t, ienum_eq, enumD_l, enumD_t, irange1_eq, irange2_eq, fch_eq, chL_t, chL_f, fsl_eq, onone_eq, osome_eq, intO_i, sfor_eq, nm_0, nb_0, nbo_0, nm_s, nb_s, obs, obn, ls0, lsS, bindP1, bindT1, bindT2, bindT3, bindT4, tup0, tup1, tup2, tup3, tup4, lst0, lst1, lst2, lst3, lst4, lst5, lst7, lst8, isiD_i, isiD_ib, isiD_is, isiD_in, isiD_it, isiD_il, isiB_i, isiB_b, isiB_s, isiT_i, isiT_b, isiT_s, isiT_n, isiT_t, isiT_l, setE, addD_i, subD_i, negD_i, absD_i, ltD_i, leD_i, gtD_i, geD_i, eqD_i, neD_i, eqD_b, neD_b, isD_b, isntD_b, ixT0, ixT1, ixT2, ixT3, truD_b, truD_t, truD_l, lenD_t, lenD_l, notD_b, tupleD_l, tupleD_t, endD_ret, endD_rt, reduceIte, if_true, if_false, Bool.false_eq_true, Bool.not_true, Bool.not_false, decide_true, decide_false, Bool.true_eq, ne_eq])
local macro_rules | `(tactic| walk_at "pvs") => `(tactic| simp only [*, wipe_nil, wipe_cons, sext_eq, sapp_eq, sput_eq, nxE_nx, farsD_n, turnsD_n, insideD_n, fM_eq, netB_n, seqD_d, sdrop_eq, slT_1, slL_1, slS_1, slT_2, slL_2, slS_2, slT_3, slL_3, slS_3, slT_4, slL_4, slS_4, slT_5, slL_5, slS_5, slT_6, slL_6, slS_6, slT_7, slL_7, slS_7, slT_8, slL_8, slS_8, slT_9, slL_9, slS_9, slT_10, slL_10, slS_10, slT_12, slL_12, slS_12, slT_16, slL_16, slS_16, listD_t, listD_l, mulD_r, mulD_l, modD_i, fdivD_i, sseq_eq, seqR_nx, seqR_rt, seqR_ite, endD_ite, bind_ite, sret_eq, sset_eq, sown_eq, sbind_eq, snx_eq, sif_eq, f1_eq, f2_eq, fN_eq, fcons_eq, fnil_eq, kc_eq, tv_eq, tb_eq, boolD_b, tor_eq, tand_eq, tnot_eq, vand_eq, vor_eq, spar_eq, iseq_eq, seqD_l, seqD_t, ienum_eq, enumD_l, enumD_t, irange1_eq, irange2_eq, fch_eq, chL_t, chL_f, fsl_eq, onone_eq, osome_eq, intO_i, sfor_eq, nm_0, nb_0, nbo_0, nm_s, nb_s, obs, obn, ls0, lsS, bindP1, bindT1, bindT2, bindT3, bindT4, tup0, tup1, tup2, tup3, tup4, lst0, lst1, lst2, lst3, lst4, lst5, lst7, lst8, isiD_i, isiD_ib, isiD_is, isiD_in, isiD_it, isiD_il, isiB_i, isiB_b, isiB_s, isiT_i, isiT_b, isiT_s, isiT_n, isiT_t, isiT_l, setE, addD_i, subD_i, negD_i, absD_i, ltD_i, leD_i, gtD_i, geD_i, eqD_i, neD_i, eqD_b, neD_b, isD_b, isntD_b, ixT0, ixT1, ixT2, ixT3, truD_b, truD_t, truD_l, lenD_t, lenD_l, notD_b, tupleD_l, tupleD_t, endD_ret, endD_rt, reduceIte, if_true, if_false, Bool.false_eq_true, Bool.not_true, Bool.not_false, decide_true, decide_false, Bool.true_eq, ne_eq])
local macro_rules | `(tactic| walk_at "pvo") => `(tactic| simp (disch := omega) only [addD_l, addD_t, rng1D_i, rng2D_i, wipe_nil, wipe_cons, sext_eq, sapp_eq, sput_eq, nxE_nx, farsD_n, turnsD_n, insideD_n, fM_eq, netB_n, seqD_d, sdrop_eq, slT_1, slL_1, slS_1, slT_2, slL_2, slS_2, slT_3, slL_3, slS_3, slT_4, slL_4, slS_4, slT_5, slL_5, slS_5, slT_6, slL_6, slS_6, slT_7, slL_7, slS_7, slT_8, slL_8, slS_8, slT_9, slL_9, slS_9, slT_10, slL_10, slS_10, slT_12, slL_12, slS_12, slT_16, slL_16, slS_16, listD_t, listD_l, mulD_r, mulD_l, modD_i, fdivD_i, sseq_eq, seqR_nx, seqR_rt, seqR_ite, endD_ite, bind_ite, sret_eq, sset_eq, sown_eq, sbind_eq, snx_eq, sif_eq, f1_eq, f2_eq, fN_eq, fcons_eq, fnil_eq, kc_eq, tv_eq, tb_eq, boolD_b, tor_eq, tand_eq, tnot_eq, vand_eq, vor_eq, spar_eq, iseq_eq, seqD_l, seqD_t, ienum_eq, enumD_l, enumD_t, irange1_eq, irange2_eq, fch_eq, chL_t, chL_f, fsl_eq, onone_eq, osome_eq, intO_i, sfor_eq, nm_0, nb_0, nbo_0, nm_s, nb_s, obs, obn, ls0, lsS, bindP1, bindT1, bindT2, bindT3, bindT4, tup0, tup1, tup2, tup3, tup4, lst0, lst1, lst2, lst3, lst4, lst5, lst7, lst8, isiD_i, isiD_ib, isiD_is, isiD_in, isiD_it, isiD_il, isiB_i, isiB_b, isiB_s, isiT_i, isiT_b, isiT_s, isiT_n, isiT_t, isiT_l, setE, addD_i, subD_i, negD_i, absD_i, ltD_i, leD_i, gtD_i, geD_i, eqD_i, neD_i, eqD_b, neD_b, isD_b, isntD_b, ixT0, ixT1, ixT2, ixT3, truD_b, truD_t, truD_l, lenD_t, lenD_l, notD_b, tupleD_l, tupleD_t, endD_ret, endD_rt, reduceIte, if_true, if_false, Bool.false_eq_true, Bool.not_true, Bool.not_false, decide_true, decide_false, Bool.true_eq, ne_eq])
/-! ### turned, mirrored, grown: the defs -/
theorem eS_seq {s : List Pc} : seqD (eS s) = some (s.map eQ) := rfl
theorem c_turned_t {s : List Pc} {b : Int} (hl : s.length ≤ 300) : c_turned [eS s, .int b] = some (eS (s.map (turnQ b))) := by
  rw [st_turned]
  unfold F_turned
  walk_at "pv"
  rw [lcF_all eQ (fun q => eQ (turnQ b q)) s (by
    unfold eS
    walk_at "pv") (by unfold big; omega) (fun q hq => ⟨_, bindT4, by
    unfold eQ turnQ
    walk_at "pvo"⟩)]
  walk_at "pv"
  unfold eS
  rw [List.map_map]; rfl
theorem c_mirrored_t {s : List Pc} (hl : s.length ≤ 300) : c_mirrored [eS s] = some (eS (s.map mirrQ)) := by
  rw [st_mirrored]
  unfold F_mirrored
  walk_at "pv"
  rw [lcF_all eQ (fun q => eQ (mirrQ q)) s (by
    unfold eS
    walk_at "pv") (by unfold big; omega) (fun q hq => ⟨_, bindT4, by
    unfold eQ mirrQ
    walk_at "pvo"⟩)]
  walk_at "pv"
  unfold eS
  rw [List.map_map]; rfl
theorem c_grown_t {s : List Pc} {k : Int} (hk : 0 < k) (h9 : k ≤ 9) (hl : s.length ≤ 300) : c_grown [eS s, .int k] = some (eS (gr k s)) := by
  rw [st_grown]
  unfold F_grown
  walk_at "pv"
  rw [lcF_all eQ (fun q => eQ (growQ k q)) s (by
    unfold eS
    walk_at "pv") (by unfold big; omega) (fun q hq => ⟨_, bindT4, by
    unfold eQ growQ
    walk_at "pvo"⟩)]
  walk_at "pv"
  unfold eS
  rw [List.map_map]; rfl
theorem eqN_eQ (a b : Pc) : eqN 7 (eQ a) (eQ b) = true ↔ a = b := by
  have e := eqN_ints 5 [a.i, a.o, a.b, a.w] [b.i, b.o, b.b, b.w]
  have e2 : eqN 7 (eQ a) (eQ b) = eqL (eqN 6) ([a.i, a.o, a.b, a.w].map D.int) ([b.i, b.o, b.b, b.w].map D.int) := rfl
  rw [e2, e, decide_eq_true_eq]
  cases a; cases b
  simp
theorem eqL_eQ : ∀ X Y : List Pc, eqL (eqN 7) (X.map eQ) (Y.map eQ) = true ↔ X = Y
  | [], [] => ⟨fun _ => rfl, fun _ => rfl⟩
  | [], _ :: _ => ⟨fun h => absurd h Bool.false_ne_true, fun h => by cases h⟩
  | _ :: _, [] => ⟨fun h => absurd h Bool.false_ne_true, fun h => by cases h⟩
  | x :: X, y :: Y => by
    show (eqN 7 (eQ x) (eQ y) && eqL (eqN 7) (X.map eQ) (Y.map eQ)) = true ↔ _
    rw [Bool.and_eq_true, eqN_eQ, eqL_eQ X Y, List.cons.injEq]
theorem okD_eS (X : List Pc) : okD 8 (eS X) = true := List.all_eq_true.mpr fun x hx => by
  obtain ⟨q, _, rfl⟩ := List.mem_map.mp hx
  rfl
theorem eqD_eS (X Y : List Pc) : ∃ e, eqD (eS X) (eS Y) = some (.bl e) ∧ (e = true ↔ X = Y) := by
  refine ⟨eqN 8 (eS X) (eS Y), ?_, eqL_eQ X Y⟩
  unfold eqD
  rw [if_neg (by exact Bool.false_ne_true), if_pos (by rw [okD_eS, okD_eS]; rfl)]
theorem neD_eS (X : List Pc) : neD (eS X) (.tup (X.map eQ)) = some (.bl false) := neD_refl (okD_eS X)
theorem sortedN_i (ns : List Int) : sortedN (.lst (ns.map D.int)) = some (.lst ((sortN ns).map D.int)) := by
  show (asInts (ns.map D.int)).bind _ = _
  rw [asInts_map]; rfl
theorem neD_li (xs ys : List Int) : neD (.lst (xs.map D.int)) (.lst (ys.map D.int)) = some (.bl (!decide (xs = ys))) := by
  unfold neD
  rw [if_neg (by exact Bool.false_ne_true), if_pos]
  · rw [← eqN_ints 6]; rfl
  · rw [Bool.and_eq_true]
    exact ⟨List.all_eq_true.mpr fun x hx => by obtain ⟨i, _, rfl⟩ := List.mem_map.mp hx; rfl, List.all_eq_true.mpr fun x hx => by obtain ⟨i, _, rfl⟩ := List.mem_map.mp hx; rfl⟩
/-! ### the law's check of one such sheet -/
abbrev EnvR (s T Mi G : List Pc) (b k u v : Int) (x8 x9 : Sl) : Env := [.sh (eS s), .sh (.int b), .sh (.int k), .sh (eS T), .sh (eS Mi), .sh (eS G), .sh (.int u), .sh (.int v), x8, x9, .no, .no, .no, .no, .no, .no, .no]
noncomputable def L_row : Env → Option Res :=
  (sseq (sif (tb (f2 neD (fN c_depth_areas (fcons (nm 8) fnil)) (f1 tupleD (lcF [14] (iseq (fN c_depth_areas (fcons (nm 0) fnil))) (.one 14) tyes (f2 mulD (nb 14) (nb 9))))))
  (sret (kc (.bl false)))
  snx)
  (sseq (sif (tb (f2 neD (fN tupD (fcons (fN c_face_count (fcons (nm 8) fnil)) (fcons (fN c_lands (fcons (nm 8) fnil)) (fcons (fN c_holes (fcons (nm 8) fnil)) fnil)))) (fN tupD (fcons (fN c_face_count (fcons (nm 0) fnil)) (fcons (fN c_lands (fcons (nm 0) fnil)) (fcons (fN c_holes (fcons (nm 0) fnil)) fnil))))))
  (sret (kc (.bl false)))
  snx)
  (sif (tb (f2 neD (f1 sortedN (lcF [15, 16] (iseq (fN c_faces (fcons (nm 8) fnil))) (.tup [15, 16]) tyes (nm 16))) (f1 sortedN (lcF [15, 16] (iseq (fN c_faces (fcons (nm 0) fnil))) (.tup [15, 16]) tyes (f2 mulD (nb 16) (nb 9))))))
  (sret (kc (.bl false)))
  snx)))
theorem right_row {m z : Int} {s X T Mi G : List Pc} {b k u v : Int} (h0 : 0 ≤ m) (hm : m ≤ 60) (hs : ∀ q ∈ s, q.Ok ((6 : Nat) : Int)) (hl : s.length ≤ 8) (okX : ∀ q ∈ X, q.Ok m) (lX : X.length ≤ 8) (al : Alike s X z) (hz : z.natAbs ≤ 81) :
    nxP (L_row (EnvR s T Mi G b k u v (.sh (eS X)) (.sh (.int z)))) (fun ρ => ρ = EnvR s T Mi G b k u v (.sh (eS X)) (.sh (.int z))) := by
  have dX := c_depth_areas_t h0 hm okX (show X.length ≤ 300 by omega)
  have dS := c_depth_areas_t (m := ((6 : Nat) : Int)) (by decide) (by decide) hs (show s.length ≤ 300 by omega)
  obtain ⟨is, iX, f1, f2, pm, q1, q2⟩ := al.fac
  obtain ⟨l, h, l1, l2, l3, l4⟩ := al.lan
  have n1 := c_face_count_t f1
  have n2 := c_face_count_t f2
  have ln : (sortF iX).length = (sortF is).length := by
    rw [(sortF_perm iX).length_eq, (sortF_perm is).length_eq]
    have := pm.length_eq
    rwa [List.length_map, List.length_map] at this
  rw [ln] at n2
  have ps : sortN ((sortF iX).map Prod.snd) = sortN ((sortF is).map fun p => p.2 * z) :=
    sortN_uniq (sortN_le _) (sortN_le _) ((sortN_perm _).trans ((((sortF_perm iX).map _).trans (pm.trans ((sortF_perm is).map _).symm)).trans (sortN_perm _).symm))
  unfold L_row EnvR
  walk_at "pv"
  rw [dX, lcF_all D.int (fun x => D.int (x * z)) (depthM s) (by
    walk_at "pv"
    rw [dS]
    walk_at "pv") (by rw [depthM_len hs]; unfold big; omega) (fun x hx => ⟨_, bindP1, by
    walk_at "pv"
    exact mulD_r (by omega)⟩)]
  walk_at "pv"
  rw [show (depthM s).map (fun x => D.int (x * z)) = (depthM X).map D.int by rw [al.dep, List.map_map]; rfl, neD_ti, decide_eq_true rfl]
  walk_at "pv"
  rw [n2, l2, l4, n1, l1, l3]
  walk_at "pv"
  rw [neD_refl (by rfl)]
  walk_at "pv"
  rw [lcF_all faceD (fun p : FK => D.int p.2) (sortF iX) (by
    walk_at "pv"
    rw [f2]
    walk_at "pv") (by rw [(sortF_perm iX).length_eq]; exact q2) (fun p hp => ⟨_, bindT2, by walk_at "pv"⟩),
    lcF_all faceD (fun p : FK => D.int (p.2 * z)) (sortF is) (by
    walk_at "pv"
    rw [f1]
    walk_at "pv") (by rw [(sortF_perm is).length_eq]; exact q1) (fun p hp => ⟨_, bindT2, by
    walk_at "pv"
    exact mulD_r (by omega)⟩)]
  walk_at "pv"
  rw [show (sortF iX).map (fun p : FK => D.int p.2) = ((sortF iX).map Prod.snd).map D.int by rw [List.map_map]; rfl, show (sortF is).map (fun p : FK => D.int (p.2 * z)) = ((sortF is).map fun p => p.2 * z).map D.int by rw [List.map_map]; rfl, sortedN_i, sortedN_i]
  walk_at "pv"
  rw [neD_li, decide_eq_true ps]
  walk_at "pv"
  exact nxP_nx rfl
theorem eqD_uv {u v : Int} : eqD (.tup [.int u, .int v]) (.tup [.int u, .int v]) = some (.bl true) := by
  have h := eqD_ti [u, v] [u, v]
  rwa [decide_eq_true rfl] at h
end Pv
set_option Elab.async false
set_option linter.all false
set_option maxRecDepth 100000
set_option maxHeartbeats 4000000
set_option autoImplicit false
namespace Pv
variable [TabT]
open PySem PySem.Spec PyProof.Rows L2
local macro_rules | `(tactic| walk_at "pv") => `(tactic| simp only [wipe_nil, wipe_cons, sext_eq, sapp_eq, sput_eq, nxE_nx, farsD_n, turnsD_n, insideD_n, fM_eq, netB_n, seqD_d, sdrop_eq, slT_1, slL_1, slS_1, slT_2, slL_2, slS_2, slT_3, slL_3, slS_3, slT_4, slL_4, slS_4, slT_5, slL_5, slS_5, slT_6, slL_6, slS_6, slT_7, slL_7, slS_7, slT_8, slL_8, slS_8, slT_9, slL_9, slS_9, slT_10, slL_10, slS_10, slT_12, slL_12, slS_12, slT_16, slL_16, slS_16, listD_t, listD_l, sseq_eq, seqR_nx, seqR_rt, seqR_ite, endD_ite, bind_ite, sret_eq, sset_eq, sown_eq, sbind_eq, snx_eq, sif_eq, f1_eq, f2_eq, fN_eq, fcons_eq, fnil_eq, kc_eq, tv_eq, tb_eq, boolD_b, tor_eq, tand_eq, tnot_eq, vand_eq, vor_eq, spar_eq, iseq_eq, seqD_l, seqD_t, ienum_eq, enumD_l, enumD_t, irange1_eq, irange2_eq, fch_eq, chL_t, chL_f, fsl_eq, onone_eq, osome_eq, intO_i, sfor_eq, nm_0, nb_0, nbo_0, nm_s, nb_s, obs, obn, ls0, lsS, bindP1, bindT1, bindT2, bindT3, bindT4, tup0, tup1, tup2, tup3, tup4, lst0, lst1, lst2, lst3, lst4, lst5, lst7, lst8, isiD_i, isiD_ib, isiD_is, isiD_in, isiD_it, isiD_il, isiB_i, isiB_b, isiB_s, isiT_i, isiT_b, isiT_s, isiT_n, isiT_t, isiT_l, setE, addD_i, subD_i, negD_i, absD_i, ltD_i, leD_i, gtD_i, geD_i, eqD_i, neD_i, eqD_b, neD_b, isD_b, isntD_b, ixT0, ixT1, ixT2, ixT3, truD_b, truD_t, truD_l, lenD_t, lenD_l, notD_b, tupleD_l, tupleD_t, endD_ret, endD_rt, reduceIte, if_true, if_false, Bool.false_eq_true, Bool.not_true, Bool.not_false, decide_true, decide_false, Bool.true_eq, ne_eq])
local macro_rules | `(tactic| walk_at "pvs") => `(tactic| simp only [*, wipe_nil, wipe_cons, sext_eq, sapp_eq, sput_eq, nxE_nx, farsD_n, turnsD_n, insideD_n, fM_eq, netB_n, seqD_d, sdrop_eq, slT_1, slL_1, slS_1, slT_2, slL_2, slS_2, slT_3, slL_3, slS_3, slT_4, slL_4, slS_4, slT_5, slL_5, slS_5, slT_6, slL_6, slS_6, slT_7, slL_7, slS_7, slT_8, slL_8, slS_8, slT_9, slL_9, slS_9, slT_10, slL_10, slS_10, slT_12, slL_12, slS_12, slT_16, slL_16, slS_16, listD_t, listD_l, mulD_r, mulD_l, modD_i, fdivD_i, sseq_eq, seqR_nx, seqR_rt, seqR_ite, endD_ite, bind_ite, sret_eq, sset_eq, sown_eq, sbind_eq, snx_eq, sif_eq, f1_eq, f2_eq, fN_eq, fcons_eq, fnil_eq, kc_eq, tv_eq, tb_eq, boolD_b, tor_eq, tand_eq, tnot_eq, vand_eq, vor_eq, spar_eq, iseq_eq, seqD_l, seqD_t, ienum_eq, enumD_l, enumD_t, irange1_eq, irange2_eq, fch_eq, chL_t, chL_f, fsl_eq, onone_eq, osome_eq, intO_i, sfor_eq, nm_0, nb_0, nbo_0, nm_s, nb_s, obs, obn, ls0, lsS, bindP1, bindT1, bindT2, bindT3, bindT4, tup0, tup1, tup2, tup3, tup4, lst0, lst1, lst2, lst3, lst4, lst5, lst7, lst8, isiD_i, isiD_ib, isiD_is, isiD_in, isiD_it, isiD_il, isiB_i, isiB_b, isiB_s, isiT_i, isiT_b, isiT_s, isiT_n, isiT_t, isiT_l, setE, addD_i, subD_i, negD_i, absD_i, ltD_i, leD_i, gtD_i, geD_i, eqD_i, neD_i, eqD_b, neD_b, isD_b, isntD_b, ixT0, ixT1, ixT2, ixT3, truD_b, truD_t, truD_l, lenD_t, lenD_l, notD_b, tupleD_l, tupleD_t, endD_ret, endD_rt, reduceIte, if_true, if_false, Bool.false_eq_true, Bool.not_true, Bool.not_false, decide_true, decide_false, Bool.true_eq, ne_eq])
local macro_rules | `(tactic| walk_at "pvo") => `(tactic| simp (disch := omega) only [addD_l, addD_t, rng1D_i, rng2D_i, wipe_nil, wipe_cons, sext_eq, sapp_eq, sput_eq, nxE_nx, farsD_n, turnsD_n, insideD_n, fM_eq, netB_n, seqD_d, sdrop_eq, slT_1, slL_1, slS_1, slT_2, slL_2, slS_2, slT_3, slL_3, slS_3, slT_4, slL_4, slS_4, slT_5, slL_5, slS_5, slT_6, slL_6, slS_6, slT_7, slL_7, slS_7, slT_8, slL_8, slS_8, slT_9, slL_9, slS_9, slT_10, slL_10, slS_10, slT_12, slL_12, slS_12, slT_16, slL_16, slS_16, listD_t, listD_l, mulD_r, mulD_l, modD_i, fdivD_i, sseq_eq, seqR_nx, seqR_rt, seqR_ite, endD_ite, bind_ite, sret_eq, sset_eq, sown_eq, sbind_eq, snx_eq, sif_eq, f1_eq, f2_eq, fN_eq, fcons_eq, fnil_eq, kc_eq, tv_eq, tb_eq, boolD_b, tor_eq, tand_eq, tnot_eq, vand_eq, vor_eq, spar_eq, iseq_eq, seqD_l, seqD_t, ienum_eq, enumD_l, enumD_t, irange1_eq, irange2_eq, fch_eq, chL_t, chL_f, fsl_eq, onone_eq, osome_eq, intO_i, sfor_eq, nm_0, nb_0, nbo_0, nm_s, nb_s, obs, obn, ls0, lsS, bindP1, bindT1, bindT2, bindT3, bindT4, tup0, tup1, tup2, tup3, tup4, lst0, lst1, lst2, lst3, lst4, lst5, lst7, lst8, isiD_i, isiD_ib, isiD_is, isiD_in, isiD_it, isiD_il, isiB_i, isiB_b, isiB_s, isiT_i, isiT_b, isiT_s, isiT_n, isiT_t, isiT_l, setE, addD_i, subD_i, negD_i, absD_i, ltD_i, leD_i, gtD_i, geD_i, eqD_i, neD_i, eqD_b, neD_b, isD_b, isntD_b, ixT0, ixT1, ixT2, ixT3, truD_b, truD_t, truD_l, lenD_t, lenD_l, notD_b, tupleD_l, tupleD_t, endD_ret, endD_rt, reduceIte, if_true, if_false, Bool.false_eq_true, Bool.not_true, Bool.not_false, decide_true, decide_false, Bool.true_eq, ne_eq])
theorem turned_right_t {s : List Pc} {b k : Int} (hs : ∀ q ∈ s, q.Ok ((6 : Nat) : Int)) (hl : s.length ≤ 8) (hk : 0 < k) (h9 : k ≤ 9) : c__law_turned_right [eS s, .int b, .int k] = some (.bl true) := by
  have hl3 : s.length ≤ 300 := by omega
  have hb : s.length < big := by unfold big; omega
  obtain ⟨σ1, τ1, ρ1, y1⟩ := sums_turn hs b
  obtain ⟨σ2, τ2, ρ2, y2⟩ := sums_mirr hs
  have a1 := alike_sym y1 hs hl
  have a2 := alike_sym y2 hs hl
  have a3 := alike_gr hk h9 hs hl
  have okG := gr_ok hk h9 hs
  have lG : (gr k s).length = s.length := List.length_map _
  have eb := c_border_t (m := ((6 : Nat) : Int)) (by decide) (by decide) hs hl
  have eb1 := c_border_t (m := ((6 : Nat) : Int)) (by decide) (by decide) y1.ok (by rw [y1.len]; exact hl)
  have eb2 := c_border_t (m := ((6 : Nat) : Int)) (by decide) (by decide) y2.ok (by rw [y2.len]; exact hl)
  have eb3 := c_border_t (m := 54) (by decide) (by decide) okG (by rw [lG]; exact hl)
  rw [y1.arcs hs, y1.lines hs] at eb1
  rw [y2.arcs hs, y2.lines hs] at eb2
  rw [arcs_gr hk, lines_gr hk] at eb3
  generalize ((cellsB s).map (arcC s)).sum = u at *
  generalize ((cellsB s).map (lineC s)).sum = v at *
  have z1 : neD (eS (s.map (turnQ b))) (.tup (s.map fun q => eQ (turnQ b q))) = some (.bl false) := by
    have h := neD_eS (s.map (turnQ b))
    rwa [List.map_map] at h
  have z2 : neD (eS (s.map mirrQ)) (.tup (s.map fun q => eQ (mirrQ q))) = some (.bl false) := by
    have h := neD_eS (s.map mirrQ)
    rwa [List.map_map] at h
  have z3 : neD (eS (gr k s)) (.tup (s.map fun q => eQ (growQ k q))) = some (.bl false) := by
    have h := neD_eS (gr k s)
    rwa [List.map_map] at h
  rw [st__law_turned_right]
  unfold F__law_turned_right
  walk_at "pv"
  rw [c_turned_t hl3]
  walk_at "pv"
  rw [c_mirrored_t hl3]
  walk_at "pv"
  rw [c_grown_t hk h9 hl3]
  walk_at "pv"
  rw [lcF_all eQ (fun q => eQ (turnQ b q)) s (by
    unfold eS
    walk_at "pv") hb (fun q hq => ⟨_, bindT4, by
    unfold eQ turnQ
    walk_at "pvo"⟩)]
  walk_at "pv"
  rw [z1]
  walk_at "pv"
  rw [lcF_all eQ (fun q => eQ (mirrQ q)) s (by
    unfold eS
    walk_at "pv") hb (fun q hq => ⟨_, bindT4, by
    unfold eQ mirrQ
    walk_at "pvo"
    rw [show (48 - q.b - q.w) % 24 = (-q.b - q.w) % 24 by omega]⟩)]
  walk_at "pv"
  rw [z2]
  walk_at "pv"
  rw [lcF_all eQ (fun q => eQ (growQ k q)) s (by
    unfold eS
    walk_at "pv") hb (fun q hq => ⟨_, bindT4, by
    unfold eQ growQ
    walk_at "pvo"
    rw [Int.mul_comm q.i k, Int.mul_comm q.o k]⟩)]
  walk_at "pv"
  rw [z3]
  walk_at "pv"
  rw [eb]
  walk_at "pv"
  refine endP_seq (nxP_for eS (I := fun ρ => ∃ x8 x9, ρ = EnvR s (s.map (turnQ b)) (s.map mirrQ) (gr k s) b k u v x8 x9) [s.map (turnQ b), s.map mirrQ, gr k s] (fun X hX ρ hρ => ?_) ⟨_, _, rfl⟩) fun ρ hρ => ?_
  · obtain ⟨x8, x9, rfl⟩ := hρ
    obtain ⟨e, ee, he⟩ := eqD_eS X (gr k s)
    obtain ⟨m, h0, hm, okX, lX, al⟩ : ∃ m : Int, 0 ≤ m ∧ m ≤ 60 ∧ (∀ q ∈ X, q.Ok m) ∧ X.length ≤ 8 ∧ Alike s X (if e = true then k * k else 1) := by
      cases e with
      | true =>
        have := he.mp rfl
        subst this
        exact ⟨54, by decide, by decide, okG, by rw [lG]; exact hl, by rw [if_pos rfl]; exact a3⟩
      | false =>
        rw [if_neg Bool.false_ne_true]
        rcases List.mem_cons.mp hX with rfl | hX
        · exact ⟨((6 : Nat) : Int), by decide, by decide, y1.ok, by rw [y1.len]; exact hl, a1⟩
        rcases List.mem_cons.mp hX with rfl | hX
        · exact ⟨((6 : Nat) : Int), by decide, by decide, y2.ok, by rw [y2.len]; exact hl, a2⟩
        · exact absurd (he.mpr (List.mem_singleton.mp hX)) Bool.false_ne_true
    refine ⟨_, bindP1, ?_⟩
    show nxP (sseq (sset 9 (kc (.int 1))) (sseq (sif (tb (f2 eqD (nb 8) (nb 5))) (sset 9 (f2 mulD (nb 2) (nb 2))) snx) L_row) _) _
    unfold EnvR
    walk_at "pv"
    rw [ee]
    cases e with
    | true =>
      walk_at "pv"
      rw [mulD_r (by omega)]
      walk_at "pv"
      refine nxP_mono (right_row h0 hm hs hl okX lX al (by
        have h1 : k * k ≤ 9 * 9 := Int.mul_le_mul h9 h9 (by omega) (by decide)
        have h2 : 0 ≤ k * k := Int.mul_nonneg (by omega) (by omega)
        generalize k * k = y at *
        omega)) fun ρ h => ⟨_, _, h⟩
    | false =>
      walk_at "pv"
      exact nxP_mono (right_row h0 hm hs hl okX lX al (by decide)) fun ρ h => ⟨_, _, h⟩
  · obtain ⟨x8, x9, rfl⟩ := hρ
    unfold EnvR
    walk_at "pv"
    rw [eb3]
    walk_at "pv"
    rw [mulD_r (show k.natAbs < 2 ^ 64 by omega), mulD_r (show k.natAbs < 2 ^ 64 by omega)]
    walk_at "pv"
    rw [neD_refl (by rfl)]
    walk_at "pv"
    rw [eb1, eb2]
    walk_at "pv"
    rw [eqD_uv]
    walk_at "pv"
end Pv
set_option Elab.async false
set_option linter.all false
set_option maxRecDepth 100000
set_option maxHeartbeats 4000000
set_option autoImplicit false
namespace Pv
variable [TabT]
open PySem PySem.Spec PyProof.Rows L2
local macro_rules | `(tactic| walk_at "pv") => `(tactic| simp only [wipe_nil, wipe_cons, sext_eq, sapp_eq, sput_eq, nxE_nx, farsD_n, turnsD_n, insideD_n, fM_eq, netB_n, seqD_d, sdrop_eq, slT_1, slL_1, slS_1, slT_2, slL_2, slS_2, slT_3, slL_3, slS_3, slT_4, slL_4, slS_4, slT_5, slL_5, slS_5, slT_6, slL_6, slS_6, slT_7, slL_7, slS_7, slT_8, slL_8, slS_8, slT_9, slL_9, slS_9, slT_10, slL_10, slS_10, slT_12, slL_12, slS_12, slT_16, slL_16, slS_16, listD_t, listD_l, sseq_eq, seqR_nx, seqR_rt, seqR_ite, endD_ite, bind_ite, sret_eq, sset_eq, sown_eq, sbind_eq, snx_eq, sif_eq, f1_eq, f2_eq, fN_eq, fcons_eq, fnil_eq, kc_eq, tv_eq, tb_eq, boolD_b, tor_eq, tand_eq, tnot_eq, vand_eq, vor_eq, spar_eq, iseq_eq, seqD_l, seqD_t, ienum_eq, enumD_l, enumD_t, irange1_eq, irange2_eq, fch_eq, chL_t, chL_f, fsl_eq, onone_eq, osome_eq, intO_i, sfor_eq, nm_0, nb_0, nbo_0, nm_s, nb_s, obs, obn, ls0, lsS, bindP1, bindT1, bindT2, bindT3, bindT4, tup0, tup1, tup2, tup3, tup4, lst0, lst1, lst2, lst3, lst4, lst5, lst7, lst8, isiD_i, isiD_ib, isiD_is, isiD_in, isiD_it, isiD_il, isiB_i, isiB_b, isiB_s, isiT_i, isiT_b, isiT_s, isiT_n, isiT_t, isiT_l, setE, addD_i, subD_i, negD_i, absD_i, ltD_i, leD_i, gtD_i, geD_i, eqD_i, neD_i, eqD_b, neD_b, isD_b, isntD_b, ixT0, ixT1, ixT2, ixT3, truD_b, truD_t, truD_l, lenD_t, lenD_l, notD_b, tupleD_l, tupleD_t, endD_ret, endD_rt, reduceIte, if_true, if_false, Bool.false_eq_true, Bool.not_true, Bool.not_false, decide_true, decide_false, Bool.true_eq, ne_eq])
local macro_rules | `(tactic| walk_at "pvs") => `(tactic| simp only [*, wipe_nil, wipe_cons, sext_eq, sapp_eq, sput_eq, nxE_nx, farsD_n, turnsD_n, insideD_n, fM_eq, netB_n, seqD_d, sdrop_eq, slT_1, slL_1, slS_1, slT_2, slL_2, slS_2, slT_3, slL_3, slS_3, slT_4, slL_4, slS_4, slT_5, slL_5, slS_5, slT_6, slL_6, slS_6, slT_7, slL_7, slS_7, slT_8, slL_8, slS_8, slT_9, slL_9, slS_9, slT_10, slL_10, slS_10, slT_12, slL_12, slS_12, slT_16, slL_16, slS_16, listD_t, listD_l, mulD_r, mulD_l, modD_i, fdivD_i, sseq_eq, seqR_nx, seqR_rt, seqR_ite, endD_ite, bind_ite, sret_eq, sset_eq, sown_eq, sbind_eq, snx_eq, sif_eq, f1_eq, f2_eq, fN_eq, fcons_eq, fnil_eq, kc_eq, tv_eq, tb_eq, boolD_b, tor_eq, tand_eq, tnot_eq, vand_eq, vor_eq, spar_eq, iseq_eq, seqD_l, seqD_t, ienum_eq, enumD_l, enumD_t, irange1_eq, irange2_eq, fch_eq, chL_t, chL_f, fsl_eq, onone_eq, osome_eq, intO_i, sfor_eq, nm_0, nb_0, nbo_0, nm_s, nb_s, obs, obn, ls0, lsS, bindP1, bindT1, bindT2, bindT3, bindT4, tup0, tup1, tup2, tup3, tup4, lst0, lst1, lst2, lst3, lst4, lst5, lst7, lst8, isiD_i, isiD_ib, isiD_is, isiD_in, isiD_it, isiD_il, isiB_i, isiB_b, isiB_s, isiT_i, isiT_b, isiT_s, isiT_n, isiT_t, isiT_l, setE, addD_i, subD_i, negD_i, absD_i, ltD_i, leD_i, gtD_i, geD_i, eqD_i, neD_i, eqD_b, neD_b, isD_b, isntD_b, ixT0, ixT1, ixT2, ixT3, truD_b, truD_t, truD_l, lenD_t, lenD_l, notD_b, tupleD_l, tupleD_t, endD_ret, endD_rt, reduceIte, if_true, if_false, Bool.false_eq_true, Bool.not_true, Bool.not_false, decide_true, decide_false, Bool.true_eq, ne_eq])
local macro_rules | `(tactic| walk_at "pvo") => `(tactic| simp (disch := omega) only [addD_l, addD_t, rng1D_i, rng2D_i, wipe_nil, wipe_cons, sext_eq, sapp_eq, sput_eq, nxE_nx, farsD_n, turnsD_n, insideD_n, fM_eq, netB_n, seqD_d, sdrop_eq, slT_1, slL_1, slS_1, slT_2, slL_2, slS_2, slT_3, slL_3, slS_3, slT_4, slL_4, slS_4, slT_5, slL_5, slS_5, slT_6, slL_6, slS_6, slT_7, slL_7, slS_7, slT_8, slL_8, slS_8, slT_9, slL_9, slS_9, slT_10, slL_10, slS_10, slT_12, slL_12, slS_12, slT_16, slL_16, slS_16, listD_t, listD_l, mulD_r, mulD_l, modD_i, fdivD_i, sseq_eq, seqR_nx, seqR_rt, seqR_ite, endD_ite, bind_ite, sret_eq, sset_eq, sown_eq, sbind_eq, snx_eq, sif_eq, f1_eq, f2_eq, fN_eq, fcons_eq, fnil_eq, kc_eq, tv_eq, tb_eq, boolD_b, tor_eq, tand_eq, tnot_eq, vand_eq, vor_eq, spar_eq, iseq_eq, seqD_l, seqD_t, ienum_eq, enumD_l, enumD_t, irange1_eq, irange2_eq, fch_eq, chL_t, chL_f, fsl_eq, onone_eq, osome_eq, intO_i, sfor_eq, nm_0, nb_0, nbo_0, nm_s, nb_s, obs, obn, ls0, lsS, bindP1, bindT1, bindT2, bindT3, bindT4, tup0, tup1, tup2, tup3, tup4, lst0, lst1, lst2, lst3, lst4, lst5, lst7, lst8, isiD_i, isiD_ib, isiD_is, isiD_in, isiD_it, isiD_il, isiB_i, isiB_b, isiB_s, isiT_i, isiT_b, isiT_s, isiT_n, isiT_t, isiT_l, setE, addD_i, subD_i, negD_i, absD_i, ltD_i, leD_i, gtD_i, geD_i, eqD_i, neD_i, eqD_b, neD_b, isD_b, isntD_b, ixT0, ixT1, ixT2, ixT3, truD_b, truD_t, truD_l, lenD_t, lenD_l, notD_b, tupleD_l, tupleD_t, endD_ret, endD_rt, reduceIte, if_true, if_false, Bool.false_eq_true, Bool.not_true, Bool.not_false, decide_true, decide_false, Bool.true_eq, ne_eq])
/-! ### the law -/
noncomputable def L_cov : Env → Option Res :=
  (sseq (sset 6 (fN c__law_cells (fcons (nm 3) (fcons (kc (.int 6)) fnil))))
  (sseq (sset 7 (fN c__law_cells (fcons (nm 4) (fcons (kc (.int 6)) fnil))))
  (sseq (sset 8 (lcF [11] (iseq (nm 6)) (.one 11) (tv (f2 ixD (nb 6) (nb 11))) (nm 11)))
  (sseq (sset 9 (lcF [11] (iseq (nm 8)) (.one 11) (tv (f2 ixD (nb 7) (nb 11))) (nm 11)))
  (sseq (sset 10 (lcF [11] (iseq (nm 8)) (.one 11) (tnot (tv (f2 ixD (nb 7) (nb 11)))) (nm 11)))
  (sseq (sif (tor (tnot (tv (fN c__law_covers (fcons (fN c_plain (fcons (nm 3) fnil)) (fcons (nm 8) (fcons (kc (.int 6)) fnil)))))) (tb (f2 isntD (fN c_unlike (fcons (fN c_plain (fcons (nm 3) fnil)) (fcons (nm 3) fnil))) (kc .non))))
  (sret (kc (.bl false)))
  snx)
  (sseq (sif (tor (tnot (tv (fN c__law_covers (fcons (fN c_both_of (fcons (nm 3) (fcons (nm 4) fnil))) (fcons (nm 9) (fcons (kc (.int 6)) fnil)))))) (tnot (tv (fN c__law_covers (fcons (fN c_cut_out (fcons (nm 3) (fcons (nm 4) fnil))) (fcons (nm 10) (fcons (kc (.int 6)) fnil)))))))
  (sret (kc (.bl false)))
  snx)
  (sseq (sif (tb (f2 isntD (fN c_unlike (fcons (f2 addD (fN c_both_of (fcons (nm 3) (fcons (nm 4) fnil))) (fN c_cut_out (fcons (nm 3) (fcons (nm 4) fnil)))) (fcons (nm 3) fnil))) (kc .non)))
  (sret (kc (.bl false)))
  snx)
  (sif (tb (f2 neD (f2 addD (fN c_covered_area (fcons (fN c_both_of (fcons (nm 3) (fcons (nm 4) fnil))) fnil)) (fN c_covered_area (fcons (fN c_cut_out (fcons (nm 3) (fcons (nm 4) fnil))) fnil))) (fN c_covered_area (fcons (nm 3) fnil))))
  (sret (kc (.bl false)))
  snx)))))))))
abbrev EnvL (ns : List Int) (x1 x2 x3 x4 x5 x6 x7 x8 x9 x10 x11 : Sl) : Env := [.sh (.scr ns), x1, x2, x3, x4, x5, x6, x7, x8, x9, x10, x11]
theorem LY_empty {s : List Pc} {r t : Int} : (LY s r t).isEmpty = !cov s r t := by
  rw [← cov_len]
  cases LY s r t with
  | nil => rfl
  | cons _ _ => simp
theorem truD_eL {s : List Pc} {r t : Int} : truD (eL (LY s r t)) = some (cov s r t) := by
  show some (!((LY s r t).map fun k : Nat => D.int (k : Int)).isEmpty) = _
  rw [List.isEmpty_map, LY_empty, Bool.not_not]
abbrev gE (s1 : List Pc) : List (Nat × Nat) := (cellsG 7 24).filter fun c => cov s1 (c.1 : Int) (c.2 : Int)
theorem gE_b {s1 : List Pc} {c : Nat × Nat} (h : c ∈ gE s1) : c.1 < 6 + 1 ∧ c.2 < 24 := mem_cells.mp (List.mem_filter.mp h).1
theorem gE_l (s1 : List Pc) : (gE s1).length < big := Nat.lt_of_le_of_lt (List.length_filter_le _ _) (by rw [grid_len]; decide)
theorem mem_gE {s1 : List Pc} {r t : Nat} (hr : r < 7) (ht : t < 24) : (r, t) ∈ gE s1 ↔ cov s1 (r : Int) (t : Int) = true :=
  ⟨fun h => (List.mem_filter.mp h).2, fun h => List.mem_filter.mpr ⟨mem_cells.mpr ⟨hr, ht⟩, h⟩⟩
theorem cov_row {ns : List Int} {s1 s2 : List Pc} {x1 x2 x5 x6 x7 x8 x9 x10 x11 : Sl} (h1 : ∀ q ∈ s1, q.Ok ((6 : Nat) : Int)) (h2 : ∀ q ∈ s2, q.Ok ((6 : Nat) : Int)) (l1 : s1.length ≤ 5) (l2 : s2.length ≤ 4) :
    nxP (L_cov (EnvL ns x1 x2 (.sh (eS s1)) (.sh (eS s2)) x5 x6 x7 x8 x9 x10 x11)) (fun ρ => ∃ x1 x2 x3 x4 x5 x6 x7 x8 x9 x10 x11, ρ = EnvL ns x1 x2 x3 x4 x5 x6 x7 x8 x9 x10 x11) := by
  have hs : ∀ q ∈ s1 ++ s2, q.Ok ((6 : Nat) : Int) := fun q hq => (List.mem_append.mp hq).elim (h1 q) (h2 q)
  have ep := c_plain_t (m := ((6 : Nat) : Int)) (by decide) (by decide) h1 (show s1.length ≤ 300 by omega)
  have eb := c_both_of_t (m := ((6 : Nat) : Int)) (by decide) (by decide) h1 h2 (by omega)
  have ec := c_cut_out_t (m := ((6 : Nat) : Int)) (by decide) (by decide) h1 h2 (by omega)
  have fp : ∀ r t : Nat, r < 7 → t < 24 → _ := fun r t hr ht => plain_fine (M := 6) (r := r) (t := t) h1 (by omega) ht
  have fb : ∀ r t : Nat, r < 7 → t < 24 → _ := fun r t hr ht => both_fine (M := 6) (r := r) (t := t) h1 h2 (by omega) ht
  have fc : ∀ r t : Nat, r < 7 → t < 24 → _ := fun r t hr ht => cut_fine (M := 6) (r := r) (t := t) h1 h2 (by omega) ht
  have op : ∀ q ∈ pcs s1 (wPl s1), q.Ok ((6 : Nat) : Int) := pcs_ok (by decide) h1
  have ob : ∀ q ∈ pcs (s1 ++ s2) (wBo s1.length (s1 ++ s2)), q.Ok ((6 : Nat) : Int) := pcs_ok (by decide) hs
  have oc : ∀ q ∈ pcs (s1 ++ s2) (wCu s1.length (s1 ++ s2)), q.Ok ((6 : Nat) : Int) := pcs_ok (by decide) hs
  have lp : (pcs s1 (wPl s1)).length ≤ 144 := pcs_len h1
  have lb : (pcs (s1 ++ s2) (wBo s1.length (s1 ++ s2))).length ≤ 144 := pcs_len hs
  have lc : (pcs (s1 ++ s2) (wCu s1.length (s1 ++ s2))).length ≤ 144 := pcs_len hs
  generalize pcs s1 (wPl s1) = P at *
  generalize pcs (s1 ++ s2) (wBo s1.length (s1 ++ s2)) = B at *
  generalize pcs (s1 ++ s2) (wCu s1.length (s1 ++ s2)) = C at *
  have vp := covers_t (g := gE s1) op (by omega) fun r t hr ht => by
    rw [fp r t hr ht]
    by_cases h : cov s1 (r : Int) (t : Int) = true
    · rw [if_pos h, if_pos ((mem_gE hr ht).mpr h)]
    · rw [if_neg h, if_neg fun z => h ((mem_gE hr ht).mp z)]
  have vb := covers_t (g := (gE s1).filter fun c => cov s2 (c.1 : Int) (c.2 : Int)) ob (by omega) fun r t hr ht => by
    rw [fb r t hr ht]
    by_cases h : (cov s1 (r : Int) (t : Int) && cov s2 (r : Int) (t : Int)) = true
    · rw [if_pos h, if_pos]
      rw [Bool.and_eq_true] at h
      exact List.mem_filter.mpr ⟨(mem_gE hr ht).mpr h.1, h.2⟩
    · rw [if_neg h, if_neg fun z => h (by
        rw [Bool.and_eq_true]
        exact ⟨(mem_gE hr ht).mp (List.mem_filter.mp z).1, (List.mem_filter.mp z).2⟩)]
  have vc := covers_t (g := (gE s1).filter fun c => !cov s2 (c.1 : Int) (c.2 : Int)) oc (by omega) fun r t hr ht => by
    rw [fc r t hr ht]
    by_cases h : (cov s1 (r : Int) (t : Int) && !cov s2 (r : Int) (t : Int)) = true
    · rw [if_pos h, if_pos]
      rw [Bool.and_eq_true] at h
      exact List.mem_filter.mpr ⟨(mem_gE hr ht).mpr h.1, h.2⟩
    · rw [if_neg h, if_neg fun z => h (by
        rw [Bool.and_eq_true]
        exact ⟨(mem_gE hr ht).mp (List.mem_filter.mp z).1, (List.mem_filter.mp z).2⟩)]
  have up := unlike_none op h1 (by omega) fun r t hr ht => cov_of (fp r t hr ht)
  have ua : addD (eS B) (eS C) = some (eS (B ++ C)) := eS_app (by omega)
  have ub := unlike_none (X := B ++ C) (Y := s1) (fun q hq => (List.mem_append.mp hq).elim (ob q) (oc q)) h1 (by rw [List.length_append]; omega) fun r t hr ht => by
    rw [cov_app, cov_of (fb r t hr ht), cov_of (fc r t hr ht)]
    cases cov s1 (r : Int) (t : Int) <;> cases cov s2 (r : Int) (t : Int) <;> rfl
  have ab := c_covered_area_t (M := 6) (by decide) ob (by omega)
  have ac := c_covered_area_t (M := 6) (by decide) oc (by omega)
  have as := c_covered_area_t (M := 6) (by decide) h1 (by omega)
  have ar : covM 6 B + covM 6 C = covM 6 s1 := area_sum fun r t hr ht => by
    have e1 := fb r t hr ht
    have e2 := fc r t hr ht
    have e3 : decide (0 < (LY s1 (r : Int) (t : Int)).length) = cov s1 (r : Int) (t : Int) := cov_len
    have iB : ∀ (n : Nat) (b : Bool), n = (if b = true then 1 else 0) → ind (0 < n) = if b = true then 1 else 0 := fun n b h => by
      subst h
      cases b <;> rfl
    rw [iB _ _ e1, iB _ _ e2]
    have e4 : ind (0 < (LY s1 (r : Int) (t : Int)).length) = if cov s1 (r : Int) (t : Int) = true then 1 else 0 := by
      rw [← e3]
      unfold ind
      by_cases h : 0 < (LY s1 (r : Int) (t : Int)).length
      · rw [if_pos h, if_pos (decide_eq_true h)]
      · rw [if_neg h, if_neg (by rw [decide_eq_false h]; exact Bool.false_ne_true)]
    rw [e4]
    cases cov s1 (r : Int) (t : Int) <;> cases cov s2 (r : Int) (t : Int) <;> rfl
  unfold L_cov EnvL
  walk_at "pv"
  rw [cells6 h1 (by omega)]
  walk_at "pv"
  rw [cells6 h2 (by omega)]
  walk_at "pv"
  rw [lcF_map eC (fun c : Nat × Nat => cov s1 (c.1 : Int) (c.2 : Int)) eC (cellsG 7 24) (by
    walk_at "pv"
    rw [map_grid, map_grid]; rfl) (by rw [grid_len]; decide) (fun c hc => ⟨_, bindP1, by
    obtain ⟨hr, ht⟩ := mem_cells.mp hc
    walk_at "pv"
    rw [fine_at (M := 6) hr ht]
    walk_at "pv"
    rw [truD_eL], fun _ => by walk_at "pv"⟩)]
  walk_at "pv"
  rw [lcF_map eC (fun c : Nat × Nat => cov s2 (c.1 : Int) (c.2 : Int)) eC (gE s1) (by
    walk_at "pv") (gE_l s1) (fun c hc => ⟨_, bindP1, by
    obtain ⟨hr, ht⟩ := gE_b hc
    walk_at "pv"
    rw [fine_at (M := 6) hr ht]
    walk_at "pv"
    rw [truD_eL], fun _ => by walk_at "pv"⟩)]
  walk_at "pv"
  rw [lcF_map eC (fun c : Nat × Nat => !cov s2 (c.1 : Int) (c.2 : Int)) eC (gE s1) (by
    walk_at "pv") (gE_l s1) (fun c hc => ⟨_, bindP1, by
    obtain ⟨hr, ht⟩ := gE_b hc
    walk_at "pv"
    rw [fine_at (M := 6) hr ht]
    walk_at "pv"
    rw [truD_eL]
    walk_at "pv", fun _ => by walk_at "pv"⟩)]
  walk_at "pv"
  rw [ep]
  walk_at "pv"
  rw [vp]
  walk_at "pv"
  rw [up]
  walk_at "pv"
  rw [isntD_n, nonB_n]
  walk_at "pv"
  rw [eb]
  walk_at "pv"
  rw [vb]
  walk_at "pv"
  rw [ec]
  walk_at "pv"
  rw [vc]
  walk_at "pv"
  rw [eb, ec]
  walk_at "pv"
  rw [ua]
  walk_at "pv"
  rw [ub]
  walk_at "pv"
  rw [isntD_n, nonB_n]
  walk_at "pv"
  rw [eb, ec]
  walk_at "pv"
  rw [ab, ac]
  walk_at "pv"
  rw [as]
  walk_at "pv"
  rw [ar, beq_self_eq_true]
  walk_at "pv"
  exact nxP_nx ⟨_, _, _, _, _, _, _, _, _, _, _, rfl⟩
theorem law_true (ns : List Int) (hl : ns.length ≤ 63) : c_law [.scr ns] = some (.bl true) := by
  rw [st_law]
  unfold F_law
  walk_at "pv"
  rw [rng1D_i (by decide)]
  walk_at "pv"
  refine endP_seq (nxP_forI (I := fun ρ => ∃ x1 x2 x3 x4 x5 x6 x7 x8 x9 x10 x11, ρ = EnvL ns x1 x2 x3 x4 x5 x6 x7 x8 x9 x10 x11) (rangeL 0 2) (fun x hx ρ hρ => ?_) ⟨_, _, _, _, _, _, _, _, _, _, _, rfl⟩) (fun ρ hρ => ?_)
  · obtain ⟨x1, x2, x3, x4, x5, x6, x7, x8, x9, x10, x11, rfl⟩ := hρ
    obtain ⟨k, _, rfl⟩ := List.mem_map.mp hx
    refine ⟨_, bindP1, ?_⟩
    obtain ⟨c, hc⟩ := c__law_cell_t (ns := ns) (k := 3 * (0 + (k : Int))) (by omega)
    obtain ⟨d, hd⟩ := c__law_cell_t (ns := ns) (k := 3 * (0 + (k : Int)) + 1) (by omega)
    obtain ⟨e, he⟩ := c__law_cell_t (ns := ns) (k := 3 * (0 + (k : Int)) + 2) (by omega)
    have e1 := c__law_sheet_t (c := c) (m := 6) (n := 5) (by decide) (by decide) (by decide)
    have e2 := c__law_sheet_t (c := d) (m := 6) (n := 4) (by decide) (by decide) (by decide)
    have h1 : ∀ q ∈ sheetM c 6 5, q.Ok ((6 : Nat) : Int) := sheetM_ok (c := c) (m := 6) (n := 5) (by decide)
    have h2 : ∀ q ∈ sheetM d 6 4, q.Ok ((6 : Nat) : Int) := sheetM_ok (c := d) (m := 6) (n := 4) (by decide)
    have l1 := sheetM_len (c := c) (m := 6) (n := 5) (by decide)
    have l2 := sheetM_len (c := d) (m := 6) (n := 4) (by decide)
    generalize sheetM c 6 5 = s1 at *
    generalize sheetM d 6 4 = s2 at *
    have m1 := c__law_mix_t (c := e) (p := 9883) (m := 49) (by decide) (by decide)
    have m2 := c__law_mix_t (c := e) (p := 9871) (m := 9) (by decide) (by decide)
    obtain ⟨b1, b2⟩ := mix_b (c := e) (p := 9871) (m := 9) (by decide)
    have tr := turned_right_t (s := s1) (b := mixM e 9883 49 - 24) (k := 1 + mixM e 9871 9) h1 (by omega) (by omega) (by omega)
    show nxP ((sseq (sset 2 (fN c__law_cell (fcons (nm 0) (fcons (f2 mulD (kc (.int 3)) (nb 1)) fnil))))
      (sseq (sset 3 (fN c__law_sheet (fcons (nm 2) (fcons (kc (.int 6)) (fcons (kc (.int 5)) fnil)))))
      (sseq (sset 4 (fN c__law_sheet (fcons (fN c__law_cell (fcons (nm 0) (fcons (f2 addD (f2 mulD (kc (.int 3)) (nb 1)) (kc (.int 1))) fnil))) (fcons (kc (.int 6)) (fcons (kc (.int 4)) fnil)))))
      (sseq (sset 5 (fN c__law_cell (fcons (nm 0) (fcons (f2 addD (f2 mulD (kc (.int 3)) (nb 1)) (kc (.int 2))) fnil))))
      (sseq (sif (tnot (tv (fN c__law_turned_right (fcons (nm 3) (fcons (f2 subD (fN c__law_mix (fcons (nm 5) (fcons (kc (.int 9883)) (fcons (kc (.int 49)) fnil)))) (kc (.int 24))) (fcons (f2 addD (kc (.int 1)) (fN c__law_mix (fcons (nm 5) (fcons (kc (.int 9871)) (fcons (kc (.int 9)) fnil))))) fnil))))))
      (sret (kc (.bl false)))
      snx)
      L_cov))))) _) _
    unfold EnvL
    walk_at "pv"
    rw [mulD_l (by decide)]
    walk_at "pv"
    rw [hc]
    walk_at "pv"
    rw [e1]
    walk_at "pv"
    rw [mulD_l (by decide)]
    walk_at "pv"
    rw [hd]
    walk_at "pv"
    rw [e2]
    walk_at "pv"
    rw [mulD_l (by decide)]
    walk_at "pv"
    rw [he]
    walk_at "pv"
    rw [m1]
    walk_at "pv"
    rw [m2]
    walk_at "pv"
    rw [tr]
    exact cov_row h1 h2 (by omega) (by omega)
  · obtain ⟨x1, x2, x3, x4, x5, x6, x7, x8, x9, x10, x11, rfl⟩ := hρ
    unfold EnvL
    walk_at "pv"
end Pv
set_option Elab.async false
set_option linter.all false
set_option maxRecDepth 100000
set_option maxHeartbeats 0
set_option autoImplicit false
namespace Pv
open PySem PySem.Spec PyProof.Rows L2
/-! ### the head: facts by names, one kernel run -/
theorem fun_of {K : PySem.W.Frag} {x qual : Str} {st : Stmt} {f : Addr} {fd : FuncData} (F : FunD K x qual (defArgs st) (defBody st) (defScope st) [] [] f fd) : Fun K x qual st f fd := by
  obtain ⟨⟨oc, od, dV, kV, doc, pm, an, cdv, ct, osl, e, l, c, d, k⟩, kp⟩ := F
  rcases d with ⟨_, e2⟩ | ⟨z, _⟩
  · subst e2
    exact ⟨⟨oc, od, kV, doc, pm, an, cdv, ct, osl, e, l, c⟩, kp⟩
  · exact absurd rfl z
def dd_common : He.DefD := ⟨("common", none), "common", "common", defArgs s_common, defBody s_common, defScope s_common, [], []⟩
def dd_is_more : He.DefD := ⟨("is_more", none), "is_more", "is_more", defArgs s_is_more, defBody s_is_more, defScope s_is_more, [], []⟩
def dd_Net_width : He.DefD := ⟨("Net", some "width"), "width", "Net.width", defArgs s_Net_width, defBody s_Net_width, defScope s_Net_width, [], []⟩
def dd_Net_beside : He.DefD := ⟨("Net", some "beside"), "beside", "Net.beside", defArgs s_Net_beside, defBody s_Net_beside, defScope s_Net_beside, [], []⟩
def dd_Net_bounded : He.DefD := ⟨("Net", some "bounded"), "bounded", "Net.bounded", defArgs s_Net_bounded, defBody s_Net_bounded, defScope s_Net_bounded, [], []⟩
def dd_half : He.DefD := ⟨("half", none), "half", "half", defArgs s_half, defBody s_half, defScope s_half, [], []⟩
def dd_turned : He.DefD := ⟨("turned", none), "turned", "turned", defArgs s_turned, defBody s_turned, defScope s_turned, [], []⟩
def dd_mirrored : He.DefD := ⟨("mirrored", none), "mirrored", "mirrored", defArgs s_mirrored, defBody s_mirrored, defScope s_mirrored, [], []⟩
def dd_grown : He.DefD := ⟨("grown", none), "grown", "grown", defArgs s_grown, defBody s_grown, defScope s_grown, [], []⟩
def dd_is_outermost : He.DefD := ⟨("is_outermost", none), "is_outermost", "is_outermost", defArgs s_is_outermost, defBody s_is_outermost, defScope s_is_outermost, [], []⟩
def dd_covered : He.DefD := ⟨("covered", none), "covered", "covered", defArgs s_covered, defBody s_covered, defScope s_covered, [], []⟩
def dd__law_cell : He.DefD := ⟨("_law_cell", none), "_law_cell", "_law_cell", defArgs s__law_cell, defBody s__law_cell, defScope s__law_cell, [], []⟩
def dd__law_mix : He.DefD := ⟨("_law_mix", none), "_law_mix", "_law_mix", defArgs s__law_mix, defBody s__law_mix, defScope s__law_mix, [], []⟩
def dd__law_has : He.DefD := ⟨("_law_has", none), "_law_has", "_law_has", defArgs s__law_has, defBody s__law_has, defScope s__law_has, [], []⟩
def dd_fraction : He.DefD := ⟨("fraction", none), "fraction", "fraction", defArgs s_fraction, defBody s_fraction, defScope s_fraction, [], []⟩
def dd_Net_point_in : He.DefD := ⟨("Net", some "point_in"), "point_in", "Net.point_in", defArgs s_Net_point_in, defBody s_Net_point_in, defScope s_Net_point_in, [], []⟩
def dd_Net_area : He.DefD := ⟨("Net", some "area"), "area", "Net.area", defArgs s_Net_area, defBody s_Net_area, defScope s_Net_area, [], []⟩
def dd_hanging : He.DefD := ⟨("hanging", none), "hanging", "hanging", defArgs s_hanging, defBody s_hanging, defScope s_hanging, [], []⟩
def dd_pieces_where : He.DefD := ⟨("pieces_where", none), "pieces_where", "pieces_where", defArgs s_pieces_where, defBody s_pieces_where, defScope s_pieces_where, [], []⟩
def dd__law_piece : He.DefD := ⟨("_law_piece", none), "_law_piece", "_law_piece", defArgs s__law_piece, defBody s__law_piece, defScope s__law_piece, [], []⟩
def dd__law_layers : He.DefD := ⟨("_law_layers", none), "_law_layers", "_law_layers", defArgs s__law_layers, defBody s__law_layers, defScope s__law_layers, [], []⟩
def dd_less : He.DefD := ⟨("less", none), "less", "less", defArgs s_less, defBody s_less, defScope s_less, [], []⟩
def dd_on_round : He.DefD := ⟨("on_round", none), "on_round", "on_round", defArgs s_on_round, defBody s_on_round, defScope s_on_round, [], []⟩
def dd_face_groups : He.DefD := ⟨("face_groups", none), "face_groups", "face_groups", defArgs s_face_groups, defBody s_face_groups, defScope s_face_groups, [], []⟩
def dd__law_sheet : He.DefD := ⟨("_law_sheet", none), "_law_sheet", "_law_sheet", defArgs s__law_sheet, defBody s__law_sheet, defScope s__law_sheet, [], []⟩
def dd__law_cells : He.DefD := ⟨("_law_cells", none), "_law_cells", "_law_cells", defArgs s__law_cells, defBody s__law_cells, defScope s__law_cells, [], []⟩
def dd_has : He.DefD := ⟨("has", none), "has", "has", defArgs s_has, defBody s_has, defScope s_has, [], []⟩
def dd__law_covers : He.DefD := ⟨("_law_covers", none), "_law_covers", "_law_covers", defArgs s__law_covers, defBody s__law_covers, defScope s__law_covers, [], []⟩
def dd_layers : He.DefD := ⟨("layers", none), "layers", "layers", defArgs s_layers, defBody s_layers, defScope s_layers, [], []⟩
def dd_Net___init__ : He.DefD := ⟨("Net", some "__init__"), "__init__", "Net.__init__", defArgs s_Net___init__, defBody s_Net___init__, defScope s_Net___init__, [], []⟩
def dd_plain : He.DefD := ⟨("plain", none), "plain", "plain", defArgs s_plain, defBody s_plain, defScope s_plain, [], []⟩
def dd_both_of : He.DefD := ⟨("both_of", none), "both_of", "both_of", defArgs s_both_of, defBody s_both_of, defScope s_both_of, [], []⟩
def dd_cut_out : He.DefD := ⟨("cut_out", none), "cut_out", "cut_out", defArgs s_cut_out, defBody s_cut_out, defScope s_cut_out, [], []⟩
def dd_depth_areas : He.DefD := ⟨("depth_areas", none), "depth_areas", "depth_areas", defArgs s_depth_areas, defBody s_depth_areas, defScope s_depth_areas, [], []⟩
def dd_unlike : He.DefD := ⟨("unlike", none), "unlike", "unlike", defArgs s_unlike, defBody s_unlike, defScope s_unlike, [], []⟩
def dd_faces : He.DefD := ⟨("faces", none), "faces", "faces", defArgs s_faces, defBody s_faces, defScope s_faces, [], []⟩
def dd_lands : He.DefD := ⟨("lands", none), "lands", "lands", defArgs s_lands, defBody s_lands, defScope s_lands, [], []⟩
def dd_holes : He.DefD := ⟨("holes", none), "holes", "holes", defArgs s_holes, defBody s_holes, defScope s_holes, [], []⟩
def dd_border : He.DefD := ⟨("border", none), "border", "border", defArgs s_border, defBody s_border, defScope s_border, [], []⟩
def dd_covered_area : He.DefD := ⟨("covered_area", none), "covered_area", "covered_area", defArgs s_covered_area, defBody s_covered_area, defScope s_covered_area, [], []⟩
def dd_face_count : He.DefD := ⟨("face_count", none), "face_count", "face_count", defArgs s_face_count, defBody s_face_count, defScope s_face_count, [], []⟩
def dd__law_turned_right : He.DefD := ⟨("_law_turned_right", none), "_law_turned_right", "_law_turned_right", defArgs s__law_turned_right, defBody s__law_turned_right, defScope s__law_turned_right, [], []⟩
def dd_law : He.DefD := ⟨("law", none), "law", "law", defArgs s_law, defBody s_law, defScope s_law, [], []⟩
def fnL : List He.DefD := ([dd_common, dd_is_more, dd_Net_width, dd_Net_beside, dd_Net_bounded, dd_half, dd_turned, dd_mirrored, dd_grown, dd_is_outermost, dd_covered, dd__law_cell, dd__law_mix, dd__law_has, dd_fraction, dd_Net_point_in, dd_Net_area, dd_hanging, dd_pieces_where, dd__law_piece, dd__law_layers, dd_less, dd_on_round, dd_face_groups, dd__law_sheet, dd__law_cells, dd_has, dd__law_covers, dd_layers, dd_Net___init__] : List He.DefD) ++ ([dd_plain, dd_both_of, dd_cut_out, dd_depth_areas, dd_unlike, dd_faces, dd_lands, dd_holes, dd_border, dd_covered_area, dd_face_count, dd__law_turned_right, dd_law] : List He.DefD)
def faL : List He.Fa := ([.glo "common", .glo "is_more", .glo "half", .glo "turned", .glo "mirrored", .glo "grown", .glo "is_outermost", .glo "covered", .glo "_law_cell", .glo "_law_mix", .glo "_law_has", .glo "fraction", .glo "hanging", .glo "pieces_where", .glo "_law_piece", .glo "_law_layers", .glo "less", .glo "on_round", .glo "face_groups", .glo "_law_sheet", .glo "_law_cells", .glo "has", .glo "_law_covers", .glo "layers", .glo "plain", .glo "both_of", .glo "cut_out", .glo "depth_areas", .glo "unlike", .glo "faces"] : List He.Fa) ++ ([.glo "lands", .glo "holes", .glo "border", .glo "covered_area", .glo "face_count", .glo "_law_turned_right", .glo "law", .glo "Net", .cls "Net", .noat "Net" "fars", .noat "Net" "turns", .noat "Net" "inside", .mkr "Net", .meth "Net" "width", .meth "Net" "beside", .meth "Net" "bounded", .meth "Net" "point_in", .meth "Net" "area", .free "abs", .free "any", .free "enumerate", .free "int", .free "len", .free "range", .free "set", .free "sorted", .free "sum", .free "tuple"] : List He.Fa)
/-- the code object of a def, its table -/
def codA (K : PySem.W.Frag) (x : Str) : Addr := match codeV K (He.ga K x) with
  | some (.ref c) => c
  | _ => 0
def tabA (K : PySem.W.Frag) (x : Str) : Addr := match K.lookup (codA K x) with
  | some ⟨_, _, .fields vs, _⟩ => (match (vs[11]? : Option Value) with
    | some (.ref P) => P
    | _ => 0)
  | _ => 0
def tab3 (K : PySem.W.Frag) : List Addr := [tabA K "plain", tabA K "both_of", tabA K "cut_out"]
def hid (K : PySem.W.Frag) : PySem.W.Frag := K.filter fun p => !(tab3 K).contains p.1
theorem lookup_filter {K : PySem.W.Frag} {f : Addr → Bool} {a : Addr} {o : Obj} (h : (K.filter fun p => f p.1).lookup a = some o) : K.lookup a = some o ∧ f a = true := by
  induction K with
  | nil => cases h
  | cons p r ih =>
    rw [List.filter_cons] at h
    obtain ⟨b, ob⟩ := p
    cases hf : f b with
    | true =>
      rw [if_pos hf] at h
      have h2 : (match a == b with | true => some ob | false => (r.filter fun p => f p.1).lookup a) = some o := h
      have g2 : List.lookup a ((b, ob) :: r) = (match a == b with | true => some ob | false => r.lookup a) := rfl
      rw [g2]
      cases q : (a == b) with
      | true => rw [q] at h2; rw [beq_iff_eq.mp q]; exact ⟨h2, hf⟩
      | false => rw [q] at h2; exact ih h2
    | false =>
      rw [if_neg (by rw [hf]; exact Bool.false_ne_true)] at h
      obtain ⟨i1, i2⟩ := ih h
      have g2 : List.lookup a ((b, ob) :: r) = (match a == b with | true => some ob | false => r.lookup a) := rfl
      rw [g2]
      cases q : (a == b) with
      | true => rw [beq_iff_eq.mp q, hf] at i2; cases i2
      | false => exact ⟨i1, i2⟩
theorem hid_in {K : PySem.W.Frag} {h : Heap} (X : K.In h) : (hid K).In h := fun a o e => X a o (lookup_filter (f := fun a => !(tab3 K).contains a) e).1
theorem hid_no {K : PySem.W.Frag} {P : Addr} (h : P ∈ tab3 K) : (hid K).lookup P = none := by
  cases e : (hid K).lookup P with
  | none => rfl
  | some o =>
    have := (lookup_filter (f := fun a => !(tab3 K).contains a) e).2
    rw [List.contains_iff_mem.mpr h] at this
    cases this
def emT (o : Option Obj) : Bool := match o with
  | some ⟨.none, none, .fields vs, sl⟩ => vs.isEmpty && sl.isEmpty
  | _ => false
theorem emT_ok {o : Option Obj} (h : emT o = true) : o = some { cls := .none, data := .fields #[] } := by
  unfold emT at h
  split at h
  · rename_i vs sl
    simp only [Bool.and_eq_true, Array.isEmpty_iff] at h
    rw [h.1, h.2]
  · cases h
def cod1 (K : PySem.W.Frag) (x : Str) : Bool := decide (codeV (hid K) (He.ga (hid K) x) = some (.ref (codA K x))) && PySem.W.codeHdIn (hid K) (codA K x) (tabA K x)
/-- what is asked of the three defs that make function values -/
def xtra (K : PySem.W.Frag) : Bool := (cod1 K "plain" && (cod1 K "both_of" && cod1 K "cut_out")) && decide (tab3 K).Nodup
abbrev AlX : Type := He.AlD × (Bool × List Bool)
def obsX (K : PySem.W.Frag) (g : Addr → Option Obj) : AlX := (He.obsD faL fnL (hid K), (xtra K, (tab3 K).map fun P => emT (g P)))
def valX : AlX := (He.valD fnL, (true, [true, true, true]))
def SaysX (K : PySem.W.Frag) (g : Addr → Option Obj) : Prop := obsX K g = valX
def obsXG (g : Addr → Option Obj) : AlX := obsX (He.frG g (He.asD g 4)) g
theorem tab3_in {K : PySem.W.Frag} {g : Addr → Option Obj} (h : (tab3 K).map (fun P => emT (g P)) = [true, true, true]) : ∀ P ∈ tab3 K, g P = some { cls := .none, data := .fields #[] } := by
  have e : [emT (g (tabA K "plain")), emT (g (tabA K "both_of")), emT (g (tabA K "cut_out"))] = [true, true, true] := h
  simp only [List.cons.injEq, and_true] at e
  intro P hP
  rcases List.mem_cons.mp hP with rfl | hP
  · exact emT_ok e.1
  · rcases List.mem_cons.mp hP with rfl | hP
    · exact emT_ok e.2.1
    · rw [List.mem_singleton.mp hP]; exact emT_ok e.2.2
def hkL : PySem.W.Hook where
  α := AlX
  obs := fun s => obsXG s.heap.get?
  val := fun _ => valX
  says := fun _ h => ∃ K : PySem.W.Frag, K.In h ∧ He.SaysD faL fnL (hid K) ∧ xtra K = true ∧ ∀ P ∈ tab3 K, h.get? P = some { cls := .none, data := .fields #[] }
  of := fun _ _ e => ⟨_, He.frG_in, congrArg (fun z : AlX => z.1) e, congrArg (fun z : AlX => z.2.1) e, tab3_in (congrArg (fun z : AlX => z.2.2) e)⟩
  keeps := fun _ _ _ ⟨K, hK, c, x, t⟩ k => ⟨K, PySem.W.Frag.In.keeps hK k, c, x, fun P hP => k _ _ (t P hP)⟩
theorem obsXG_eq {g : Addr → Option Obj} {s : Shared} (h : ∀ a, g a = s.heap.get? a) : obsXG g = hkL.obs s := by
  have e : g = s.heap.get? := funext h
  rw [e] <;> rfl
abbrev Rw : PySem.W.OpenRow := PySem.W.OpenLaw.row PySem.Challenge.rw_ringlayers_k09_whole_sheets_changed
def obL (s : PySem.W.SharedT) : AlX := obsXG (HandSHeadRun.getT s)
theorem obL_eq (s : PySem.W.SharedT) : obL s = hkL.obs s.abs := obsXG_eq (HandSHeadRun.getT_eq s)
def looseL : List Str := (["_wall", "common", "fraction", "less", "is_more", "on_round", "has", "layers", "Net", "half", "hanging", "turned", "mirrored", "grown", "pieces_where", "plain", "both_of", "cut_out", "depth_areas", "covered_area", "unlike", "face_groups", "is_outermost", "faces", "face_count", "covered", "lands", "holes", "border", "_law_cell"] : List Str) ++ (["_law_mix", "_law_piece", "_law_sheet", "_law_has", "_law_layers", "_law_cells", "_law_area", "_law_turned_right", "_law_covers"] : List Str)
theorem runL (w : World) : HandSHeadRun.RunEq Rw (PySem.W.view Rw.prog [46]) hkL obL 3000 looseL w := by
  intro os
  kernel_rfl
/-- the end of a law that makes function values -/
theorem walk_ofET {l : PySem.W.OpenLaw} {n k : Nat} {q : Program} {loose : List Str} {XP : (Str → Option Value) → Heap → Prop} {YP : World → Heap → Prop} {d : DefRec} {CX : CXT} {x : Str} (hn : l.most = some n) (hn2 : n ≤ sizeLine) (hdf : d.params.defaults = []) (hr : Room k callerA)
    (F : ∀ (w : World) (mg : Str → Option Value) (fa : Addr) (h : Heap), YP w h → h.Ns mainGlobals mg → mg d.name = some (.ref fa) → ∃ K : PySem.W.Frag, K.In h ∧ LamX.LawAtS l w K CX k n x mg fa h)
    (never : ∀ (H : Hp) (s : Shared) (e : Value) (s' : Shared), CX [] H s (fun _ _ _ => False) e s' → False) : PySem.W.WalkO q loose XP YP l.row.toRowW d [] (fun f vs => PySem.call f vs) := by
  refine Att.attach_callB hn hdf fun w s0 s1 mg mb fa o pm cd doc a vs ns G Y ho hd hcd gm obj intsA len bitsA gensA => ?_
  obtain ⟨K, KX, fd, cs, sp, t1, t2, t3, b1, b2, b3⟩ := F w mg fa _ Y G.T.g gm
  exact LamX.law_callTs KX G.T.g G.T.b G.T.builtins G.T.nolimit gensA t1 t2 t3 G.T.bmain obj intsA (Nat.le_trans len hn2) hr b3 b1 (fun H e1 e2 => b2 H a ns len bitsA e1 e2) fun H e s2 => never H s1 e s2
/-- the law's own promise -/
def spLw [TabT] (K : PySem.W.Frag) : Sp := fun vs H Q _ => ∃ (a : Addr) (ns : List Int), vs = [.ref a] ∧ SqL K H a (ns.map V.int) ∧ ns.length ≤ 63 ∧ TbH H ∧ ∀ H', Q (.bl true) H'
theorem factsL {w : World} {K : PySem.W.Frag} {h : Heap} {mg : Str → Option Value} {f : Addr} (X : K.In h) (Gn : h.Ns mainGlobals mg) (hfa : mg ("law" : Str) = some (.ref f)) (c : He.SaysD faL fnL K) {c1 c2 c3 P1 P2 P3 : Addr}
    (v1 : codeV K (He.ga K "plain") = some (.ref c1)) (v2 : codeV K (He.ga K "both_of") = some (.ref c2)) (v3 : codeV K (He.ga K "cut_out") = some (.ref c3)) (d1 : PySem.W.codeHdIn K c1 P1 = true) (d2 : PySem.W.codeHdIn K c2 P2 = true) (d3 : PySem.W.codeHdIn K c3 P3 = true)
    (n1 : K.lookup P1 = none) (n2 : K.lookup P2 = none) (n3 : K.lookup P3 = none) (t1 : h.get? P1 = some { cls := .none, data := .fields #[] }) (t2 : h.get? P2 = some { cls := .none, data := .fields #[] }) (t3 : h.get? P3 = some { cls := .none, data := .fields #[] })
    (nd12 : P1 ≠ P2) (nd13 : P1 ≠ P3) (nd23 : P2 ≠ P3) : LamX.LawAtS (PySem.Challenge.rw_ringlayers_k09_whole_sheets_changed) w K CX0 11 63 "_law_script" mg f h := by
  letI TI' : TabT := ⟨[(P1, q_plain), (P2, q_both_of), (P3, q_cut_out)]⟩
  have all3 : ∀ (Pr : Addr × Addr → Prop), Pr (c1, P1) → Pr (c2, P2) → Pr (c3, P3) → ∀ p ∈ [(c1, P1), (c2, P2), (c3, P3)], Pr p := fun Pr a b d p hp => by
    rcases List.mem_cons.mp hp with rfl | hp
    · exact a
    · rcases List.mem_cons.mp hp with rfl | hp
      · exact b
      · rw [List.mem_singleton.mp hp]; exact d
  have allT : ∀ (Pr : Addr × Str → Prop), Pr (P1, q_plain) → Pr (P2, q_both_of) → Pr (P3, q_cut_out) → ∀ p ∈ TabT.T, Pr p := fun Pr a b d p hp => by
    rcases List.mem_cons.mp hp with rfl | hp
    · exact a
    · rcases List.mem_cons.mp hp with rfl | hp
      · exact b
      · rw [List.mem_singleton.mp hp]; exact d
  obtain ⟨fd_common, FD_common⟩ := c.def_ 0 (d := dd_common) rfl
  have Fn_common : Fun K "common" "common" s_common (He.fAd K dd_common.at_) fd_common := fun_of FD_common
  obtain ⟨fd_is_more, FD_is_more⟩ := c.def_ 1 (d := dd_is_more) rfl
  have Fn_is_more : Fun K "is_more" "is_more" s_is_more (He.fAd K dd_is_more.at_) fd_is_more := fun_of FD_is_more
  obtain ⟨fd_Net_width, FD_Net_width⟩ := c.def_ 2 (d := dd_Net_width) rfl
  have Fn_Net_width : Fun K "width" "Net.width" s_Net_width (He.fAd K dd_Net_width.at_) fd_Net_width := fun_of FD_Net_width
  obtain ⟨fd_Net_beside, FD_Net_beside⟩ := c.def_ 3 (d := dd_Net_beside) rfl
  have Fn_Net_beside : Fun K "beside" "Net.beside" s_Net_beside (He.fAd K dd_Net_beside.at_) fd_Net_beside := fun_of FD_Net_beside
  obtain ⟨fd_Net_bounded, FD_Net_bounded⟩ := c.def_ 4 (d := dd_Net_bounded) rfl
  have Fn_Net_bounded : Fun K "bounded" "Net.bounded" s_Net_bounded (He.fAd K dd_Net_bounded.at_) fd_Net_bounded := fun_of FD_Net_bounded
  obtain ⟨fd_half, FD_half⟩ := c.def_ 5 (d := dd_half) rfl
  have Fn_half : Fun K "half" "half" s_half (He.fAd K dd_half.at_) fd_half := fun_of FD_half
  obtain ⟨fd_turned, FD_turned⟩ := c.def_ 6 (d := dd_turned) rfl
  have Fn_turned : Fun K "turned" "turned" s_turned (He.fAd K dd_turned.at_) fd_turned := fun_of FD_turned
  obtain ⟨fd_mirrored, FD_mirrored⟩ := c.def_ 7 (d := dd_mirrored) rfl
  have Fn_mirrored : Fun K "mirrored" "mirrored" s_mirrored (He.fAd K dd_mirrored.at_) fd_mirrored := fun_of FD_mirrored
  obtain ⟨fd_grown, FD_grown⟩ := c.def_ 8 (d := dd_grown) rfl
  have Fn_grown : Fun K "grown" "grown" s_grown (He.fAd K dd_grown.at_) fd_grown := fun_of FD_grown
  obtain ⟨fd_is_outermost, FD_is_outermost⟩ := c.def_ 9 (d := dd_is_outermost) rfl
  have Fn_is_outermost : Fun K "is_outermost" "is_outermost" s_is_outermost (He.fAd K dd_is_outermost.at_) fd_is_outermost := fun_of FD_is_outermost
  obtain ⟨fd_covered, FD_covered⟩ := c.def_ 10 (d := dd_covered) rfl
  have Fn_covered : Fun K "covered" "covered" s_covered (He.fAd K dd_covered.at_) fd_covered := fun_of FD_covered
  obtain ⟨fd__law_cell, FD__law_cell⟩ := c.def_ 11 (d := dd__law_cell) rfl
  have Fn__law_cell : Fun K "_law_cell" "_law_cell" s__law_cell (He.fAd K dd__law_cell.at_) fd__law_cell := fun_of FD__law_cell
  obtain ⟨fd__law_mix, FD__law_mix⟩ := c.def_ 12 (d := dd__law_mix) rfl
  have Fn__law_mix : Fun K "_law_mix" "_law_mix" s__law_mix (He.fAd K dd__law_mix.at_) fd__law_mix := fun_of FD__law_mix
  obtain ⟨fd__law_has, FD__law_has⟩ := c.def_ 13 (d := dd__law_has) rfl
  have Fn__law_has : Fun K "_law_has" "_law_has" s__law_has (He.fAd K dd__law_has.at_) fd__law_has := fun_of FD__law_has
  obtain ⟨fd_fraction, FD_fraction⟩ := c.def_ 14 (d := dd_fraction) rfl
  have Fn_fraction : Fun K "fraction" "fraction" s_fraction (He.fAd K dd_fraction.at_) fd_fraction := fun_of FD_fraction
  obtain ⟨fd_Net_point_in, FD_Net_point_in⟩ := c.def_ 15 (d := dd_Net_point_in) rfl
  have Fn_Net_point_in : Fun K "point_in" "Net.point_in" s_Net_point_in (He.fAd K dd_Net_point_in.at_) fd_Net_point_in := fun_of FD_Net_point_in
  obtain ⟨fd_Net_area, FD_Net_area⟩ := c.def_ 16 (d := dd_Net_area) rfl
  have Fn_Net_area : Fun K "area" "Net.area" s_Net_area (He.fAd K dd_Net_area.at_) fd_Net_area := fun_of FD_Net_area
  obtain ⟨fd_hanging, FD_hanging⟩ := c.def_ 17 (d := dd_hanging) rfl
  have Fn_hanging : Fun K "hanging" "hanging" s_hanging (He.fAd K dd_hanging.at_) fd_hanging := fun_of FD_hanging
  obtain ⟨fd_pieces_where, FD_pieces_where⟩ := c.def_ 18 (d := dd_pieces_where) rfl
  have Fn_pieces_where : Fun K "pieces_where" "pieces_where" s_pieces_where (He.fAd K dd_pieces_where.at_) fd_pieces_where := fun_of FD_pieces_where
  obtain ⟨fd__law_piece, FD__law_piece⟩ := c.def_ 19 (d := dd__law_piece) rfl
  have Fn__law_piece : Fun K "_law_piece" "_law_piece" s__law_piece (He.fAd K dd__law_piece.at_) fd__law_piece := fun_of FD__law_piece
  obtain ⟨fd__law_layers, FD__law_layers⟩ := c.def_ 20 (d := dd__law_layers) rfl
  have Fn__law_layers : Fun K "_law_layers" "_law_layers" s__law_layers (He.fAd K dd__law_layers.at_) fd__law_layers := fun_of FD__law_layers
  obtain ⟨fd_less, FD_less⟩ := c.def_ 21 (d := dd_less) rfl
  have Fn_less : Fun K "less" "less" s_less (He.fAd K dd_less.at_) fd_less := fun_of FD_less
  obtain ⟨fd_on_round, FD_on_round⟩ := c.def_ 22 (d := dd_on_round) rfl
  have Fn_on_round : Fun K "on_round" "on_round" s_on_round (He.fAd K dd_on_round.at_) fd_on_round := fun_of FD_on_round
  obtain ⟨fd_face_groups, FD_face_groups⟩ := c.def_ 23 (d := dd_face_groups) rfl
  have Fn_face_groups : Fun K "face_groups" "face_groups" s_face_groups (He.fAd K dd_face_groups.at_) fd_face_groups := fun_of FD_face_groups
  obtain ⟨fd__law_sheet, FD__law_sheet⟩ := c.def_ 24 (d := dd__law_sheet) rfl
  have Fn__law_sheet : Fun K "_law_sheet" "_law_sheet" s__law_sheet (He.fAd K dd__law_sheet.at_) fd__law_sheet := fun_of FD__law_sheet
  obtain ⟨fd__law_cells, FD__law_cells⟩ := c.def_ 25 (d := dd__law_cells) rfl
  have Fn__law_cells : Fun K "_law_cells" "_law_cells" s__law_cells (He.fAd K dd__law_cells.at_) fd__law_cells := fun_of FD__law_cells
  obtain ⟨fd_has, FD_has⟩ := c.def_ 26 (d := dd_has) rfl
  have Fn_has : Fun K "has" "has" s_has (He.fAd K dd_has.at_) fd_has := fun_of FD_has
  obtain ⟨fd__law_covers, FD__law_covers⟩ := c.def_ 27 (d := dd__law_covers) rfl
  have Fn__law_covers : Fun K "_law_covers" "_law_covers" s__law_covers (He.fAd K dd__law_covers.at_) fd__law_covers := fun_of FD__law_covers
  obtain ⟨fd_layers, FD_layers⟩ := c.def_ 28 (d := dd_layers) rfl
  have Fn_layers : Fun K "layers" "layers" s_layers (He.fAd K dd_layers.at_) fd_layers := fun_of FD_layers
  obtain ⟨fd_Net___init__, FD_Net___init__⟩ := c.def_ 29 (d := dd_Net___init__) rfl
  have Fn_Net___init__ : Fun K "__init__" "Net.__init__" s_Net___init__ (He.fAd K dd_Net___init__.at_) fd_Net___init__ := fun_of FD_Net___init__
  obtain ⟨fd_plain, FD_plain⟩ := c.def_ 30 (d := dd_plain) rfl
  have Fn_plain : Fun K "plain" "plain" s_plain (He.fAd K dd_plain.at_) fd_plain := fun_of FD_plain
  obtain ⟨fd_both_of, FD_both_of⟩ := c.def_ 31 (d := dd_both_of) rfl
  have Fn_both_of : Fun K "both_of" "both_of" s_both_of (He.fAd K dd_both_of.at_) fd_both_of := fun_of FD_both_of
  obtain ⟨fd_cut_out, FD_cut_out⟩ := c.def_ 32 (d := dd_cut_out) rfl
  have Fn_cut_out : Fun K "cut_out" "cut_out" s_cut_out (He.fAd K dd_cut_out.at_) fd_cut_out := fun_of FD_cut_out
  obtain ⟨fd_depth_areas, FD_depth_areas⟩ := c.def_ 33 (d := dd_depth_areas) rfl
  have Fn_depth_areas : Fun K "depth_areas" "depth_areas" s_depth_areas (He.fAd K dd_depth_areas.at_) fd_depth_areas := fun_of FD_depth_areas
  obtain ⟨fd_unlike, FD_unlike⟩ := c.def_ 34 (d := dd_unlike) rfl
  have Fn_unlike : Fun K "unlike" "unlike" s_unlike (He.fAd K dd_unlike.at_) fd_unlike := fun_of FD_unlike
  obtain ⟨fd_faces, FD_faces⟩ := c.def_ 35 (d := dd_faces) rfl
  have Fn_faces : Fun K "faces" "faces" s_faces (He.fAd K dd_faces.at_) fd_faces := fun_of FD_faces
  obtain ⟨fd_lands, FD_lands⟩ := c.def_ 36 (d := dd_lands) rfl
  have Fn_lands : Fun K "lands" "lands" s_lands (He.fAd K dd_lands.at_) fd_lands := fun_of FD_lands
  obtain ⟨fd_holes, FD_holes⟩ := c.def_ 37 (d := dd_holes) rfl
  have Fn_holes : Fun K "holes" "holes" s_holes (He.fAd K dd_holes.at_) fd_holes := fun_of FD_holes
  obtain ⟨fd_border, FD_border⟩ := c.def_ 38 (d := dd_border) rfl
  have Fn_border : Fun K "border" "border" s_border (He.fAd K dd_border.at_) fd_border := fun_of FD_border
  obtain ⟨fd_covered_area, FD_covered_area⟩ := c.def_ 39 (d := dd_covered_area) rfl
  have Fn_covered_area : Fun K "covered_area" "covered_area" s_covered_area (He.fAd K dd_covered_area.at_) fd_covered_area := fun_of FD_covered_area
  obtain ⟨fd_face_count, FD_face_count⟩ := c.def_ 40 (d := dd_face_count) rfl
  have Fn_face_count : Fun K "face_count" "face_count" s_face_count (He.fAd K dd_face_count.at_) fd_face_count := fun_of FD_face_count
  obtain ⟨fd__law_turned_right, FD__law_turned_right⟩ := c.def_ 41 (d := dd__law_turned_right) rfl
  have Fn__law_turned_right : Fun K "_law_turned_right" "_law_turned_right" s__law_turned_right (He.fAd K dd__law_turned_right.at_) fd__law_turned_right := fun_of FD__law_turned_right
  obtain ⟨fd_law, FD_law⟩ := c.def_ 42 (d := dd_law) rfl
  have Fn_law : Fun K "law" "law" s_law (He.fAd K dd_law.at_) fd_law := fun_of FD_law
  have g_common := He.glo_ok X Gn (c.fact 0 (f := .glo "common") rfl)
  have g_is_more := He.glo_ok X Gn (c.fact 1 (f := .glo "is_more") rfl)
  have g_half := He.glo_ok X Gn (c.fact 2 (f := .glo "half") rfl)
  have g_turned := He.glo_ok X Gn (c.fact 3 (f := .glo "turned") rfl)
  have g_mirrored := He.glo_ok X Gn (c.fact 4 (f := .glo "mirrored") rfl)
  have g_grown := He.glo_ok X Gn (c.fact 5 (f := .glo "grown") rfl)
  have g_is_outermost := He.glo_ok X Gn (c.fact 6 (f := .glo "is_outermost") rfl)
  have g_covered := He.glo_ok X Gn (c.fact 7 (f := .glo "covered") rfl)
  have g__law_cell := He.glo_ok X Gn (c.fact 8 (f := .glo "_law_cell") rfl)
  have g__law_mix := He.glo_ok X Gn (c.fact 9 (f := .glo "_law_mix") rfl)
  have g__law_has := He.glo_ok X Gn (c.fact 10 (f := .glo "_law_has") rfl)
  have g_fraction := He.glo_ok X Gn (c.fact 11 (f := .glo "fraction") rfl)
  have g_hanging := He.glo_ok X Gn (c.fact 12 (f := .glo "hanging") rfl)
  have g_pieces_where := He.glo_ok X Gn (c.fact 13 (f := .glo "pieces_where") rfl)
  have g__law_piece := He.glo_ok X Gn (c.fact 14 (f := .glo "_law_piece") rfl)
  have g__law_layers := He.glo_ok X Gn (c.fact 15 (f := .glo "_law_layers") rfl)
  have g_less := He.glo_ok X Gn (c.fact 16 (f := .glo "less") rfl)
  have g_on_round := He.glo_ok X Gn (c.fact 17 (f := .glo "on_round") rfl)
  have g_face_groups := He.glo_ok X Gn (c.fact 18 (f := .glo "face_groups") rfl)
  have g__law_sheet := He.glo_ok X Gn (c.fact 19 (f := .glo "_law_sheet") rfl)
  have g__law_cells := He.glo_ok X Gn (c.fact 20 (f := .glo "_law_cells") rfl)
  have g_has := He.glo_ok X Gn (c.fact 21 (f := .glo "has") rfl)
  have g__law_covers := He.glo_ok X Gn (c.fact 22 (f := .glo "_law_covers") rfl)
  have g_layers := He.glo_ok X Gn (c.fact 23 (f := .glo "layers") rfl)
  have g_plain := He.glo_ok X Gn (c.fact 24 (f := .glo "plain") rfl)
  have g_both_of := He.glo_ok X Gn (c.fact 25 (f := .glo "both_of") rfl)
  have g_cut_out := He.glo_ok X Gn (c.fact 26 (f := .glo "cut_out") rfl)
  have g_depth_areas := He.glo_ok X Gn (c.fact 27 (f := .glo "depth_areas") rfl)
  have g_unlike := He.glo_ok X Gn (c.fact 28 (f := .glo "unlike") rfl)
  have g_faces := He.glo_ok X Gn (c.fact 29 (f := .glo "faces") rfl)
  have g_lands := He.glo_ok X Gn (c.fact 30 (f := .glo "lands") rfl)
  have g_holes := He.glo_ok X Gn (c.fact 31 (f := .glo "holes") rfl)
  have g_border := He.glo_ok X Gn (c.fact 32 (f := .glo "border") rfl)
  have g_covered_area := He.glo_ok X Gn (c.fact 33 (f := .glo "covered_area") rfl)
  have g_face_count := He.glo_ok X Gn (c.fact 34 (f := .glo "face_count") rfl)
  have g__law_turned_right := He.glo_ok X Gn (c.fact 35 (f := .glo "_law_turned_right") rfl)
  have g_law := He.glo_ok X Gn (c.fact 36 (f := .glo "law") rfl)
  have g_Net := He.glo_ok X Gn (c.fact 37 (f := .glo "Net") rfl)
  have e := hfa.symm.trans g_law
  cases e
  refine ⟨fd_law, [(c1, P1), (c2, P2), (c3, P3)], spLw K, all3 (fun p => h.get? p.2 = _) t1 t2 t3, all3 (fun p => K.lookup p.2 = none) n1 n2 n3, all3 (fun p => PySem.W.CodeHd h p.1 p.2) (PySem.W.codeHd_of_K X d1) (PySem.W.codeHd_of_K X d2) (PySem.W.codeHd_of_K X d3),
    fun s v => FunD.bindsA (ps := ["_law_script"]) FD_law (fun _ _ _ _ _ _ us hl => match us, hl with | [_], _ => rfl) s [v] rfl, fun H a ns hl _ hH hS => ⟨a, ns, rfl, hS, hl, allT (fun p => LamX.TabS H p.1 p.2) (.nil (hH (c1, P1) List.mem_cons_self)) (.nil (hH (c2, P2) (List.mem_cons_of_mem _ List.mem_cons_self))) (.nil (hH (c3, P3) (List.mem_cons_of_mem _ (List.mem_cons_of_mem _ List.mem_cons_self)))), fun _ => rfl⟩, fun base Kb Gb TB => ?_⟩
  have B : Bl (⟨(PySem.Challenge.rw_ringlayers_k09_whole_sheets_changed).prog, w, K, mg, base, 0, He.ga K "Net"⟩ : Gam) := ⟨He.free_ok X Gn (c.fact 48 (f := .free "abs") rfl), He.free_ok X Gn (c.fact 49 (f := .free "any") rfl), He.free_ok X Gn (c.fact 50 (f := .free "enumerate") rfl), He.free_ok X Gn (c.fact 51 (f := .free "int") rfl), He.free_ok X Gn (c.fact 52 (f := .free "len") rfl), He.free_ok X Gn (c.fact 53 (f := .free "range") rfl), He.free_ok X Gn (c.fact 54 (f := .free "set") rfl), He.free_ok X Gn (c.fact 55 (f := .free "sorted") rfl), He.free_ok X Gn (c.fact 56 (f := .free "sum") rfl), He.free_ok X Gn (c.fact 57 (f := .free "tuple") rfl)⟩
  have C : ∀ k, NetC (Gam.at (⟨(PySem.Challenge.rw_ringlayers_k09_whole_sheets_changed).prog, w, K, mg, base, 0, He.ga K "Net"⟩ : Gam) k) := fun k => ⟨He.cls_ok (c.fact 38 (f := .cls "Net") rfl), He.noat_ok (c.fact 39 (f := .noat "Net" "fars") rfl), He.noat_ok (c.fact 40 (f := .noat "Net" "turns") rfl), He.noat_ok (c.fact 41 (f := .noat "Net" "inside") rfl)⟩
  have L1 : LamC (⟨(PySem.Challenge.rw_ringlayers_k09_whole_sheets_changed).prog, w, K, mg, base, 0, He.ga K "Net"⟩ : Gam) (He.fAd K dd_plain.at_) q_plain := ⟨c1, P1, v1, TB (c1, P1) List.mem_cons_self, List.mem_cons_self, allT (fun p => p.1 = P1 → p.2 = q_plain) (fun _ => rfl) (fun z => absurd z.symm nd12) (fun z => absurd z.symm nd13)⟩
  have L2' : LamC (⟨(PySem.Challenge.rw_ringlayers_k09_whole_sheets_changed).prog, w, K, mg, base, 0, He.ga K "Net"⟩ : Gam) (He.fAd K dd_both_of.at_) q_both_of := ⟨c2, P2, v2, TB (c2, P2) (List.mem_cons_of_mem _ List.mem_cons_self), List.mem_cons_of_mem _ List.mem_cons_self, allT (fun p => p.1 = P2 → p.2 = q_both_of) (fun z => absurd z nd12) (fun _ => rfl) (fun z => absurd z.symm nd23)⟩
  have L3 : LamC (⟨(PySem.Challenge.rw_ringlayers_k09_whole_sheets_changed).prog, w, K, mg, base, 0, He.ga K "Net"⟩ : Gam) (He.fAd K dd_cut_out.at_) q_cut_out := ⟨c3, P3, v3, TB (c3, P3) (List.mem_cons_of_mem _ (List.mem_cons_of_mem _ List.mem_cons_self)), List.mem_cons_of_mem _ (List.mem_cons_of_mem _ List.mem_cons_self), allT (fun p => p.1 = P3 → p.2 = q_cut_out) (fun z => absurd z nd13) (fun z => absurd z nd23) (fun _ => rfl)⟩
  have r_common := ok_common (Γ := (⟨(PySem.Challenge.rw_ringlayers_k09_whole_sheets_changed).prog, w, K, mg, base, 0, He.ga K "Net"⟩ : Gam)) B Fn_common g_common
  have r_is_more := ok_is_more (Γ := (⟨(PySem.Challenge.rw_ringlayers_k09_whole_sheets_changed).prog, w, K, mg, base, 0, He.ga K "Net"⟩ : Gam)) B Fn_is_more g_is_more
  have r_Net_width := ok_Net_width B Fn_Net_width (He.meth_ok (c.fact 43 (f := .meth "Net" "width") rfl)) (C _)
  have r_Net_beside := ok_Net_beside B Fn_Net_beside (He.meth_ok (c.fact 44 (f := .meth "Net" "beside") rfl)) (C _)
  have r_Net_bounded := ok_Net_bounded B Fn_Net_bounded (He.meth_ok (c.fact 45 (f := .meth "Net" "bounded") rfl)) (C _)
  have r_half := ok_half (Γ := (⟨(PySem.Challenge.rw_ringlayers_k09_whole_sheets_changed).prog, w, K, mg, base, 0, He.ga K "Net"⟩ : Gam)) B Fn_half g_half
  have r_turned := ok_turned (Γ := (⟨(PySem.Challenge.rw_ringlayers_k09_whole_sheets_changed).prog, w, K, mg, base, 0, He.ga K "Net"⟩ : Gam)) B Fn_turned g_turned
  have r_mirrored := ok_mirrored (Γ := (⟨(PySem.Challenge.rw_ringlayers_k09_whole_sheets_changed).prog, w, K, mg, base, 0, He.ga K "Net"⟩ : Gam)) B Fn_mirrored g_mirrored
  have r_grown := ok_grown (Γ := (⟨(PySem.Challenge.rw_ringlayers_k09_whole_sheets_changed).prog, w, K, mg, base, 0, He.ga K "Net"⟩ : Gam)) B Fn_grown g_grown
  have r_is_outermost := ok_is_outermost (Γ := (⟨(PySem.Challenge.rw_ringlayers_k09_whole_sheets_changed).prog, w, K, mg, base, 0, He.ga K "Net"⟩ : Gam)) B Fn_is_outermost g_is_outermost (C _)
  have r_covered := ok_covered (Γ := (⟨(PySem.Challenge.rw_ringlayers_k09_whole_sheets_changed).prog, w, K, mg, base, 0, He.ga K "Net"⟩ : Gam)) B Fn_covered g_covered (C _)
  have r__law_cell := ok__law_cell (Γ := (⟨(PySem.Challenge.rw_ringlayers_k09_whole_sheets_changed).prog, w, K, mg, base, 0, He.ga K "Net"⟩ : Gam)) B Fn__law_cell g__law_cell
  have r__law_mix := ok__law_mix (Γ := (⟨(PySem.Challenge.rw_ringlayers_k09_whole_sheets_changed).prog, w, K, mg, base, 0, He.ga K "Net"⟩ : Gam)) B Fn__law_mix g__law_mix
  have r__law_has := ok__law_has (Γ := (⟨(PySem.Challenge.rw_ringlayers_k09_whole_sheets_changed).prog, w, K, mg, base, 0, He.ga K "Net"⟩ : Gam)) B Fn__law_has g__law_has
  have r_fraction := ok_fraction (Γ := (⟨(PySem.Challenge.rw_ringlayers_k09_whole_sheets_changed).prog, w, K, mg, base, 0, He.ga K "Net"⟩ : Gam)) B Fn_fraction g_fraction (r_common.up (by decide))
  have r_Net_point_in := ok_Net_point_in B Fn_Net_point_in (He.meth_ok (c.fact 46 (f := .meth "Net" "point_in") rfl)) (C _) (r_half.up (by decide)) (r_Net_width.up (by decide))
  have r_Net_area := ok_Net_area B Fn_Net_area (He.meth_ok (c.fact 47 (f := .meth "Net" "area") rfl)) (C _) (r_Net_width.up (by decide))
  have r_hanging := ok_hanging (Γ := (⟨(PySem.Challenge.rw_ringlayers_k09_whole_sheets_changed).prog, w, K, mg, base, 0, He.ga K "Net"⟩ : Gam)) B Fn_hanging g_hanging (C _) (r_Net_beside.up (by decide))
  have r__law_piece := ok__law_piece (Γ := (⟨(PySem.Challenge.rw_ringlayers_k09_whole_sheets_changed).prog, w, K, mg, base, 0, He.ga K "Net"⟩ : Gam)) B Fn__law_piece g__law_piece (r__law_mix.up (by decide))
  have r__law_layers := ok__law_layers (Γ := (⟨(PySem.Challenge.rw_ringlayers_k09_whole_sheets_changed).prog, w, K, mg, base, 0, He.ga K "Net"⟩ : Gam)) B Fn__law_layers g__law_layers (r__law_has.up (by decide))
  have r_less := ok_less (Γ := (⟨(PySem.Challenge.rw_ringlayers_k09_whole_sheets_changed).prog, w, K, mg, base, 0, He.ga K "Net"⟩ : Gam)) B Fn_less g_less (r_fraction.up (by decide))
  have r_on_round := ok_on_round (Γ := (⟨(PySem.Challenge.rw_ringlayers_k09_whole_sheets_changed).prog, w, K, mg, base, 0, He.ga K "Net"⟩ : Gam)) B Fn_on_round g_on_round (r_fraction.up (by decide))
  have r_face_groups := ok_face_groups (Γ := (⟨(PySem.Challenge.rw_ringlayers_k09_whole_sheets_changed).prog, w, K, mg, base, 0, He.ga K "Net"⟩ : Gam)) B Fn_face_groups g_face_groups (C _) (r_hanging.up (by decide))
  have r__law_sheet := ok__law_sheet (Γ := (⟨(PySem.Challenge.rw_ringlayers_k09_whole_sheets_changed).prog, w, K, mg, base, 0, He.ga K "Net"⟩ : Gam)) B Fn__law_sheet g__law_sheet (r__law_mix.up (by decide)) (r__law_piece.up (by decide))
  have r__law_cells := ok__law_cells (Γ := (⟨(PySem.Challenge.rw_ringlayers_k09_whole_sheets_changed).prog, w, K, mg, base, 0, He.ga K "Net"⟩ : Gam)) B Fn__law_cells g__law_cells (r__law_layers.up (by decide))
  have r_has := ok_has (Γ := (⟨(PySem.Challenge.rw_ringlayers_k09_whole_sheets_changed).prog, w, K, mg, base, 0, He.ga K "Net"⟩ : Gam)) B Fn_has g_has (r_is_more.up (by decide)) (r_on_round.up (by decide)) (r_less.up (by decide))
  have r__law_covers := ok__law_covers (Γ := (⟨(PySem.Challenge.rw_ringlayers_k09_whole_sheets_changed).prog, w, K, mg, base, 0, He.ga K "Net"⟩ : Gam)) B Fn__law_covers g__law_covers (r__law_cells.up (by decide))
  have r_layers := ok_layers (Γ := (⟨(PySem.Challenge.rw_ringlayers_k09_whole_sheets_changed).prog, w, K, mg, base, 0, He.ga K "Net"⟩ : Gam)) B Fn_layers g_layers (r_has.up (by decide))
  have r_Net___init__ := ok_Net___init__ B Fn_Net___init__ g_Net (He.mkr_ok (c.fact 42 (f := .mkr "Net") rfl)) (C _) (r_layers.up (by decide)) (r_Net_point_in.up (by decide))
  have r_plain := ok_plain (Γ := (⟨(PySem.Challenge.rw_ringlayers_k09_whole_sheets_changed).prog, w, K, mg, base, 0, He.ga K "Net"⟩ : Gam)) B (C _) (r_Net___init__.up (by decide)) (r_Net_bounded.up (by decide)) (r_Net_width.up (by decide)) Fn_pieces_where g_pieces_where Fn_plain g_plain L1
  have r_both_of := ok_both_of (Γ := (⟨(PySem.Challenge.rw_ringlayers_k09_whole_sheets_changed).prog, w, K, mg, base, 0, He.ga K "Net"⟩ : Gam)) B (C _) (r_Net___init__.up (by decide)) (r_Net_bounded.up (by decide)) (r_Net_width.up (by decide)) Fn_pieces_where g_pieces_where Fn_both_of g_both_of L2'
  have r_cut_out := ok_cut_out (Γ := (⟨(PySem.Challenge.rw_ringlayers_k09_whole_sheets_changed).prog, w, K, mg, base, 0, He.ga K "Net"⟩ : Gam)) B (C _) (r_Net___init__.up (by decide)) (r_Net_bounded.up (by decide)) (r_Net_width.up (by decide)) Fn_pieces_where g_pieces_where Fn_cut_out g_cut_out L3
  have r_depth_areas := ok_depth_areas (Γ := (⟨(PySem.Challenge.rw_ringlayers_k09_whole_sheets_changed).prog, w, K, mg, base, 0, He.ga K "Net"⟩ : Gam)) B Fn_depth_areas g_depth_areas (C _) (r_Net___init__.up (by decide)) (r_Net_bounded.up (by decide)) (r_Net_area.up (by decide))
  have r_unlike := ok_unlike (Γ := (⟨(PySem.Challenge.rw_ringlayers_k09_whole_sheets_changed).prog, w, K, mg, base, 0, He.ga K "Net"⟩ : Gam)) B Fn_unlike g_unlike (C _) (r_Net___init__.up (by decide)) (r_Net_point_in.up (by decide))
  have r_faces := ok_faces (Γ := (⟨(PySem.Challenge.rw_ringlayers_k09_whole_sheets_changed).prog, w, K, mg, base, 0, He.ga K "Net"⟩ : Gam)) B Fn_faces g_faces (C _) (r_Net___init__.up (by decide)) (r_face_groups.up (by decide)) (r_is_outermost.up (by decide)) (r_Net_area.up (by decide))
  have r_lands := ok_lands (Γ := (⟨(PySem.Challenge.rw_ringlayers_k09_whole_sheets_changed).prog, w, K, mg, base, 0, He.ga K "Net"⟩ : Gam)) B Fn_lands g_lands (C _) (r_Net___init__.up (by decide)) (r_covered.up (by decide)) (r_hanging.up (by decide))
  have r_holes := ok_holes (Γ := (⟨(PySem.Challenge.rw_ringlayers_k09_whole_sheets_changed).prog, w, K, mg, base, 0, He.ga K "Net"⟩ : Gam)) B Fn_holes g_holes (C _) (r_Net___init__.up (by decide)) (r_covered.up (by decide)) (r_hanging.up (by decide))
  have r_border := ok_border (Γ := (⟨(PySem.Challenge.rw_ringlayers_k09_whole_sheets_changed).prog, w, K, mg, base, 0, He.ga K "Net"⟩ : Gam)) B Fn_border g_border (C _) (r_Net___init__.up (by decide)) (r_covered.up (by decide)) (r_Net_bounded.up (by decide)) (r_Net_width.up (by decide))
  have r_covered_area := ok_covered_area (Γ := (⟨(PySem.Challenge.rw_ringlayers_k09_whole_sheets_changed).prog, w, K, mg, base, 0, He.ga K "Net"⟩ : Gam)) B Fn_covered_area g_covered_area (r_depth_areas.up (by decide))
  have r_face_count := ok_face_count (Γ := (⟨(PySem.Challenge.rw_ringlayers_k09_whole_sheets_changed).prog, w, K, mg, base, 0, He.ga K "Net"⟩ : Gam)) B Fn_face_count g_face_count (r_faces.up (by decide))
  have r__law_turned_right := ok__law_turned_right (Γ := (⟨(PySem.Challenge.rw_ringlayers_k09_whole_sheets_changed).prog, w, K, mg, base, 0, He.ga K "Net"⟩ : Gam)) B Fn__law_turned_right g__law_turned_right (r_turned.up (by decide)) (r_mirrored.up (by decide)) (r_grown.up (by decide)) (r_border.up (by decide)) (r_depth_areas.up (by decide)) (r_face_count.up (by decide)) (r_lands.up (by decide)) (r_holes.up (by decide)) (r_faces.up (by decide))
  refine (fnD_law (Γ := (⟨(PySem.Challenge.rw_ringlayers_k09_whole_sheets_changed).prog, w, K, mg, base, 0, He.ga K "Net"⟩ : Gam)) B Fn_law (r__law_cell.up (by decide)) (r__law_sheet.up (by decide)) (r__law_turned_right.up (by decide)) (r__law_mix.up (by decide)) (r__law_cells.up (by decide)) (r__law_covers.up (by decide)) (r_plain.up (by decide)) (r_unlike.up (by decide)) (r_both_of.up (by decide)) (r_cut_out.up (by decide)) (r_covered_area.up (by decide))).imp fun vs H Q E ⟨a, ns, e, hS, hl, tb, hq⟩ => ?_
  subst e
  exact ⟨H, [.scr ns], .bl true, SL.refl _, tb, .cons (.scr hS) .nil, law_true ns hl, fun G' H' v g r => by cases r; exact hq H'⟩
end Pv
open PySem PySem.W PySem.Calls PyProof.Rows
theorem PySem.Challenge.cw_ringlayers_k09_whole_sheets_changed_holds : PySem.Challenge.rw_ringlayers_k09_whole_sheets_changed.Holds := by
  w_on; o_law
  refine HandSHeadRun.head_any (r := OpenLaw.row PySem.Challenge.rw_ringlayers_k09_whole_sheets_changed) (q := view (OpenLaw.row PySem.Challenge.rw_ringlayers_k09_whole_sheets_changed).prog [46]) (H := Pv.hkL) (ob := Pv.obL) (M := 3000) (loose := Pv.looseL) (d := HandSHeadRun.topDef (OpenLaw.row PySem.Challenge.rw_ringlayers_k09_whole_sheets_changed).prog 46) (kwd := []) Pv.obL_eq
    (by kernel_rfl) (fun s => by kernel_rfl) Pv.runL (by kernel_rfl) (by kernel_rfl) (by kernel_rfl) (by rfl) (by first | assumption | decide +kernel) (by decide +kernel) ⟨rfl, rfl, rfl, rfl, rfl, by decide +kernel⟩ ?hw ?hc
  case hw => w_witness2
  case hc =>
    refine Pv.walk_ofET (l := PySem.Challenge.rw_ringlayers_k09_whole_sheets_changed) (n := 63) (k := 11) (x := "_law_script") (CX := L2.CX0) rfl (by decide) (by kernel_rfl) ⟨rfl, by decide, by decide⟩ ?F (fun _ _ _ _ z => z)
    intro w mg fa h Y G hmg0
    obtain ⟨K, KX, c, x, t⟩ := Y
    have hmg : mg ("law" : PySem.Str) = some (.ref fa) := by
      have e : (HandSHeadRun.topDef (OpenLaw.row PySem.Challenge.rw_ringlayers_k09_whole_sheets_changed).prog 46).name = ("law" : PySem.Str) := by kernel_rfl
      rw [← e]
      exact hmg0
    unfold Pv.xtra Pv.cod1 at x
    simp only [Bool.and_eq_true, decide_eq_true_eq] at x
    obtain ⟨⟨⟨v1, d1⟩, ⟨v2, d2⟩, ⟨v3, d3⟩⟩, nd⟩ := x
    have nd : (Pv.tabA K "plain" ≠ Pv.tabA K "both_of" ∧ Pv.tabA K "plain" ≠ Pv.tabA K "cut_out") ∧ Pv.tabA K "both_of" ≠ Pv.tabA K "cut_out" := by
      simpa [Pv.tab3] using nd
    have m1 : Pv.tabA K "plain" ∈ Pv.tab3 K := List.mem_cons_self
    have m2 : Pv.tabA K "both_of" ∈ Pv.tab3 K := List.mem_cons_of_mem _ List.mem_cons_self
    have m3 : Pv.tabA K "cut_out" ∈ Pv.tab3 K := List.mem_cons_of_mem _ (List.mem_cons_of_mem _ List.mem_cons_self)
    exact ⟨Pv.hid K, Pv.hid_in KX, Pv.factsL (Pv.hid_in KX) G hmg c v1 v2 v3 d1 d2 d3 (Pv.hid_no m1) (Pv.hid_no m2) (Pv.hid_no m3) (t _ m1) (t _ m2) (t _ m3) nd.1.1 nd.1.2 nd.2⟩

