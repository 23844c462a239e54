import PyProof.Rows.All
import Wide.All
import OpenK.AllK
import Wide.FinOn
import HandS.ForMost
import HandS.Flow
import HandS.IsInst
import HandS.Walk
import HandS.Style
import HandS.TupAny
import HandS.TupLe
import HandS.TupMul
import HandS.Deep
import HandS.Conv
import HandS.SortRule
import HandS.SortInts
import HandS.Wide
import KE.KTupSum
import HandS.DictTup
import KE.GoesEnum
import HandS.SetFor
import HandS.Strs
import HandS.Head2
import HandS.Exc
import HandS.ExcOwn
import HandS.Comp
import HandS.Text
import HandS.FStr
import HandS.TryOnly
import HandS.WordsExc
import HandS.ExcIs
import HandS.HeadHook1
import PySem.Challenge.RW_ringlayers_k02_whole_texts
import KE.KStateDown
import HandS.More
import HandS.Defaults
import HandS.Head0
import HandS.Head1
import HandS.HeadEnd
import HandS.HeadHook2
set_option Elab.async false
set_option linter.all false
set_option maxRecDepth 100000
set_option maxHeartbeats 4000000
set_option autoImplicit false
namespace Pv
open PySem PySem.Spec PyProof.Rows L2
/-! ### data -/
inductive D where
  | non | bl (b : Bool) | int (i : Int) | str (s : Str)
  | tup (xs : List D) | lst (xs : List D) | scr (ns : List Int)
  | dct (kvs : List (List Int × D)) | dci (kvs : List (Int × D))
  | net (f t i : D) | brd (r n : D)
  | adr (a : Addr)
abbrev kk (k : List Int) : List Key := k.map Sum.inl
def Dct : HO → Prop
  | .dT _ => True
  | .dK _ => True
  | _ => False
/-- all that was tracked is as it was, but for dicts that were locked -/
def SL (H H' : Hp) : Prop := ∀ a o, H a = some o → H' a = some o ∨ (Dct o ∧ ∃ od, H' a = some (.frz od o))
theorem SL.refl (H : Hp) : SL H H := fun _ _ h => .inl h
theorem SL.trans {H H1 H2 : Hp} (a : SL H H1) (b : SL H1 H2) : SL H H2 := fun x o h => by
  rcases a x o h with h1 | ⟨d, od, h1⟩
  · exact b x o h1
  · rcases b x _ h1 with h2 | ⟨d2, _⟩
    · exact .inr ⟨d, od, h2⟩
    · exact d2.elim
theorem SL.free {H H' : Hp} (e : SL H H') {a : Addr} (h : H' a = none) : H a = none := by
  cases q : H a with
  | none => rfl
  | some o => rcases e a o q with h1 | ⟨_, od, h1⟩ <;> rw [h] at h1 <;> cases h1
theorem SL.tup {H H' : Hp} (e : SL H H') {a : Addr} {vs : List V} (h : H a = some (.tup vs)) : H' a = some (.tup vs) := by
  rcases e a _ h with h1 | ⟨d, _⟩
  · exact h1
  · exact d.elim
theorem SL.lst {H H' : Hp} (e : SL H H') {a : Addr} {vs : List V} (h : H a = some (.lst vs)) : H' a = some (.lst vs) := by
  rcases e a _ h with h1 | ⟨d, _⟩
  · exact h1
  · exact d.elim
theorem SL.ins {H H' : Hp} (e : SL H H') {a C dx : Addr} {fs : List (Str × V)} (h : H a = some (.ins C dx fs)) : H' a = some (.ins C dx fs) := by
  rcases e a _ h with h1 | ⟨d, _⟩
  · exact h1
  · exact d.elim
theorem SL.rd {H H' : Hp} (e : SL H H') {a : Addr} {u : HO} (h : Rd H a u) : Rd H' a u := by
  rcases h with h | ⟨o, h⟩
  · rcases e a _ h with h1 | ⟨_, od, h1⟩
    · exact .inl h1
    · exact .inr ⟨od, h1⟩
  · rcases e a _ h with h1 | ⟨d, _⟩
    · exact .inr ⟨o, h1⟩
    · exact d.elim
theorem SL.seq {K : PySem.W.Frag} {H H' : Hp} {a : Addr} {xs : List V} (e : SL H H') (h : SqL K H a xs) : SqL K H' a xs := by
  rcases h with h | h
  · exact .inl (e.rd h)
  · exact .inr h
theorem SL.new {H : Hp} {a : Addr} {o : HO} (h : H a = none) : SL H (upd H a o) := fun b u e => .inl (by rw [upd_ne (ne_of_none e h)]; exact e)
/-- where the class Board stands -/
def boardA (K : PySem.W.Frag) : Addr := match PySem.W.nsIn K mainGlobals "Board" with
  | some (some (.ref a)) => a
  | _ => 0
mutual
inductive Rep (K : PySem.W.Frag) (C : Addr) (G : Hp) : V → D → Prop
  | non : Rep K C G .non .non
  | bl (b : Bool) : Rep K C G (.bl b) (.bl b)
  | int (i : Int) : Rep K C G (.int i) (.int i)
  | str (s : Str) : Rep K C G (.str s) (.str s)
  | tup {a : Addr} {vs : List V} {ds : List D} : G a = some (.tup vs) → RepL K C G vs ds → Rep K C G (.ref a) (.tup ds)
  | lst {a : Addr} {vs : List V} {ds : List D} : G a = some (.lst vs) → RepL K C G vs ds → Rep K C G (.ref a) (.lst ds)
  | scr {a : Addr} {ns : List Int} : SqL K G a (ns.map V.int) → Rep K C G (.ref a) (.scr ns)
  | dct {a : Addr} {kvs : List (List Key × V)} {kds : List (List Int × D)} : Rd G a (.dT kvs) → kvs.map Prod.fst = kds.map (fun p => kk p.1) → RepL K C G (kvs.map Prod.snd) (kds.map Prod.snd) → Rep K C G (.ref a) (.dct kds)
  | dci {a : Addr} {kvs : List (Key × V)} {kds : List (Int × D)} : Rd G a (.dK kvs) → kvs.map Prod.fst = kds.map (fun p => Sum.inl p.1) → RepL K C G (kvs.map Prod.snd) (kds.map Prod.snd) → Rep K C G (.ref a) (.dci kds)
  | net {a dx : Addr} {v1 v2 v3 : V} {d1 d2 d3 : D} : G a = some (.ins C dx [("fars", v1), ("turns", v2), ("inside", v3)]) → Rep K C G v1 d1 → Rep K C G v2 d2 → Rep K C G v3 d3 → Rep K C G (.ref a) (.net d1 d2 d3)
  | netP {a dx : Addr} {v1 v2 v3 : V} {d1 d2 : D} : G a = some (.ins C dx [("fars", v1), ("turns", v2), ("inside", v3)]) → Rep K C G v1 d1 → Rep K C G v2 d2 → Rep K C G (.ref a) (.net d1 d2 .non)
  | brd {a dx : Addr} {v1 v2 : V} {d1 d2 : D} : G a = some (.ins (boardA K) dx [("rows", v1), ("next_number", v2)]) → Rep K C G v1 d1 → Rep K C G v2 d2 → Rep K C G (.ref a) (.brd d1 d2)
  | adr (a : Addr) : Rep K C G (.ref a) (.adr a)
inductive RepL (K : PySem.W.Frag) (C : Addr) (G : Hp) : List V → List D → Prop
  | nil : RepL K C G [] []
  | cons {v : V} {vs : List V} {d : D} {ds : List D} : Rep K C G v d → RepL K C G vs ds → RepL K C G (v :: vs) (d :: ds)
end
section
variable {K : PySem.W.Frag} {C : Addr} {G G' H H' : Hp} {v : V} {d : D} {vs : List V} {ds : List D} {a : Addr}
theorem Rep.mono (e : SL G G') (h : Rep K C G v d) : Rep K C G' v d := by
  refine Rep.rec (motive_1 := fun v d _ => Rep K C G' v d) (motive_2 := fun vs ds _ => RepL K C G' vs ds) ?_ ?_ ?_ ?_ ?_ ?_ ?_ ?_ ?_ ?_ ?_ ?_ ?_ ?_ ?_ h
  · exact .non
  · exact .bl
  · exact .int
  · exact .str
  · exact fun h _ i => .tup (e.tup h) i
  · exact fun h _ i => .lst (e.lst h) i
  · exact fun h => .scr (e.seq h)
  · exact fun h k _ i => .dct (e.rd h) k i
  · exact fun h k _ i => .dci (e.rd h) k i
  · exact fun h _ _ _ i1 i2 i3 => .net (e.ins h) i1 i2 i3
  · exact fun h _ _ i1 i2 => .netP (e.ins h) i1 i2
  · exact fun h _ _ i1 i2 => .brd (e.ins h) i1 i2
  · exact .adr
  · exact .nil
  · exact fun _ _ i1 i2 => .cons i1 i2
theorem RepL.mono (e : SL G G') : ∀ {vs : List V} {ds : List D}, RepL K C G vs ds → RepL K C G' vs ds
  | _, _, .nil => .nil
  | _, _, .cons h t => .cons (h.mono e) (RepL.mono e t)
theorem RepL.length : ∀ {vs : List V} {ds : List D}, RepL K C G vs ds → vs.length = ds.length
  | _, _, .nil => rfl
  | _, _, .cons h t => congrArg (· + 1) (RepL.length t)
theorem RepL.get : ∀ {vs : List V} {ds : List D} {i : Nat} {d : D}, RepL K C G vs ds → ds[i]? = some d → ∃ v, vs[i]? = some v ∧ Rep K C G v d
  | _, _, _, _, .nil, e => by simp at e
  | _, _, 0, _, .cons r _, e => by simp at e; subst e; exact ⟨_, rfl, r⟩
  | _, _, i + 1, d, .cons _ t, e => by
    obtain ⟨u, h1, h2⟩ := RepL.get (i := i) (d := d) t (by simpa using e)
    exact ⟨u, by simpa using h1, h2⟩
theorem RepL.get' : ∀ {vs : List V} {ds : List D} {i : Nat} {v : V}, RepL K C G vs ds → vs[i]? = some v → ∃ d, ds[i]? = some d ∧ Rep K C G v d
  | _, _, _, _, .nil, e => by simp at e
  | _, _, 0, _, .cons r _, e => by simp at e; subst e; exact ⟨_, rfl, r⟩
  | _, _, i + 1, v, .cons _ t, e => by
    obtain ⟨u, h1, h2⟩ := RepL.get' (i := i) (v := v) t (by simpa using e)
    exact ⟨u, by simpa using h1, h2⟩
theorem RepL.app : ∀ {vs ws : List V} {ds es : List D}, RepL K C G vs ds → RepL K C G ws es → RepL K C G (vs ++ ws) (ds ++ es)
  | _, _, _, _, .nil, s => s
  | _, _, _, _, .cons r t, s => .cons r (RepL.app t s)
theorem RepL.take : ∀ {vs : List V} {ds : List D} (n : Nat), RepL K C G vs ds → RepL K C G (vs.take n) (ds.take n)
  | _, _, 0, _ => .nil
  | _, _, _ + 1, .nil => .nil
  | _, _, n + 1, .cons r t => .cons r (RepL.take n t)
theorem RepL.drop : ∀ {vs : List V} {ds : List D} (n : Nat), RepL K C G vs ds → RepL K C G (vs.drop n) (ds.drop n)
  | _, _, 0, r => r
  | _, _, _ + 1, .nil => .nil
  | _, _, n + 1, .cons _ t => RepL.drop n t
theorem RepL.set {x : V} {y : D} (r : Rep K C G x y) : ∀ {vs : List V} {ds : List D} (i : Nat), RepL K C G vs ds → RepL K C G (vs.set i x) (ds.set i y)
  | _, _, _, .nil => .nil
  | _, _, 0, .cons _ t => .cons r t
  | _, _, i + 1, .cons q t => .cons q (RepL.set r i t)
theorem RepL.rev : ∀ {vs : List V} {ds : List D}, RepL K C G vs ds → RepL K C G vs.reverse ds.reverse
  | _, _, .nil => .nil
  | _, _, .cons r t => by
    rw [List.reverse_cons, List.reverse_cons]
    exact (RepL.rev t).app (.cons r .nil)
theorem RepL.ints : ∀ (ns : List Int), RepL K C G (ns.map V.int) (ns.map D.int)
  | [] => .nil
  | n :: ns => .cons (.int n) (RepL.ints ns)
theorem RepL.ints_eq : ∀ {vs : List V} (ns : List Int), RepL K C G vs (ns.map D.int) → vs = ns.map V.int
  | _, [], h => by cases h; rfl
  | _, n :: ns, h => by
    cases h with
    | cons a b => cases a; rw [RepL.ints_eq ns b]; rfl
theorem RepL.bls_eq : ∀ {vs : List V} (ns : List Bool), RepL K C G vs (ns.map D.bl) → vs = ns.map V.bl
  | _, [], h => by cases h; rfl
  | _, n :: ns, h => by
    cases h with
    | cons a b => cases a; rw [RepL.bls_eq ns b]; rfl
theorem RepL.strs_eq : ∀ {vs : List V} (ns : List Str), RepL K C G vs (ns.map D.str) → vs = ns.map V.str
  | _, [], h => by cases h; rfl
  | _, n :: ns, h => by
    cases h with
    | cons a b => cases a; rw [RepL.strs_eq ns b]; rfl
/-- new things have come; what is kept, is kept -/
structure Grow (G H G' H' : Hp) : Prop where
  g : SL G G'
  h : SL H H'
  s : SL G' H'
  n : ∀ a, G a = none → G' a ≠ none → H a = none ∨ ∃ vs, H a = some (.tup vs)
  x : ∀ a o, G a = none → H a = some o → H' a = some o
theorem Grow.refl (s : SL G H) : Grow G H G H := ⟨SL.refl _, SL.refl _, s, fun _ h1 h2 => absurd h1 h2, fun _ _ _ h => h⟩
theorem Grow.trans {G1 H1 G2 H2 : Hp} (a : Grow G H G1 H1) (b : Grow G1 H1 G2 H2) : Grow G H G2 H2 := by
  refine ⟨a.g.trans b.g, a.h.trans b.h, b.s, fun x h1 h2 => ?_, fun x o h1 h2 => ?_⟩
  · by_cases h3 : G1 x = none
    · rcases b.n x h3 h2 with h4 | ⟨vs, h4⟩
      · exact .inl (a.h.free h4)
      · cases q : H x with
        | none => exact .inl rfl
        | some o =>
          have := a.x x o h1 q
          rw [h4] at this
          cases this
          exact .inr ⟨vs, rfl⟩
    · exact a.n x h1 h3
  · have h3 := a.x x o h1 h2
    by_cases h4 : G1 x = none
    · exact b.x x o h4 h3
    · rcases a.n x h1 h4 with h5 | ⟨vs, h5⟩
      · rw [h2] at h5; cases h5
      · rw [h2] at h5; cases h5
        exact b.h.tup h3
/-- a new object, to be shared -/
theorem Grow.new {o : HO} (s : SL G H) (h : H a = none) : Grow G H (upd G a o) (upd H a o) := by
  have hg : G a = none := s.free h
  refine ⟨SL.new hg, SL.new h, fun b u e => ?_, fun b h1 h2 => ?_, fun b u h1 h2 => ?_⟩
  · by_cases hb : b = a
    · subst hb; rw [upd_same] at e ⊢; exact .inl e
    · rw [upd_ne hb] at e ⊢; exact s b u e
  · by_cases hb : b = a
    · subst hb; exact .inl h
    · rw [upd_ne hb] at h2; exact absurd h1 h2
  · rw [upd_ne (ne_of_none h2 h)]; exact h2
/-- a new object, not shared -/
theorem Grow.newH {o : HO} (s : SL G H) (h : H a = none) : Grow G H G (upd H a o) :=
  ⟨SL.refl _, SL.new h, s.trans (SL.new h), fun _ h1 h2 => absurd h1 h2, fun b u _ h2 => by rw [upd_ne (ne_of_none h2 h)]; exact h2⟩
/-- what is not shared yet, is shared -/
theorem Grow.share {o : HO} (s : SL G H) (h : H a = some o) (g : G a = none) (h0 : H' a = none) (k : Grow G' H' G H) : Grow G' H' (upd G a o) H := by
  refine ⟨k.g.trans (SL.new g), k.h, fun b u e => ?_, fun b h1 h2 => ?_, k.x⟩
  · by_cases hb : b = a
    · subst hb; rw [upd_same] at e; cases e; exact .inl h
    · rw [upd_ne hb] at e; exact s b u e
  · by_cases hb : b = a
    · subst hb; exact .inl h0
    · rw [upd_ne hb] at h2; exact k.n b h1 h2
/-- what a def does with values, once for all -/
def spD (K : PySem.W.Frag) (C : Addr) (f : List D → Option D) : Sp := fun vs H Q _ => ∃ G ds d, SL G H ∧ RepL K C G vs ds ∧ f ds = some d ∧ ∀ G' H' v, Grow G H G' H' → Rep K C G' v d → Q v H'
/-- a thing that is one's own at a -/
def Own (K : PySem.W.Frag) (C : Addr) (G H : Hp) (a : Addr) : D → Prop
  | .lst ds => ∃ vs, H a = some (.lst vs) ∧ RepL K C G vs ds
  | .dct kds => ∃ kvs, H a = some (.dT kvs) ∧ kvs.map Prod.fst = kds.map (fun p => kk p.1) ∧ RepL K C G (kvs.map Prod.snd) (kds.map Prod.snd)
  | .dci kds => ∃ kvs, H a = some (.dK kvs) ∧ kvs.map Prod.fst = kds.map (fun p => Sum.inl p.1) ∧ RepL K C G (kvs.map Prod.snd) (kds.map Prod.snd)
  | _ => False
/-- .. to be read -/
def OwnR (K : PySem.W.Frag) (C : Addr) (G H : Hp) (a : Addr) : D → Prop
  | .lst ds => ∃ vs, H a = some (.lst vs) ∧ RepL K C G vs ds
  | .dct kds => ∃ kvs, Rd H a (.dT kvs) ∧ kvs.map Prod.fst = kds.map (fun p => kk p.1) ∧ RepL K C G (kvs.map Prod.snd) (kds.map Prod.snd)
  | .dci kds => ∃ kvs, Rd H a (.dK kvs) ∧ kvs.map Prod.fst = kds.map (fun p => Sum.inl p.1) ∧ RepL K C G (kvs.map Prod.snd) (kds.map Prod.snd)
  | _ => False
theorem Own.r (h : Own K C G H a d) : OwnR K C G H a d := by
  cases d <;> first | exact h.elim | exact h | (obtain ⟨kvs, h1, h2⟩ := h; exact ⟨kvs, .inl h1, h2⟩)
theorem OwnR.mono (e : SL G G') (f : SL H H') (h : OwnR K C G H a d) : OwnR K C G' H' a d := by
  cases d <;> try exact h.elim
  · obtain ⟨vs, h1, h2⟩ := h; exact ⟨vs, f.lst h1, h2.mono e⟩
  · obtain ⟨vs, h1, h2, h3⟩ := h; exact ⟨vs, f.rd h1, h2, h3.mono e⟩
  · obtain ⟨vs, h1, h2, h3⟩ := h; exact ⟨vs, f.rd h1, h2, h3.mono e⟩
theorem Own.mono (e : SL G G') (f : ∀ o, H a = some o → H' a = some o) (h : Own K C G H a d) : Own K C G' H' a d := by
  cases d <;> try exact h.elim
  · obtain ⟨vs, h1, h2⟩ := h; exact ⟨vs, f _ h1, h2.mono e⟩
  · obtain ⟨vs, h1, h2, h3⟩ := h; exact ⟨vs, f _ h1, h2, h3.mono e⟩
  · obtain ⟨vs, h1, h2, h3⟩ := h; exact ⟨vs, f _ h1, h2, h3.mono e⟩
theorem Own.there (h : Own K C G H a d) : ∃ o, H a = some o ∧ ∀ vs, o ≠ .tup vs := by
  cases d <;> try exact h.elim
  · obtain ⟨vs, h1, h2⟩ := h; exact ⟨_, h1, fun _ e => by cases e⟩
  · obtain ⟨vs, h1, h2, h3⟩ := h; exact ⟨_, h1, fun _ e => by cases e⟩
  · obtain ⟨vs, h1, h2, h3⟩ := h; exact ⟨_, h1, fun _ e => by cases e⟩
/-- shared -/
theorem Own.shared (h : Own K C G H a d) (g : G a = none) : ∃ o, H a = some o ∧ Rep K C (upd G a o) (.ref a) d := by
  cases d <;> try exact h.elim
  · obtain ⟨vs, h1, h2⟩ := h; exact ⟨_, h1, .lst upd_same (h2.mono (SL.new g))⟩
  · obtain ⟨vs, h1, h2, h3⟩ := h; exact ⟨_, h1, .dct (.inl upd_same) h2 (h3.mono (SL.new g))⟩
  · obtain ⟨vs, h1, h2, h3⟩ := h; exact ⟨_, h1, .dci (.inl upd_same) h2 (h3.mono (SL.new g))⟩
def RepB (K : PySem.W.Frag) (C : Addr) (G H : Hp) (v : V) (d : D) : Prop := Rep K C G v d ∨ ∃ a, v = .ref a ∧ OwnR K C G H a d
theorem RepB.mono (e : SL G G') (f : SL H H') (h : RepB K C G H v d) : RepB K C G' H' v d := by
  rcases h with h | ⟨a, rfl, h⟩
  · exact .inl (h.mono e)
  · exact .inr ⟨a, rfl, h.mono e f⟩
theorem RepB.lst (s : SL G H) (h : RepB K C G H v (.lst ds)) : ∃ a vs, v = .ref a ∧ H a = some (.lst vs) ∧ RepL K C G vs ds := by
  rcases h with h | ⟨a, rfl, vs, h1, h2⟩
  · cases h with
    | lst h1 h2 => exact ⟨_, _, rfl, s.lst h1, h2⟩
  · exact ⟨a, vs, rfl, h1, h2⟩
theorem RepB.tup (h : RepB K C G H v (.tup ds)) : ∃ a vs, v = .ref a ∧ G a = some (.tup vs) ∧ RepL K C G vs ds := by
  rcases h with h | ⟨a, rfl, h⟩
  · cases h with
    | tup h1 h2 => exact ⟨_, _, rfl, h1, h2⟩
  · exact h.elim
theorem RepB.dct {kds : List (List Int × D)} (s : SL G H) (h : RepB K C G H v (.dct kds)) : ∃ a kvs, v = .ref a ∧ Rd H a (.dT kvs) ∧ kvs.map Prod.fst = kds.map (fun p => kk p.1) ∧ RepL K C G (kvs.map Prod.snd) (kds.map Prod.snd) := by
  rcases h with h | ⟨a, rfl, vs, h1, h2⟩
  · cases h with
    | dct h1 h2 h3 => exact ⟨_, _, rfl, s.rd h1, h2, h3⟩
  · exact ⟨a, vs, rfl, h1, h2⟩
theorem RepB.dci {kds : List (Int × D)} (s : SL G H) (h : RepB K C G H v (.dci kds)) : ∃ a kvs, v = .ref a ∧ Rd H a (.dK kvs) ∧ kvs.map Prod.fst = kds.map (fun p => Sum.inl p.1) ∧ RepL K C G (kvs.map Prod.snd) (kds.map Prod.snd) := by
  rcases h with h | ⟨a, rfl, h⟩
  · cases h with
    | dci h1 h2 h3 => exact ⟨_, _, rfl, s.rd h1, h2, h3⟩
  · obtain ⟨vs, h1, h2⟩ := h; exact ⟨a, vs, rfl, h1, h2⟩
theorem RepB.scr {ns : List Int} (s : SL G H) (h : RepB K C G H v (.scr ns)) : ∃ a, v = .ref a ∧ SqL K H a (ns.map V.int) := by
  rcases h with h | ⟨a, rfl, h⟩
  · cases h with
    | scr h1 => exact ⟨_, rfl, s.seq h1⟩
  · exact h.elim
theorem RepB.int {i : Int} (h : RepB K C G H v (.int i)) : v = .int i := by
  rcases h with h | ⟨a, rfl, h⟩
  · cases h; rfl
  · exact h.elim
theorem RepB.bl {i : Bool} (h : RepB K C G H v (.bl i)) : v = .bl i := by
  rcases h with h | ⟨a, rfl, h⟩
  · cases h; rfl
  · exact h.elim
theorem RepB.str {i : Str} (h : RepB K C G H v (.str i)) : v = .str i := by
  rcases h with h | ⟨a, rfl, h⟩
  · cases h; rfl
  · exact h.elim
theorem RepB.non (h : RepB K C G H v .non) : v = .non := by
  rcases h with h | ⟨a, rfl, h⟩
  · cases h; rfl
  · exact h.elim
end
/-! ### the names' values -/
inductive Sl where
  | no | sh (d : D) | ow (d : D)
abbrev Env := List Sl
structure Gam where
  P : Program
  w : World
  K : PySem.W.Frag
  mg : Str → Option Value
  base : Heap
  k : Nat
  C : Addr
def SlOk (Γ : Gam) (H0 G H : Hp) (x : Option (Option V)) : Sl → Prop
  | .no => True
  | .sh d => ∃ v, x = some (some v) ∧ Rep Γ.K Γ.C G v d
  | .ow d => ∃ a, x = some (some (.ref a)) ∧ H0 a = none ∧ G a = none ∧ Own Γ.K Γ.C G H a d
structure EnvOk (Γ : Gam) (H0 G H : Hp) (ρ : Env) (σ : L2.St) : Prop where
  len : ρ.length = σ.length
  sl : ∀ (i : Nat) (s : Sl), ρ[i]? = some s → SlOk Γ H0 G H (σ[i]?) s
  ne : ∀ (i j : Nat) (d e : D) (a : Addr), i ≠ j → ρ[i]? = some (.ow d) → ρ[j]? = some (.ow e) → σ[i]? = some (some (.ref a)) → σ[j]? ≠ some (some (.ref a))
section
variable {Γ : Gam} {H0 G H G' H' : Hp} {ρ : Env} {σ : L2.St}
theorem SlOk.grow {x : Option (Option V)} {s : Sl} (g : Grow G H G' H') (h : SlOk Γ H0 G H x s) : SlOk Γ H0 G' H' x s := by
  cases s with
  | no => trivial
  | sh d => obtain ⟨v, h1, h2⟩ := h; exact ⟨v, h1, h2.mono g.g⟩
  | ow d =>
    obtain ⟨a, h1, h2, h3, h4⟩ := h
    obtain ⟨o, h5, h6⟩ := h4.there
    refine ⟨a, h1, h2, ?_, h4.mono g.g fun o h => g.x a o h3 h⟩
    by_cases q : G' a = none
    · exact q
    · rcases g.n a h3 q with h7 | ⟨vs, h7⟩
      · rw [h5] at h7; cases h7
      · rw [h5] at h7; cases h7; exact absurd rfl (h6 vs)
theorem EnvOk.grow (E : EnvOk Γ H0 G H ρ σ) (g : Grow G H G' H') : EnvOk Γ H0 G' H' ρ σ :=
  ⟨E.len, fun i s h => (E.sl i s h).grow g, E.ne⟩
theorem EnvOk.setSh (E : EnvOk Γ H0 G H ρ σ) {i : Nat} {v : V} {d : D} (r : Rep Γ.K Γ.C G v d) : EnvOk Γ H0 G H (ρ.set i (.sh d)) (σ.set i (some v)) := by
  refine ⟨by rw [List.length_set, List.length_set]; exact E.len, fun j s h => ?_, fun j k d1 d2 a h1 h2 h3 h4 h5 => ?_⟩
  · by_cases hj : i = j
    · subst hj
      by_cases hl : i < ρ.length
      · rw [List.getElem?_set_self hl] at h
        cases h
        exact ⟨v, by rw [List.getElem?_set_self (by rw [← E.len]; exact hl)], r⟩
      · rw [List.getElem?_eq_none (by simpa using hl)] at h; cases h
    · rw [List.getElem?_set_ne hj] at h ⊢
      exact E.sl j s h
  · have e1 : j ≠ i := by
      rintro rfl
      by_cases hl : j < ρ.length
      · rw [List.getElem?_set_self hl] at h2; cases h2
      · rw [List.getElem?_eq_none (by simpa using hl)] at h2; cases h2
    have e2 : k ≠ i := by
      rintro rfl
      by_cases hl : k < ρ.length
      · rw [List.getElem?_set_self hl] at h3; cases h3
      · rw [List.getElem?_eq_none (by simpa using hl)] at h3; cases h3
    rw [List.getElem?_set_ne (Ne.symm e1)] at h2 h4
    rw [List.getElem?_set_ne (Ne.symm e2)] at h3 h5
    exact E.ne j k d1 d2 a h1 h2 h3 h4 h5
/-- one's own thing at a is in no other slot -/
theorem EnvOk.setOw (E : EnvOk Γ H0 G H ρ σ) {i : Nat} {a : Addr} {d : D} (h0 : H0 a = none) (g : G a = none) (r : Own Γ.K Γ.C G H a d)
    (new : ∀ j e, j ≠ i → ρ[j]? = some (.ow e) → σ[j]? ≠ some (some (.ref a))) : EnvOk Γ H0 G H (ρ.set i (.ow d)) (σ.set i (some (.ref a))) := by
  have hget : ∀ {j s}, (ρ.set i (.ow d))[j]? = some s → (j = i ∧ s = .ow d ∧ i < ρ.length) ∨ (j ≠ i ∧ ρ[j]? = some s) := fun {j s} h => by
    by_cases hj : i = j
    · subst hj
      by_cases hl : i < ρ.length
      · rw [List.getElem?_set_self hl] at h
        cases h
        exact .inl ⟨rfl, rfl, hl⟩
      · rw [List.getElem?_eq_none (by simpa using hl)] at h; cases h
    · rw [List.getElem?_set_ne hj] at h
      exact .inr ⟨Ne.symm hj, h⟩
  refine ⟨by rw [List.length_set, List.length_set]; exact E.len, fun j s h => ?_, fun j k d1 d2 b h1 h2 h3 h4 h5 => ?_⟩
  · rcases hget h with ⟨rfl, rfl, hl⟩ | ⟨hj, h⟩
    · exact ⟨a, by rw [List.getElem?_set_self (by rw [← E.len]; exact hl)], h0, g, r⟩
    · rw [List.getElem?_set_ne (Ne.symm hj)]
      exact E.sl j s h
  · rcases hget h2 with ⟨e1, e1', hl1⟩ | ⟨hj, h2'⟩
    · rcases hget h3 with ⟨e2, e2', hl2⟩ | ⟨hk, h3'⟩
      · exact h1 (e1.trans e2.symm)
      · rw [e1, List.getElem?_set_self (by rw [← E.len]; exact hl1)] at h4
        cases h4
        rw [List.getElem?_set_ne (Ne.symm hk)] at h5
        exact new k d2 hk h3' h5
    · rw [List.getElem?_set_ne (Ne.symm hj)] at h4
      rcases hget h3 with ⟨e2, e2', hl2⟩ | ⟨hk, h3'⟩
      · rw [e2, List.getElem?_set_self (by rw [← E.len]; exact hl2)] at h5
        cases h5
        exact new j d1 hj h2' h4
      · rw [List.getElem?_set_ne (Ne.symm hk)] at h5
        exact E.ne j k d1 d2 b h1 h2' h3' h4 h5
/-- one's own thing at a has changed -/
theorem EnvOk.upd (E : EnvOk Γ H0 G H ρ σ) {i : Nat} {a : Addr} {d d' : D} {o : HO} (hi : ρ[i]? = some (.ow d)) (hσ : σ[i]? = some (some (.ref a))) (h0 : H0 a = none) (g : G a = none) (r : Own Γ.K Γ.C G (upd H a o) a d') :
    EnvOk Γ H0 G (L2.upd H a o) (ρ.set i (.ow d')) σ := by
  have hl : i < ρ.length := (List.getElem?_eq_some_iff.mp hi).1
  have hget : ∀ {j s}, (ρ.set i (.ow d'))[j]? = some s → (j = i ∧ s = .ow d') ∨ (j ≠ i ∧ ρ[j]? = some s) := fun {j s} h => by
    by_cases hj : i = j
    · subst hj
      rw [List.getElem?_set_self hl] at h
      cases h
      exact .inl ⟨rfl, rfl⟩
    · rw [List.getElem?_set_ne hj] at h
      exact .inr ⟨Ne.symm hj, h⟩
  refine ⟨by rw [List.length_set]; exact E.len, fun j s h => ?_, fun j k d1 d2 b h1 h2 h3 h4 => ?_⟩
  · rcases hget h with ⟨rfl, rfl⟩ | ⟨hj, h⟩
    · exact ⟨a, hσ, h0, g, r⟩
    · have q := E.sl j s h
      cases s with
      | no => trivial
      | sh e => exact q
      | ow e =>
        obtain ⟨b, q1, q2, q3, q4⟩ := q
        have hb : b ≠ a := by
          rintro rfl
          exact E.ne j i e d b hj h hi q1 hσ
        exact ⟨b, q1, q2, q3, q4.mono (SL.refl _) fun o h => by rw [upd_ne hb]; exact h⟩
  · rcases hget h2 with ⟨rfl, _⟩ | ⟨hj, h2'⟩ <;> rcases hget h3 with ⟨rfl, _⟩ | ⟨hk, h3'⟩
    · exact absurd rfl h1
    · exact E.ne _ _ d d2 b h1 hi h3' h4
    · exact E.ne _ _ d1 d b h1 h2' hi h4
    · exact E.ne _ _ d1 d2 b h1 h2' h3' h4
/-- the i-th is shared from here on -/
theorem EnvOk.share (E : EnvOk Γ H0 G H ρ σ) {i : Nat} {a : Addr} {d : D} {o : HO} (hi : ρ[i]? = some (.ow d)) (hσ : σ[i]? = some (some (.ref a))) (ho : H a = some o) (g : G a = none) (r : Rep Γ.K Γ.C (L2.upd G a o) (.ref a) d) :
    EnvOk Γ H0 (L2.upd G a o) H (ρ.set i (.sh d)) σ := by
  have hl : i < ρ.length := (List.getElem?_eq_some_iff.mp hi).1
  have hget : ∀ {j s}, (ρ.set i (.sh d))[j]? = some s → (j = i ∧ s = .sh d) ∨ (j ≠ i ∧ ρ[j]? = some s) := fun {j s} h => by
    by_cases hj : i = j
    · subst hj
      rw [List.getElem?_set_self hl] at h
      cases h
      exact .inl ⟨rfl, rfl⟩
    · rw [List.getElem?_set_ne hj] at h
      exact .inr ⟨Ne.symm hj, h⟩
  refine ⟨by rw [List.length_set]; exact E.len, fun j s h => ?_, fun j k d1 d2 b h1 h2 h3 h4 => ?_⟩
  · rcases hget h with ⟨rfl, rfl⟩ | ⟨hj, h⟩
    · exact ⟨_, hσ, r⟩
    · have q := E.sl j s h
      cases s with
      | no => trivial
      | sh e => obtain ⟨v, q1, q2⟩ := q; exact ⟨v, q1, q2.mono (SL.new g)⟩
      | ow e =>
        obtain ⟨b, q1, q2, q3, q4⟩ := q
        have hb : b ≠ a := by
          rintro rfl
          exact E.ne j i e d b hj h hi q1 hσ
        exact ⟨b, q1, q2, by rw [upd_ne hb]; exact q3, q4.mono (SL.new g) fun o h => h⟩
  · rcases hget h2 with ⟨rfl, e⟩ | ⟨hj, h2'⟩
    · cases e
    · rcases hget h3 with ⟨rfl, e⟩ | ⟨hk, h3'⟩
      · cases e
      · exact E.ne _ _ d1 d2 b h1 h2' h3' h4
end
end Pv
set_option Elab.async false
set_option linter.all false
set_option maxRecDepth 100000
set_option maxHeartbeats 4000000
set_option autoImplicit false
namespace Pv
open PySem PySem.Spec PyProof.Rows L2
/-! ### judgements -/
structure Good (Γ : Gam) (N : List Str) (sc : Scope) (X : Cx) : Prop where
  prog : X.prog = Γ.P
  w : X.w = Γ.w
  K : X.K = Γ.K
  mg : X.mg = Γ.mg
  base : X.base = Γ.base
  calm : X.calm = true
  xe : X.xe = fun _ _ => False
  room : Room Γ.k X.A
  N : X.N = N
  sc : X.env.scope = sc
inductive Kd where
  | e | f | b
def Out (Γ : Gam) : Kd → (G H G' H' : Hp) → V → D → Prop
  | .e, _, _, G', _, v, d => Rep Γ.K Γ.C G' v d
  | .f, _, H, G', H', v, d => ∃ a, v = .ref a ∧ H a = none ∧ G' a = none ∧ Own Γ.K Γ.C G' H' a d
  | .b, _, _, G', H', v, d => RepB Γ.K Γ.C G' H' v d
def SemV (Γ : Gam) (κ : Kd) (t : TE) (F : Env → Option D) : Prop := ∀ (H0 : Hp) (ρ : Env) (σ : L2.St) (G H : Hp) (Q : VK) (d : D), SL G H → EnvOk Γ H0 G H ρ σ → F ρ = some d →
  (∀ (G' H' : Hp) (v : V), Grow G H G' H' → Out Γ κ G H G' H' v d → Q v H') → t σ H Q
def SemT (Γ : Gam) (t : TT) (F : Env → Option Bool) : Prop := ∀ (H0 : Hp) (ρ : Env) (σ : L2.St) (G H : Hp) (Q : Bool → Hp → Prop) (c : Bool), SL G H → EnvOk Γ H0 G H ρ σ → F ρ = some c →
  (∀ (G' H' : Hp), Grow G H G' H' → Q c H') → t σ H Q
def SemA (Γ : Gam) (t : TA) (F : Env → Option (List D)) : Prop := ∀ (H0 : Hp) (ρ : Env) (σ : L2.St) (G H : Hp) (Q : List V → Hp → Prop) (ds : List D), SL G H → EnvOk Γ H0 G H ρ σ → F ρ = some ds →
  (∀ (G' H' : Hp) (vs : List V), Grow G H G' H' → RepL Γ.K Γ.C G' vs ds → Q vs H') → t σ H Q
structure DV (Γ : Gam) (N : List Str) (sc : Scope) (κ : Kd) (e : Expr) (F : Env → Option D) : Prop where
  ex : ∃ t, (∀ X, Good Γ N sc X → PE X e t) ∧ SemV Γ κ t F
structure DT (Γ : Gam) (N : List Str) (sc : Scope) (e : Expr) (F : Env → Option Bool) : Prop where
  ex : ∃ t, (∀ X, Good Γ N sc X → PT X e t) ∧ SemT Γ t F
structure DW (Γ : Gam) (N : List Str) (sc : Scope) (e : Expr) (F : Env → Option Bool) : Prop where
  ex : ∃ t, (∀ X, Good Γ N sc X → PW X e t) ∧ SemT Γ t F
structure DC (Γ : Gam) (N : List Str) (sc : Scope) (e : Expr) (F : Env → Option D) : Prop where
  ex : ∃ t, (∀ X, Good Γ N sc X → PE X e t ∧ PT X e (tTest t)) ∧ SemV Γ .e t F
structure DA (Γ : Gam) (N : List Str) (sc : Scope) (es : List Expr) (F : Env → Option (List D)) : Prop where
  ex : ∃ t, (∀ X, Good Γ N sc X → PA X es t) ∧ SemA Γ t F
section
variable {Γ : Gam} {N : List Str} {sc : Scope} {κ κ1 κ2 : Kd} {G H G' H' G1 H1 : Hp} {v : V} {d : D}
theorem Out.pre (g : Grow G H G1 H1) (h : Out Γ κ G1 H1 G' H' v d) : Out Γ κ G H G' H' v d := by
  cases κ with
  | e => exact h
  | b => exact h
  | f => obtain ⟨a, h1, h2, h3, h4⟩ := h; exact ⟨a, h1, g.h.free h2, h3, h4⟩
theorem Out.b (h : Out Γ κ G H G' H' v d) : RepB Γ.K Γ.C G' H' v d := by
  cases κ with
  | e => exact .inl h
  | b => exact h
  | f => obtain ⟨a, rfl, _, _, h4⟩ := h; exact .inr ⟨a, rfl, h4.r⟩
theorem Out.share (g : Grow G H G' H') (h : Out Γ .f G H G' H' v d) : ∃ G2, Grow G H G2 H' ∧ Rep Γ.K Γ.C G2 v d := by
  obtain ⟨a, rfl, h2, h3, h4⟩ := h
  obtain ⟨o, h5, h6⟩ := h4.shared h3
  exact ⟨_, g.share g.s h5 h3 h2, h6⟩
theorem SemV.toB {t : TE} {F : Env → Option D} (h : SemV Γ κ t F) : SemV Γ .b t F := fun H0 ρ σ G H Q d s E e q => h H0 ρ σ G H Q d s E e fun G' H' v g o => q G' H' v g o.b
theorem SemV.toE {t : TE} {F : Env → Option D} (h : SemV Γ .f t F) : SemV Γ .e t F := fun H0 ρ σ G H Q d s E e q => h H0 ρ σ G H Q d s E e fun G' H' v g o => by
  obtain ⟨G2, g2, r⟩ := o.share g
  exact q G2 H' v g2 r
theorem DV.toB {e : Expr} {F : Env → Option D} (h : DV Γ N sc κ e F) : DV Γ N sc .b e F := let ⟨t, p, s⟩ := h.ex; ⟨t, p, s.toB⟩
theorem DV.toE {e : Expr} {F : Env → Option D} (h : DV Γ N sc .f e F) : DV Γ N sc .e e F := let ⟨t, p, s⟩ := h.ex; ⟨t, p, s.toE⟩
theorem DC.toE {e : Expr} {F : Env → Option D} (h : DC Γ N sc e F) : DV Γ N sc .e e F := let ⟨t, p, s⟩ := h.ex; ⟨t, fun X g => (p X g).1, s⟩
theorem DW.t {e : Expr} {F : Env → Option Bool} (h : DW Γ N sc e F) : DT Γ N sc e F := let ⟨t, p, s⟩ := h.ex; ⟨t, fun X g => (p X g).pt, s⟩
/-! ### combinators -/
def nm (i : Nat) : Env → Option D := fun ρ => match ρ[i]? with
  | some (.sh d) => some d
  | _ => none
def nb (i : Nat) : Env → Option D := fun ρ => match ρ[i]? with
  | some (.sh d) => some d
  | some (.ow d) => some d
  | _ => none
def kc (d : D) : Env → Option D := fun _ => some d
def f1 (g : D → Option D) (a : Env → Option D) : Env → Option D := fun ρ => (a ρ).bind g
def f2 (g : D → D → Option D) (a b : Env → Option D) : Env → Option D := fun ρ => (a ρ).bind fun x => (b ρ).bind fun y => g x y
def fnil : Env → Option (List D) := fun _ => some []
def fcons (a : Env → Option D) (r : Env → Option (List D)) : Env → Option (List D) := fun ρ => (a ρ).bind fun x => (r ρ).bind fun xs => some (x :: xs)
def fN (g : List D → Option D) (a : Env → Option (List D)) : Env → Option D := fun ρ => (a ρ).bind g
def big : Nat := 1000000
theorem big_le : big ≤ sizeLine := by rw [sizeLine_eq]; decide
theorem big_lt {n : Nat} (h : n < big) : n < sizeLine := Nat.lt_of_lt_of_le h big_le
/-! ### names, constants -/
def visB (sc : Scope) (x : Str) : Bool := match sc.names.lookup x with
  | some .local => true
  | some .cell => true
  | some .free => true
  | _ => false
theorem vis_of {x : Str} (h : visB sc x = true) : Vis sc x := by
  unfold visB at h
  split at h
  · exact .inl (by assumption)
  · exact .inr (.inl (by assumption))
  · exact .inr (.inr (by assumption))
  · cases h
def locB (sc : Scope) (x : Str) : Bool := match sc.names.lookup x with
  | some .local => true
  | some .cell => true
  | _ => false
theorem loc_of {x : Str} (h : locB sc x = true) : Loc sc x := by
  unfold locB at h
  split at h
  · exact .inl (by assumption)
  · exact .inr (by assumption)
  · cases h
def lclB (sc : Scope) (x : Str) : Bool := match sc.names.lookup x with
  | some .local => true
  | _ => false
theorem lcl_of {x : Str} (h : lclB sc x = true) : sc.names.lookup x = some .local := by
  unfold lclB at h
  split at h
  · assumption
  · cases h
def glB (sc : Scope) (x : Str) : Bool := match sc.names.lookup x with
  | some .globalImplicit => true
  | _ => false
theorem gl_of {X : Cx} {x : Str} (g : Good Γ N sc X) (h : glB sc x = true) : Gl X x := by
  unfold glB at h
  split at h
  · show X.env.scope.names.lookup x = some .globalImplicit
    rw [g.sc]; assumption
  · cases h
theorem d_nm {i : Nat} {x : Str} {pos : Pos} (hN : N[i]? = some x) (hv : visB sc x = true) (hd : (x == ("__debug__" : Str)) = false) (hcd : (x == ("__classdict__" : Str)) = false) : DV Γ N sc .e (.Name x pos) (nm i) := by
  refine ⟨tVar i, fun X g => pe_var (by rw [g.N]; exact hN) (by rw [g.sc]; exact vis_of hv) hd hcd, fun H0 ρ σ G H Q d s E e q => ?_⟩
  unfold nm at e
  split at e
  · rename_i d' h
    cases e
    obtain ⟨v, h1, h2⟩ := E.sl i _ h
    exact ⟨v, h1, q G H v (Grow.refl s) h2⟩
  · cases e
theorem d_nb {i : Nat} {x : Str} {pos : Pos} (hN : N[i]? = some x) (hv : visB sc x = true) (hd : (x == ("__debug__" : Str)) = false) (hcd : (x == ("__classdict__" : Str)) = false) : DV Γ N sc .b (.Name x pos) (nb i) := by
  refine ⟨tVar i, fun X g => pe_var (by rw [g.N]; exact hN) (by rw [g.sc]; exact vis_of hv) hd hcd, fun H0 ρ σ G H Q d s E e q => ?_⟩
  unfold nb at e
  split at e
  · rename_i d' h
    cases e
    obtain ⟨v, h1, h2⟩ := E.sl i _ h
    exact ⟨v, h1, q G H v (Grow.refl s) (.inl h2)⟩
  · rename_i d' h
    cases e
    obtain ⟨a, h1, _, _, h2⟩ := E.sl i _ h
    exact ⟨_, h1, q G H _ (Grow.refl s) (.inr ⟨a, rfl, h2.r⟩)⟩
  · cases e
theorem d_const {e : Expr} {v : V} {d : D} (p : ∀ X, PE X e (tC v)) (r : ∀ G, Rep Γ.K Γ.C G v d) : DV Γ N sc .e e (kc d) :=
  ⟨tC v, fun X _ => p X, fun H0 ρ σ G H Q d' s E e q => by cases e; exact q G H v (Grow.refl s) (r G)⟩
theorem d_int {i j pos} : DV Γ N sc .e (.Constant (.int i) j pos) (kc (.int i)) := d_const (fun _ => pe_int) fun _ => .int i
theorem d_bl {b j pos} : DV Γ N sc .e (.Constant (.bool b) j pos) (kc (.bl b)) := d_const (fun _ => pe_bl) fun _ => .bl b
theorem d_non {j pos} : DV Γ N sc .e (.Constant .none j pos) (kc .non) := d_const (fun _ => pe_non) fun _ => .non
theorem d_str {x j pos} : DV Γ N sc .e (.Constant (.str x) j pos) (kc (.str x)) := d_const (fun _ => pe_str) fun _ => .str x
/-! ### argument lists, displays -/
theorem a_nil : DA Γ N sc [] fnil := ⟨tNil, fun X _ => pa_nil, fun H0 ρ σ G H Q d s E e q => by cases e; exact q G H [] (Grow.refl s) .nil⟩
theorem a_cons {e : Expr} {es : List Expr} {a : Env → Option D} {r : Env → Option (List D)} (h1 : DV Γ N sc .e e a) (h2 : DA Γ N sc es r)
    (hs : ∀ env : PySem.Env, starEach (e :: es) env = (false, eval e env) :: starEach es env := by intro _; rfl) : DA Γ N sc (e :: es) (fcons a r) := by
  obtain ⟨t1, p1, s1⟩ := h1.ex
  obtain ⟨t2, p2, s2⟩ := h2.ex
  refine ⟨tCons t1 t2, fun X g => pa_cons (p1 X g) (p2 X g) (hs _), fun H0 ρ σ G H Q d s E e q => ?_⟩
  unfold fcons at e
  cases ea : a ρ with
  | none => rw [ea] at e; cases e
  | some x =>
    rw [ea] at e
    cases er : r ρ with
    | none => rw [er] at e; cases e
    | some xs =>
      rw [er] at e
      cases e
      refine s1 H0 ρ σ G H _ x s E ea fun G1 H1 v g1 o1 => ?_
      refine s2 H0 ρ σ G1 H1 _ xs g1.s (E.grow g1) er fun G2 H2 vs g2 o2 => ?_
      exact q G2 H2 _ (g1.trans g2) (.cons (o1.mono g2.g) o2)
def tupD (ds : List D) : Option D := if ds.length < big then some (.tup ds) else none
def lstD (ds : List D) : Option D := if ds.length < big then some (.lst ds) else none
theorem d_tup {es : List Expr} {x1 pos} {a : Env → Option (List D)} (h : DA Γ N sc es a) : DV Γ N sc .e (.Tuple es x1 pos) (fN tupD a) := by
  obtain ⟨t, p, s1⟩ := h.ex
  refine ⟨tTup t, fun X g => pe_tup (p X g), fun H0 ρ σ G H Q d s E e q => ?_⟩
  unfold fN at e
  cases ea : a ρ with
  | none => rw [ea] at e; cases e
  | some ds =>
    rw [ea] at e
    have e : tupD ds = some d := e
    unfold tupD at e
    split at e
    · rename_i hl
      cases e
      refine s1 H0 ρ σ G H _ ds s E ea fun G1 H1 vs g1 o1 => ⟨by rw [o1.length]; exact Nat.le_of_lt (big_lt hl), fun p hp => ?_⟩
      exact q _ _ _ (g1.trans (Grow.new g1.s hp)) (.tup upd_same (o1.mono (SL.new (g1.s.free hp))))
    · cases e
theorem d_lst {es : List Expr} {pos} {a : Env → Option (List D)} (h : DA Γ N sc es a) : DV Γ N sc .f (.List es pos) (fN lstD a) := by
  obtain ⟨t, p, s1⟩ := h.ex
  refine ⟨tLst t, fun X g => pe_lst (p X g), fun H0 ρ σ G H Q d s E e q => ?_⟩
  unfold fN at e
  cases ea : a ρ with
  | none => rw [ea] at e; cases e
  | some ds =>
    rw [ea] at e
    have e : lstD ds = some d := e
    unfold lstD at e
    split at e
    · rename_i hl
      cases e
      refine s1 H0 ρ σ G H _ ds s E ea fun G1 H1 vs g1 o1 => ⟨by rw [o1.length]; exact Nat.le_of_lt (big_lt hl), fun p hp => ?_⟩
      exact q _ _ _ (g1.trans (Grow.newH g1.s hp)) ⟨p, rfl, g1.h.free hp, g1.s.free hp, vs, upd_same, o1⟩
    · cases e
/-! ### operators -/
/-- what an operator by values does -/
def Op2 (Γ : Gam) (κ : Kd) (r : R2) (g : D → D → Option D) : Prop := ∀ (G H : Hp) (x y : V) (d e z : D), SL G H → RepB Γ.K Γ.C G H x d → RepB Γ.K Γ.C G H y e → g d e = some z →
  ∀ Q : VK, (∀ (G' H' : Hp) (u : V), Grow G H G' H' → Out Γ κ G H G' H' u z → Q u H') → r x y H Q
theorem sem_op {r : R2} {g : D → D → Option D} {ta tb : TE} {a b : Env → Option D} (h : Op2 Γ κ r g) (sa : SemV Γ κ1 ta a) (sb : SemV Γ κ2 tb b) : SemV Γ κ (tOp r ta tb) (f2 g a b) := fun H0 ρ σ G H Q z s E e q => by
  unfold f2 at e
  cases ea : a ρ with
  | none => rw [ea] at e; cases e
  | some x =>
    rw [ea] at e
    cases eb : b ρ with
    | none => rw [eb] at e; cases e
    | some y =>
      rw [eb] at e
      refine sa H0 ρ σ G H _ x s E ea fun G1 H1 v g1 o1 => ?_
      refine sb H0 ρ σ G1 H1 _ y g1.s (E.grow g1) eb fun G2 H2 w g2 o2 => ?_
      exact h G2 H2 v w x y z g2.s (o1.b.mono g2.g g2.h) o2.b e Q fun G3 H3 u g3 o3 => q G3 H3 u ((g1.trans g2).trans g3) (o3.pre (g1.trans g2))
theorem d_op {op : Operator} {r : R2} {g : D → D → Option D} {ea eb : Expr} {a b : Env → Option D} {pos : Pos} (ho : ∀ X, Good Γ N sc X → OpR X (binaryOp op) r) (h : Op2 Γ κ r g) (ha : DV Γ N sc κ1 ea a) (hb : DV Γ N sc κ2 eb b) :
    DV Γ N sc κ (.BinOp ea op eb pos) (f2 g a b) := by
  obtain ⟨ta, pa, sa⟩ := ha.ex
  obtain ⟨tb, pb, sb⟩ := hb.ex
  exact ⟨_, fun X gX => pe_op (ho X gX) (pa X gX) (pb X gX), sem_op h sa sb⟩
theorem d_cmp {op : CmpOp} {r : R2} {g : D → D → Option D} {ea eb : Expr} {a b : Env → Option D} {pos : Pos} (ho : ∀ X, Good Γ N sc X → OpR X (compareOp op) r) (h : Op2 Γ .e r g) (ha : DV Γ N sc κ1 ea a) (hb : DV Γ N sc κ2 eb b)
    (hm : behindInMarks op eb = false) : DC Γ N sc (.Compare ea [op] [eb] pos) (f2 g a b) := by
  obtain ⟨ta, pa, sa⟩ := ha.ex
  obtain ⟨tb, pb, sb⟩ := hb.ex
  exact ⟨_, fun X gX => ⟨pe_cmpR (ho X gX) (pa X gX) (pb X gX) hm, pt_cmpR (ho X gX) (pa X gX) (pb X gX) hm⟩, sem_op h sa sb⟩
section
variable {x y : V} {e z : D} {Q : VK}
def subD : D → D → Option D
  | .int i, .int j => some (.int (i - j))
  | _, _ => none
def fdivD : D → D → Option D
  | .int i, .int j => if 0 < j ∧ j < 2 ^ 64 then some (.int (i / j)) else none
  | _, _ => none
def modD : D → D → Option D
  | .int i, .int j => if 0 < j then some (.int (i % j)) else none
  | _, _ => none
def addD : D → D → Option D
  | .int i, .int j => some (.int (i + j))
  | .str i, .str j => if i.length + j.length < big then some (.str (i ++ j)) else none
  | .tup i, .tup j => if i.length + j.length < big then some (.tup (i ++ j)) else none
  | .lst i, .lst j => if i.length + j.length < big then some (.lst (i ++ j)) else none
  | _, _ => none
def catD : D → D → Option D
  | .lst i, .lst j => if i.length + j.length < big then some (.lst (i ++ j)) else none
  | _, _ => none
def mulD : D → D → Option D
  | .int i, .int j => if i.natAbs < 2 ^ 64 ∨ j.natAbs < 2 ^ 64 then some (.int (i * j)) else none
  | .tup xs, .int k => if xs ≠ [] ∧ 2 ≤ k ∧ k ≤ 1000 ∧ xs.length ≤ 1000 then some (.tup (List.replicate k.toNat xs).flatten) else none
  | _, _ => none
def shlD : D → D → Option D
  | .int i, .int j => if 0 ≤ j ∧ j ≤ 1000 ∧ i.natAbs < 2 ^ 64 then some (.int (i * 2 ^ j.toNat)) else none
  | _, _ => none
def shrD : D → D → Option D
  | .int i, .int j => if 0 ≤ j then some (.int (i / 2 ^ j.toNat)) else none
  | _, _ => none
def bandD : D → D → Option D
  | .int i, .int j => some (.int (Builtin.bitAnd i j))
  | _, _ => none
def ltD : D → D → Option D
  | .int i, .int j => some (.bl (decide (i < j)))
  | _, _ => none
def leD : D → D → Option D
  | .int i, .int j => some (.bl (decide (i ≤ j)))
  | _, _ => none
def gtD : D → D → Option D
  | .int i, .int j => some (.bl (decide (j < i)))
  | _, _ => none
def geD : D → D → Option D
  | .int i, .int j => some (.bl (decide (j ≤ i)))
  | _, _ => none
theorem op2_int0 {f : Int → Int → V} {g : D → D → Option D} {k : Int → Int → D} (hk : ∀ i j G, Rep Γ.K Γ.C G (f i j) (k i j)) (hg : ∀ d e z, g d e = some z → ∃ i j, d = .int i ∧ e = .int j ∧ z = k i j) : Op2 Γ .e (rI0 f) g := by
  intro G H x y d e z s rx ry h Q q
  obtain ⟨i, j, rfl, rfl, rfl⟩ := hg d e z h
  exact ⟨i, j, rx.int, ry.int, q G H _ (Grow.refl s) (hk i j G)⟩
theorem op2_int {f : Int → Int → V} {P : Int → Int → Prop} {g : D → D → Option D} {k : Int → Int → D} (hk : ∀ i j G, Rep Γ.K Γ.C G (f i j) (k i j)) (hg : ∀ d e z, g d e = some z → ∃ i j, d = .int i ∧ e = .int j ∧ z = k i j ∧ P i j) : Op2 Γ .e (rI P f) g := by
  intro G H x y d e z s rx ry h Q q
  obtain ⟨i, j, rfl, rfl, rfl, hp⟩ := hg d e z h
  exact ⟨i, j, rx.int, ry.int, hp, q G H _ (Grow.refl s) (hk i j G)⟩
theorem Op2.orL {r r' : R2} {g : D → D → Option D} (h : Op2 Γ κ r g) : Op2 Γ κ (fun x y H Q => r x y H Q ∨ r' x y H Q) g := fun G H x y d e z s rx ry h1 Q q => .inl (h G H x y d e z s rx ry h1 Q q)
theorem o_sub : Op2 Γ .e (rI0 fun i j => .int (i - j)) subD := op2_int0 (k := fun i j => .int (i - j)) (fun _ _ _ => .int _) fun d e z h => by
  unfold subD at h; split at h
  · cases h; exact ⟨_, _, rfl, rfl, rfl⟩
  · cases h
theorem o_lt : Op2 Γ .e (rI0 fun i j => .bl (decide (i < j))) ltD := op2_int0 (k := fun i j => .bl (decide (i < j))) (fun _ _ _ => .bl _) fun d e z h => by
  unfold ltD at h; split at h
  · cases h; exact ⟨_, _, rfl, rfl, rfl⟩
  · cases h
theorem o_le : Op2 Γ .e (rI0 fun i j => .bl (decide (i ≤ j))) leD := op2_int0 (k := fun i j => .bl (decide (i ≤ j))) (fun _ _ _ => .bl _) fun d e z h => by
  unfold leD at h; split at h
  · cases h; exact ⟨_, _, rfl, rfl, rfl⟩
  · cases h
theorem o_gt : Op2 Γ .e (rI0 fun i j => .bl (decide (j < i))) gtD := op2_int0 (k := fun i j => .bl (decide (j < i))) (fun _ _ _ => .bl _) fun d e z h => by
  unfold gtD at h; split at h
  · cases h; exact ⟨_, _, rfl, rfl, rfl⟩
  · cases h
theorem o_ge : Op2 Γ .e (rI0 fun i j => .bl (decide (j ≤ i))) geD := op2_int0 (k := fun i j => .bl (decide (j ≤ i))) (fun _ _ _ => .bl _) fun d e z h => by
  unfold geD at h; split at h
  · cases h; exact ⟨_, _, rfl, rfl, rfl⟩
  · cases h
theorem o_band : Op2 Γ .e (rI0 fun i j => .int (Builtin.bitAnd i j)) bandD := op2_int0 (k := fun i j => .int (Builtin.bitAnd i j)) (fun _ _ _ => .int _) fun d e z h => by
  unfold bandD at h; split at h
  · cases h; exact ⟨_, _, rfl, rfl, rfl⟩
  · cases h
theorem log2_small {j : Int} (h0 : 0 < j) (h : j < 2 ^ 64) : j.natAbs.log2 < 9000 := by
  have h1 : j.natAbs < 2 ^ 64 := by omega
  have h2 : j.natAbs ≠ 0 := by omega
  have h3 : j.natAbs.log2 < 64 := (Nat.log2_lt h2).mpr h1
  omega
theorem o_fdiv : Op2 Γ .e (rI CDivW fun i j => .int (i / j)) fdivD := op2_int (k := fun i j => .int (i / j)) (fun _ _ _ => .int _) fun d e z h => by
  unfold fdivD at h; split at h
  · split at h
    · rename_i hc
      cases h; exact ⟨_, _, rfl, rfl, rfl, hc.1, log2_small hc.1 hc.2⟩
    · cases h
  · cases h
theorem o_mod : Op2 Γ .e (rI (fun _ j => 0 < j) fun i j => .int (i % j)) modD := op2_int (k := fun i j => .int (i % j)) (fun _ _ _ => .int _) fun d e z h => by
  unfold modD at h; split at h
  · split at h
    · rename_i hc
      cases h; exact ⟨_, _, rfl, rfl, rfl, hc⟩
    · cases h
  · cases h
theorem o_shl : Op2 Γ .e (rI CPow fun i j => .int (i * 2 ^ j.toNat)) shlD := op2_int (k := fun i j => .int (i * 2 ^ j.toNat)) (fun _ _ _ => .int _) fun d e z h => by
  unfold shlD at h; split at h
  · split at h
    · rename_i hc
      cases h; exact ⟨_, _, rfl, rfl, rfl, hc.1, by omega, hc.2.2⟩
    · cases h
  · cases h
theorem o_shr : Op2 Γ .e (rI (fun _ j => 0 ≤ j) fun i j => .int (i / 2 ^ j.toNat)) shrD := op2_int (k := fun i j => .int (i / 2 ^ j.toNat)) (fun _ _ _ => .int _) fun d e z h => by
  unfold shrD at h; split at h
  · split at h
    · rename_i hc
      cases h; exact ⟨_, _, rfl, rfl, rfl, hc⟩
    · cases h
  · cases h
theorem RepL.ne_nil {K : PySem.W.Frag} {C : Addr} {G : Hp} {vs : List V} {ds : List D} (h : RepL K C G vs ds) : vs = [] ↔ ds = [] := by
  cases h <;> simp
theorem RepL.flat {K : PySem.W.Frag} {C : Addr} {G : Hp} {vs : List V} {ds : List D} (h : RepL K C G vs ds) : ∀ n : Nat, RepL K C G (List.replicate n vs).flatten (List.replicate n ds).flatten
  | 0 => .nil
  | n + 1 => by
    rw [List.replicate_succ, List.replicate_succ, List.flatten_cons, List.flatten_cons]
    exact h.app (h.flat n)
abbrev rMulA (K : PySem.W.Frag) : R2 := fun x y H Q => (rI CMul fun i j => .int (i * j)) x y H Q ∨ rRepT K x y H Q
theorem o_mul : Op2 Γ .e (rMulA Γ.K) mulD := by
  intro G H x y d e z s rx ry h Q q
  unfold mulD at h
  split at h
  · split at h
    · rename_i i j hc
      cases h
      refine .inl ⟨i, j, rx.int, ry.int, ?_, q G H _ (Grow.refl s) (.int _)⟩
      show (-(2 ^ 64) < i ∧ i < 2 ^ 64) ∨ (-(2 ^ 64) < j ∧ j < 2 ^ 64)
      omega
    · cases h
  · split at h
    · rename_i xs k hc
      cases h
      obtain ⟨a, vs, rfl, h1, h2⟩ := rx.tup
      refine .inr ⟨a, k, vs, rfl, ry.int, SqT.of (s.tup h1), fun e => hc.1 (h2.ne_nil.mp e), hc.2.1, hc.2.2.1, by rw [h2.length]; exact hc.2.2.2, fun p hp => ?_⟩
      exact q _ _ _ (Grow.new s hp) (.tup upd_same ((h2.flat _).mono (SL.new (s.free hp))))
    · cases h
  · cases h
abbrev rAddA (K : PySem.W.Frag) : R2 := fun x y H Q => (fun x y H Q => (rI0 fun i j => .int (i + j)) x y H Q ∨ (fun (x y : V) (H : Hp) (Q : VK) => ∃ i j, x = V.str i ∧ y = V.str j ∧ i.length + j.length ≤ sizeLine ∧ Q (.str (i ++ j)) H) x y H Q) x y H Q ∨ (fun x y H Q => rCatA K x y H Q ∨ rCat x y H Q) x y H Q
theorem o_add : Op2 Γ .e (rAddA Γ.K) addD := by
  intro G H x y d e z s rx ry h Q q
  unfold addD at h
  split at h
  · rename_i i j
    cases h
    exact .inl (.inl ⟨i, j, rx.int, ry.int, q G H _ (Grow.refl s) (.int _)⟩)
  · split at h
    · rename_i i j hc
      cases h
      exact .inl (.inr ⟨i, j, rx.str, ry.str, Nat.le_of_lt (big_lt hc), q G H _ (Grow.refl s) (.str _)⟩)
    · cases h
  · split at h
    · rename_i xs ys hc
      cases h
      obtain ⟨a, vs, rfl, h1, h2⟩ := rx.tup
      obtain ⟨b, ws, rfl, h3, h4⟩ := ry.tup
      refine .inr (.inl ⟨a, b, vs, ws, rfl, rfl, SqT.of (s.tup h1), SqT.of (s.tup h3), by rw [h2.length, h4.length]; exact Nat.le_of_lt (big_lt hc), fun e => ?_, fun _ e => ?_, fun _ _ p hp => ?_⟩)
      · have := h2.ne_nil.mp e
        subst this
        exact q G H _ (Grow.refl s) (.tup h3 h4)
      · have := h4.ne_nil.mp e
        subst this
        rw [List.append_nil] at q
        exact q G H _ (Grow.refl s) (.tup h1 h2)
      · exact q _ _ _ (Grow.new s hp) (.tup upd_same ((h2.app h4).mono (SL.new (s.free hp))))
    · cases h
  · split at h
    · rename_i xs ys hc
      cases h
      obtain ⟨a, vs, rfl, h1, h2⟩ := rx.lst s
      obtain ⟨b, ws, rfl, h3, h4⟩ := ry.lst s
      refine .inr (.inr ⟨a, b, vs, ws, rfl, rfl, h1, h3, by rw [h2.length, h4.length]; exact Nat.le_of_lt (big_lt hc), fun p hp => ?_⟩)
      exact q _ _ _ (Grow.new s hp) (.lst upd_same ((h2.app h4).mono (SL.new (s.free hp))))
    · cases h
  · cases h
theorem o_cat : Op2 Γ .f rCat catD := by
  intro G H x y d e z s rx ry h Q q
  unfold catD at h
  split at h
  · split at h
    · rename_i xs ys hc
      cases h
      obtain ⟨a, vs, rfl, h1, h2⟩ := rx.lst s
      obtain ⟨b, ws, rfl, h3, h4⟩ := ry.lst s
      refine ⟨a, b, vs, ws, rfl, rfl, h1, h3, by rw [h2.length, h4.length]; exact Nat.le_of_lt (big_lt hc), fun p hp => ?_⟩
      exact q _ _ _ (Grow.newH s hp) ⟨p, rfl, hp, s.free hp, _, upd_same, h2.app h4⟩
    · cases h
  · cases h
end
section
variable {ea eb : Expr} {a b : Env → Option D} {pos : Pos}
theorem d_add (ha : DV Γ N sc κ1 ea a) (hb : DV Γ N sc κ2 eb b) : DV Γ N sc .e (.BinOp ea .Add eb pos) (f2 addD a b) := d_op (fun X g => g.K ▸ (op_add.or op_add_str).or (op_catA.or op_cat)) o_add ha hb
theorem d_cat (ha : DV Γ N sc κ1 ea a) (hb : DV Γ N sc κ2 eb b) : DV Γ N sc .f (.BinOp ea .Add eb pos) (f2 catD a b) := d_op (fun X g => op_cat) o_cat ha hb
theorem d_sub (ha : DV Γ N sc κ1 ea a) (hb : DV Γ N sc κ2 eb b) : DV Γ N sc .e (.BinOp ea .Sub eb pos) (f2 subD a b) := d_op (fun X g => op_sub) o_sub ha hb
theorem d_mul (ha : DV Γ N sc κ1 ea a) (hb : DV Γ N sc κ2 eb b) : DV Γ N sc .e (.BinOp ea .Mult eb pos) (f2 mulD a b) := d_op (fun X g => g.K ▸ op_mul.or op_repT) o_mul ha hb
theorem d_fdiv (ha : DV Γ N sc κ1 ea a) (hb : DV Γ N sc κ2 eb b) : DV Γ N sc .e (.BinOp ea .FloorDiv eb pos) (f2 fdivD a b) := d_op (fun X g => op_fdivW) o_fdiv ha hb
theorem d_mod (ha : DV Γ N sc κ1 ea a) (hb : DV Γ N sc κ2 eb b) : DV Γ N sc .e (.BinOp ea .Mod eb pos) (f2 modD a b) := d_op (fun X g => op_mod) o_mod ha hb
theorem d_shl (ha : DV Γ N sc κ1 ea a) (hb : DV Γ N sc κ2 eb b) : DV Γ N sc .e (.BinOp ea .LShift eb pos) (f2 shlD a b) := d_op (fun X g => op_shl) o_shl ha hb
theorem d_shr (ha : DV Γ N sc κ1 ea a) (hb : DV Γ N sc κ2 eb b) : DV Γ N sc .e (.BinOp ea .RShift eb pos) (f2 shrD a b) := d_op (fun X g => op_shr) o_shr ha hb
theorem d_band (ha : DV Γ N sc κ1 ea a) (hb : DV Γ N sc κ2 eb b) : DV Γ N sc .e (.BinOp ea .BitAnd eb pos) (f2 bandD a b) := d_op (fun X g => op_and) o_band ha hb
theorem d_lt (ha : DV Γ N sc κ1 ea a) (hb : DV Γ N sc κ2 eb b) : DC Γ N sc (.Compare ea [.Lt] [eb] pos) (f2 ltD a b) := d_cmp (fun X g => op_lt) o_lt ha hb (nobehind _ (by decide) (by decide))
theorem d_le (ha : DV Γ N sc κ1 ea a) (hb : DV Γ N sc κ2 eb b) : DC Γ N sc (.Compare ea [.LtE] [eb] pos) (f2 leD a b) := d_cmp (fun X g => op_le) o_le ha hb (nobehind _ (by decide) (by decide))
theorem d_gt (ha : DV Γ N sc κ1 ea a) (hb : DV Γ N sc κ2 eb b) : DC Γ N sc (.Compare ea [.Gt] [eb] pos) (f2 gtD a b) := d_cmp (fun X g => op_gt) o_gt ha hb (nobehind _ (by decide) (by decide))
theorem d_ge (ha : DV Γ N sc κ1 ea a) (hb : DV Γ N sc κ2 eb b) : DC Γ N sc (.Compare ea [.GtE] [eb] pos) (f2 geD a b) := d_cmp (fun X g => op_ge) o_ge ha hb (nobehind _ (by decide) (by decide))
end
end
end Pv
set_option Elab.async false
set_option linter.all false
set_option maxRecDepth 100000
set_option maxHeartbeats 4000000
set_option autoImplicit false
namespace Pv
open PySem PySem.Spec PyProof.Rows L2
section
variable {Γ : Gam} {N : List Str} {sc : Scope} {κ κ1 κ2 κ3 : Kd} {G H G' H' G1 H1 : Hp} {v : V} {d : D}
/-! ### == of data -/
def okD : Nat → D → Bool
  | 0, _ => false
  | _ + 1, .non => true
  | _ + 1, .bl _ => true
  | _ + 1, .int _ => true
  | n + 1, .tup xs => xs.all (okD n)
  | n + 1, .lst xs => xs.all (okD n)
  | _ + 1, _ => false
def eqL (f : D → D → Bool) : List D → List D → Bool
  | [], [] => true
  | x :: xs, y :: ys => f x y && eqL f xs ys
  | _, _ => false
def eqN : Nat → D → D → Bool
  | 0, _, _ => false
  | _ + 1, .non, .non => true
  | _ + 1, .bl a, .bl b => a == b
  | _ + 1, .bl a, .int j => (if a then 1 else 0) == j
  | _ + 1, .int i, .bl b => i == (if b then 1 else 0)
  | _ + 1, .int i, .int j => i == j
  | n + 1, .tup xs, .tup ys => eqL (eqN n) xs ys
  | n + 1, .lst xs, .lst ys => eqL (eqN n) xs ys
  | _ + 1, _, _ => false
def py : Nat → D → PyData
  | 0, _ => .none
  | _ + 1, .bl b => .bool b
  | _ + 1, .int i => .int i
  | n + 1, .tup xs => .tuple (xs.map (py n))
  | n + 1, .lst xs => .list (xs.map (py n))
  | _ + 1, _ => .none
theorem py_shape : ∀ (n : Nat) (d : D), okD n d = true → (py n d).canLay0 = true ∧ (py n d).depth ≤ n := by
  intro n
  induction n with
  | zero => intro d h; cases h
  | succ n ih =>
    have all : ∀ xs : List D, xs.all (okD n) = true → PyData.canLayAll0 (xs.map (py n)) = true ∧ PyData.depthAll (xs.map (py n)) ≤ n := by
      intro xs
      induction xs with
      | nil => intro _; exact ⟨rfl, Nat.zero_le _⟩
      | cons x xs ihx =>
        intro h
        rw [List.all_cons, Bool.and_eq_true] at h
        obtain ⟨h1, h2⟩ := ih x h.1
        obtain ⟨h3, h4⟩ := ihx h.2
        refine ⟨?_, ?_⟩
        · show (PyData.canLay0 (py n x) && PyData.canLayAll0 (xs.map (py n))) = true
          rw [h1, h3]; rfl
        · show max (PyData.depth (py n x)) (PyData.depthAll (xs.map (py n))) ≤ n
          omega
    intro d h
    cases d with
    | non => exact ⟨rfl, Nat.zero_le _⟩
    | bl b => exact ⟨rfl, Nat.zero_le _⟩
    | int i => exact ⟨rfl, Nat.zero_le _⟩
    | tup xs => obtain ⟨h1, h2⟩ := all xs h; exact ⟨h1, Nat.succ_le_succ h2⟩
    | lst xs => obtain ⟨h1, h2⟩ := all xs h; exact ⟨h1, Nat.succ_le_succ h2⟩
    | _ => cases h
theorem py_eqv : ∀ (n : Nat) (d e : D), okD n d = true → okD n e = true → PyData.eqv (py n d) (py n e) = eqN n d e := by
  intro n
  induction n with
  | zero => intro d e h; cases h
  | succ n ih =>
    have all : ∀ xs ys : List D, xs.all (okD n) = true → ys.all (okD n) = true → PyData.eqvAll (xs.map (py n)) (ys.map (py n)) = eqL (eqN n) xs ys := by
      intro xs
      induction xs with
      | nil => intro ys _ _; cases ys <;> rfl
      | cons x xs ihx =>
        intro ys h k
        cases ys with
        | nil => rfl
        | cons y ys =>
          rw [List.all_cons, Bool.and_eq_true] at h k
          show (PyData.eqv (py n x) (py n y) && PyData.eqvAll (xs.map (py n)) (ys.map (py n))) = (eqN n x y && eqL (eqN n) xs ys)
          rw [ih x y h.1 k.1, ihx ys h.2 k.2]
    intro d e h k
    cases d <;> cases e <;> first | rfl | exact absurd (show false = true from h) Bool.false_ne_true | exact absurd (show false = true from k) Bool.false_ne_true | exact all _ _ h k
theorem py_dp (s : SL G H) : ∀ (n : Nat) (d : D) (v : V), okD n d = true → Rep Γ.K Γ.C G v d → Dp Γ.K H v (py n d) := by
  intro n
  induction n with
  | zero => intro d v h; cases h
  | succ n ih =>
    have all : ∀ (xs : List D) (vs : List V), xs.all (okD n) = true → RepL Γ.K Γ.C G vs xs → DpAll Γ.K H vs (xs.map (py n)) := by
      intro xs
      induction xs with
      | nil => intro vs _ r; cases r; exact .nil
      | cons x xs ihx =>
        intro vs h r
        rw [List.all_cons, Bool.and_eq_true] at h
        cases r with
        | cons r1 r2 => exact .cons (ih x _ h.1 r1) (ihx _ h.2 r2)
    intro d v h r
    cases r with
    | non => exact .non
    | bl b => exact .bl b
    | int i => exact .int i
    | tup h1 h2 => exact .tup (SqT.of (s.tup h1)) (all _ _ h h2)
    | lst h1 h2 => exact .lst (SqL.of (s.lst h1)) (all _ _ h h2)
    | _ => cases h
theorem py_dpAll (s : SL G H) (n : Nat) : ∀ (xs : List D) (vs : List V), xs.all (okD n) = true → RepL Γ.K Γ.C G vs xs → DpAll Γ.K H vs (xs.map (py n)) := by
  intro xs
  induction xs with
  | nil => intro vs _ r; cases r; exact .nil
  | cons x xs ihx =>
    intro vs h r
    rw [List.all_cons, Bool.and_eq_true] at h
    cases r with
    | cons r1 r2 => exact .cons (py_dp s n x _ h.1 r1) (ihx _ h.2 r2)
theorem py_dpB (s : SL G H) {n : Nat} (h : okD n d = true) (r : RepB Γ.K Γ.C G H v d) : Dp Γ.K H v (py n d) := by
  rcases r with r | ⟨a, rfl, r⟩
  · exact py_dp s n d v h r
  · cases n with
    | zero => cases h
    | succ n =>
      cases d <;> try exact r.elim
      · obtain ⟨vs, h1, h2⟩ := r
        exact .lst (SqL.of h1) (py_dpAll s n _ vs h h2)
      · exact absurd (show false = true from h) Bool.false_ne_true
      · exact absurd (show false = true from h) Bool.false_ne_true
theorem py_shaped {n : Nat} (hn : n ≤ 60) (h : okD n d = true) : SeqAt.shaped (py n d) = true := by
  obtain ⟨h1, h2⟩ := py_shape n d h
  unfold SeqAt.shaped
  rw [h1, decide_eq_true (Nat.le_trans h2 (by omega))]
  rfl
def sclD : D → D → Bool
  | .str _, .str _ => true | .non, .str _ => true | .str _, .non => true | .int _, .str _ => true | .str _, .int _ => true
  | _, _ => false
def sclE : D → D → Bool
  | .str x, .str y => decide (x = y)
  | _, _ => false
def eqD (d e : D) : Option D := if sclD d e then some (.bl (sclE d e)) else if okD 8 d && okD 8 e then some (.bl (eqN 8 d e)) else none
def neD (d e : D) : Option D := if sclD d e then some (.bl (!sclE d e)) else if okD 8 d && okD 8 e then some (.bl (!eqN 8 d e)) else none
theorem scl_ok {d e : D} {x y : V} (h : sclD d e = true) (rx : RepB Γ.K Γ.C G H x d) (ry : RepB Γ.K Γ.C G H y e) : scal x y = true ∧ decide (x = y) = sclE d e := by
  cases d <;> cases e <;> first | cases h | skip
  · rw [rx.non, ry.str]; exact ⟨rfl, rfl⟩
  · rw [rx.int, ry.str]; exact ⟨rfl, rfl⟩
  · rw [rx.str, ry.non]; exact ⟨rfl, rfl⟩
  · rw [rx.str, ry.int]; exact ⟨rfl, rfl⟩
  · rw [rx.str, ry.str]
    refine ⟨rfl, ?_⟩
    rename_i a b
    show decide (V.str a = V.str b) = decide (a = b)
    by_cases q : a = b
    · rw [q, decide_eq_true rfl, decide_eq_true rfl]
    · rw [decide_eq_false q, decide_eq_false fun z => q (V.str.inj z)]
abbrev rEqA (K : PySem.W.Frag) : R2 := fun x y H Q => rEq x y H Q ∨ rEqD K x y H Q
abbrev rNeA (K : PySem.W.Frag) : R2 := fun x y H Q => rNe x y H Q ∨ rNeD K x y H Q
theorem o_eq : Op2 Γ .e (rEqA Γ.K) eqD := by
  intro G H x y d e z s rx ry h Q q
  unfold eqD at h
  split at h
  · rename_i hc
    cases h
    obtain ⟨h1, h2⟩ := scl_ok hc rx ry
    exact .inl ⟨h1, by rw [h2]; exact q G H _ (Grow.refl s) (.bl _)⟩
  · split at h
    · rename_i hc
      cases h
      rw [Bool.and_eq_true] at hc
      refine .inr ⟨_, _, py_dpB s hc.1 rx, py_dpB s hc.2 ry, py_shaped (by omega) hc.1, py_shaped (by omega) hc.2, ?_⟩
      rw [py_eqv 8 d e hc.1 hc.2]
      exact q G H _ (Grow.refl s) (.bl _)
    · cases h
theorem o_ne : Op2 Γ .e (rNeA Γ.K) neD := by
  intro G H x y d e z s rx ry h Q q
  unfold neD at h
  split at h
  · rename_i hc
    cases h
    obtain ⟨h1, h2⟩ := scl_ok hc rx ry
    exact .inl ⟨h1, by rw [h2]; exact q G H _ (Grow.refl s) (.bl _)⟩
  · split at h
    · rename_i hc
      cases h
      rw [Bool.and_eq_true] at hc
      refine .inr ⟨_, _, py_dpB s hc.1 rx, py_dpB s hc.2 ry, py_shaped (by omega) hc.1, py_shaped (by omega) hc.2, ?_⟩
      rw [py_eqv 8 d e hc.1 hc.2]
      exact q G H _ (Grow.refl s) (.bl _)
    · cases h
theorem d_eq {ea eb : Expr} {a b : Env → Option D} {pos : Pos} (ha : DV Γ N sc κ1 ea a) (hb : DV Γ N sc κ2 eb b) : DC Γ N sc (.Compare ea [.Eq] [eb] pos) (f2 eqD a b) :=
  d_cmp (fun X g => g.K ▸ op_eq.or (op_eqD g.room.units)) o_eq ha hb (nobehind _ (by decide) (by decide))
theorem d_ne {ea eb : Expr} {a b : Env → Option D} {pos : Pos} (ha : DV Γ N sc κ1 ea a) (hb : DV Γ N sc κ2 eb b) : DC Γ N sc (.Compare ea [.NotEq] [eb] pos) (f2 neD a b) :=
  d_cmp (fun X g => g.K ▸ op_ne.or (op_neD g.room.units)) o_ne ha hb (nobehind _ (by decide) (by decide))
/-! ### is -/
def nonB : D → Bool
  | .non => true
  | _ => false
def isD : D → D → Option D
  | .bl a, .bl b => some (.bl (decide (a = b)))
  | d, .non => some (.bl (nonB d))
  | _, _ => none
def isntD : D → D → Option D
  | .bl a, .bl b => some (.bl (!decide (a = b)))
  | d, .non => some (.bl (!nonB d))
  | _, _ => none
theorem nonB_ok {x : V} (r : RepB Γ.K Γ.C G H x d) : decide (x = .non) = nonB d := by
  rcases r with r | ⟨a, rfl, r⟩
  · cases r <;> rfl
  · cases d <;> first | rfl | exact r.elim
abbrev rIsA : R2 := fun x y H Q => rIsB x y H Q ∨ (fun (x y : V) (H : Hp) (Q : VK) => y = .non ∧ Q (.bl (decide (x = .non))) H) x y H Q
abbrev rNtA : R2 := fun x y H Q => rNotB x y H Q ∨ (fun (x y : V) (H : Hp) (Q : VK) => y = .non ∧ Q (.bl (!decide (x = .non))) H) x y H Q
theorem o_is : Op2 Γ .e rIsA isD := by
  intro G H x y d e z s rx ry h Q q
  unfold isD at h
  split at h
  · cases h
    exact .inl ⟨_, _, rx.bl, ry.bl, q G H _ (Grow.refl s) (.bl _)⟩
  · cases h
    exact .inr ⟨ry.non, by rw [nonB_ok rx]; exact q G H _ (Grow.refl s) (.bl _)⟩
  · cases h
theorem o_isnt : Op2 Γ .e rNtA isntD := by
  intro G H x y d e z s rx ry h Q q
  unfold isntD at h
  split at h
  · cases h
    exact .inl ⟨_, _, rx.bl, ry.bl, q G H _ (Grow.refl s) (.bl _)⟩
  · cases h
    exact .inr ⟨ry.non, by rw [nonB_ok rx]; exact q G H _ (Grow.refl s) (.bl _)⟩
  · cases h
theorem d_is {ea eb : Expr} {a b : Env → Option D} {pos : Pos} (ha : DV Γ N sc κ1 ea a) (hb : DV Γ N sc κ2 eb b) : DC Γ N sc (.Compare ea [.Is] [eb] pos) (f2 isD a b) :=
  d_cmp (fun X g => op_isBl.or op_isN) o_is ha hb (nobehind _ (by decide) (by decide))
theorem d_isnt {ea eb : Expr} {a b : Env → Option D} {pos : Pos} (ha : DV Γ N sc κ1 ea a) (hb : DV Γ N sc κ2 eb b) : DC Γ N sc (.Compare ea [.IsNot] [eb] pos) (f2 isntD a b) :=
  d_cmp (fun X g => op_notBl.or op_notN) o_isnt ha hb (nobehind _ (by decide) (by decide))
/-! ### lists of ints, of truths -/
def asInts : List D → Option (List Int)
  | [] => some []
  | .int i :: r => (asInts r).bind fun ns => some (i :: ns)
  | _ :: _ => none
theorem asInts_eq : ∀ {ds : List D} {ns : List Int}, asInts ds = some ns → ds = ns.map D.int
  | [], ns, h => by cases h; rfl
  | d :: ds, ns, h => by
    cases d <;> try cases h
    unfold asInts at h
    cases q : asInts ds with
    | none => rw [q] at h; cases h
    | some ms => rw [q] at h; cases h; rw [asInts_eq q]; rfl
theorem asInts_map : ∀ ns : List Int, asInts (ns.map D.int) = some ns
  | [] => rfl
  | n :: ns => by
    show (asInts (ns.map D.int)).bind _ = _
    rw [asInts_map ns]; rfl
def asBls : List D → Option (List Bool)
  | [] => some []
  | .bl i :: r => (asBls r).bind fun ns => some (i :: ns)
  | _ :: _ => none
theorem asBls_eq : ∀ {ds : List D} {ns : List Bool}, asBls ds = some ns → ds = ns.map D.bl
  | [], ns, h => by cases h; rfl
  | d :: ds, ns, h => by
    cases d <;> try cases h
    unfold asBls at h
    cases q : asBls ds with
    | none => rw [q] at h; cases h
    | some ms => rw [q] at h; cases h; rw [asBls_eq q]; rfl
theorem asBls_map : ∀ ns : List Bool, asBls (ns.map D.bl) = some ns
  | [] => rfl
  | n :: ns => by
    show (asBls (ns.map D.bl)).bind _ = _
    rw [asBls_map ns]; rfl
def asStrs : List D → Option (List Str)
  | [] => some []
  | .str i :: r => (asStrs r).bind fun ns => some (i :: ns)
  | _ :: _ => none
theorem asStrs_eq : ∀ {ds : List D} {ns : List Str}, asStrs ds = some ns → ds = ns.map D.str
  | [], ns, h => by cases h; rfl
  | d :: ds, ns, h => by
    cases d <;> try cases h
    unfold asStrs at h
    cases q : asStrs ds with
    | none => rw [q] at h; cases h
    | some ms => rw [q] at h; cases h; rw [asStrs_eq q]; rfl
theorem asStrs_map : ∀ ns : List Str, asStrs (ns.map D.str) = some ns
  | [] => rfl
  | n :: ns => by
    show (asStrs (ns.map D.str)).bind _ = _
    rw [asStrs_map ns]; rfl
/-! ### dicts -/
def getK {κ : Type} [DecidableEq κ] (kds : List (κ × D)) (k : κ) : Option D := (kds.find? fun p => decide (p.1 = k)).map Prod.snd
def putD {κ : Type} [DecidableEq κ] (kds : List (κ × D)) (k : κ) (d : D) : List (κ × D) :=
  if kds.any (fun p => decide (p.1 = k)) then kds.map (fun p => if p.1 = k then (k, d) else p) else kds ++ [(k, d)]
theorem getK_val {κ μ : Type} [DecidableEq κ] [DecidableEq μ] (f : μ → κ) (hf : ∀ a b, f a = f b → a = b) {K : PySem.W.Frag} {C : Addr} {G : Hp} : ∀ {kvs : List (κ × V)} {kds : List (μ × D)} (k : μ), kvs.map Prod.fst = kds.map (fun p => f p.1) → RepL K C G (kvs.map Prod.snd) (kds.map Prod.snd) →
    (getK kds k = none ∧ valV kvs (f k) = none) ∨ ∃ v d, getK kds k = some d ∧ valV kvs (f k) = some v ∧ Rep K C G v d
  | [], [], k, _, _ => .inl ⟨rfl, rfl⟩
  | [], _ :: _, k, h, _ => by cases h
  | _ :: _, [], k, h, _ => by cases h
  | (a, v) :: kvs, (b, d) :: kds, k, h, r => by
    have h1 : a = f b := (List.cons.inj h).1
    have h2 := (List.cons.inj h).2
    cases r with
    | cons r1 r2 =>
      by_cases e : b = k
      · have e2 : a = f k := by rw [h1, e]
        refine .inr ⟨v, d, ?_, ?_, r1⟩
        · unfold getK; rw [List.find?_cons_of_pos (by simpa using e)]; rfl
        · unfold valV; rw [List.find?_cons_of_pos (by simpa using e2)]; rfl
      · have e2 : ¬ a = f k := fun z => e (hf _ _ (h1.symm.trans z))
        have g1 : getK ((b, d) :: kds) k = getK kds k := by unfold getK; rw [List.find?_cons_of_neg (by simpa using e)]
        have g2 : valV ((a, v) :: kvs) (f k) = valV kvs (f k) := by unfold valV; rw [List.find?_cons_of_neg (by simpa using e2)]
        rw [g1, g2]
        exact getK_val f hf k h2 r2
theorem kk_inj (a b : List Int) (h : kk a = kk b) : a = b := by
  induction a generalizing b with
  | nil => cases b with
    | nil => rfl
    | cons _ _ => cases h
  | cons x xs ih =>
    cases b with
    | nil => cases h
    | cons y ys =>
      have h1 := (List.cons.inj h).1
      have h2 := (List.cons.inj h).2
      cases h1
      rw [ih ys h2]
theorem kk_tup {vs : List V} {k : List Int} (r : RepL Γ.K Γ.C G vs (k.map D.int)) : vs = (kk k).map kV := by
  rw [RepL.ints_eq k r, List.map_map]; rfl
def inD : D → D → Option D
  | .int i, .tup ds => (asInts ds).bind fun ns => some (.bl (ns.any fun j => j == i))
  | .tup k, .dct kds => (asInts k).bind fun ns => some (.bl (getK kds ns).isSome)
  | .int i, .dci kds => some (.bl (getK kds i).isSome)
  | .str x, .str y => if x.cps.size = 1 then some (.bl (decide (x.cps.getD 0 0 ∈ y.cps.toList))) else none
  | d, .lst ds => if okD 8 d && ds.all (okD 8) then some (.bl (ds.any fun z => eqN 8 z d)) else none
  | _, _ => none
abbrev rDIn : R2 := fun y x H Q => ∃ a o, x = .ref a ∧ DGet H a y o ∧ Q (.bl o.isSome) H
theorem or_din {X : Cx} (hu : X.A.units + 1 < cLine) : OpR X (compareOp .In) rDIn := by
  intro pins s σ H y x u v Q I ry rx h
  obtain ⟨a, o, rfl, g, q⟩ := h
  cases (show v = Value.ref a from rx)
  exact d_in hu I g ry fun s' I' => ⟨.bl _, H, I', rfl, q⟩
abbrev rInA (K : PySem.W.Frag) : R2 := fun x y H Q => (fun x y H Q => (fun x y H Q => rIn K false x y H Q ∨ rDIn x y H Q) x y H Q ∨
  (fun (x y : V) (H : Hp) (Q : VK) => ∃ (c : Nat) (z : Str), x = .str ⟨#[c]⟩ ∧ y = .str z ∧ Q (.bl (decide (c ∈ z.cps.toList))) H) x y H Q) x y H Q ∨ rInD K x y H Q
theorem all_flat : ∀ ns : List Int, (ns.map V.int).all flatV = true
  | [] => rfl
  | _ :: ns => all_flat ns
theorem inV_ints (i : Int) : ∀ ns : List Int, inV (.int i) (ns.map V.int) = ns.any fun j => j == i
  | [] => rfl
  | n :: ns => by
    have := inV_ints i ns
    unfold inV at this ⊢
    rw [List.map_cons, List.any_cons, List.any_cons, this]
    rfl
theorem py_list (s : SL G H) {x : V} {ds : List D} (hc : ds.all (okD 8) = true) (r : RepB Γ.K Γ.C G H x (.lst ds)) : Dp Γ.K H x (.list (ds.map (py 8))) ∧ SeqAt.shaped (.list (ds.map (py 8))) = true :=
  ⟨py_dpB (n := 9) s (d := .lst ds) hc r, py_shaped (n := 9) (d := .lst ds) (by omega) hc⟩
theorem any_py {ds : List D} (hd : okD 8 d = true) (hc : ds.all (okD 8) = true) : ((ds.map (py 8)).any fun z => PyData.eqv z (py 8 d)) = ds.any fun z => eqN 8 z d := by
  induction ds with
  | nil => rfl
  | cons x xs ih =>
    rw [List.all_cons, Bool.and_eq_true] at hc
    rw [List.map_cons, List.any_cons, List.any_cons, ih hc.2, py_eqv 8 x d hc.1 hd]
theorem str_one {x : Str} (h : x.cps.size = 1) : x = ⟨#[x.cps.getD 0 0]⟩ := by
  obtain ⟨c⟩ := x
  obtain ⟨l⟩ := c
  match l, h with
  | [a], _ => rfl
theorem o_in : Op2 Γ .e (rInA Γ.K) inD := by
  intro G H x y d e z s rx ry h Q q
  unfold inD at h
  split at h
  · rename_i i ds
    cases ei : asInts ds with
    | none => rw [ei] at h; cases h
    | some ns =>
      rw [ei] at h
      cases h
      obtain ⟨a, vs, rfl, h1, h2⟩ := ry.tup
      rw [asInts_eq ei] at h2
      have e2 := RepL.ints_eq ns h2
      subst e2
      refine .inl (.inl (.inl ⟨a, _, rfl, .inr (SqT.of (s.tup h1)), by rw [rx.int]; rfl, all_flat ns, ?_⟩))
      rw [rx.int]
      show Q (.bl (inV _ _)) H
      rw [inV_ints]
      exact q G H _ (Grow.refl s) (.bl _)
  · rename_i k kds
    cases ei : asInts k with
    | none => rw [ei] at h; cases h
    | some ns =>
      rw [ei] at h
      cases h
      obtain ⟨b, vs, rfl, h1, h2⟩ := rx.tup
      rw [asInts_eq ei] at h2
      have e2 := kk_tup h2
      subst e2
      obtain ⟨a, kvs, rfl, h3, h4, h5⟩ := ry.dct s
      refine .inl (.inl (.inr ⟨a, valV kvs (kk ns), rfl, .inr ⟨kvs, kk ns, b, h3, rfl, s.tup h1, rfl⟩, ?_⟩))
      rcases getK_val kk kk_inj ns h4 h5 with ⟨g1, g2⟩ | ⟨w, f, g1, g2, _⟩
      · rw [g2]; rw [g1] at q; exact q G H _ (Grow.refl s) (.bl _)
      · rw [g2]; rw [g1] at q; exact q G H _ (Grow.refl s) (.bl _)
  · rename_i i kds
    cases h
    obtain ⟨a, kvs, rfl, h3, h4, h5⟩ := ry.dci s
    rw [rx.int]
    refine .inl (.inl (.inr ⟨a, valV kvs (Sum.inl i), rfl, .inl ⟨kvs, Sum.inl i, h3, rfl, rfl⟩, ?_⟩))
    rcases getK_val (κ := Key) Sum.inl (fun _ _ z => Sum.inl.inj z) i h4 h5 with ⟨g1, g2⟩ | ⟨w, f, g1, g2, _⟩
    · rw [g2]; rw [g1] at q; exact q G H _ (Grow.refl s) (.bl _)
    · rw [g2]; rw [g1] at q; exact q G H _ (Grow.refl s) (.bl _)
  · split at h
    · rename_i a b hc
      cases h
      exact .inl (.inr ⟨_, b, rx.str.trans (congrArg V.str (str_one hc)), ry.str, q G H _ (Grow.refl s) (.bl _)⟩)
    · cases h
  · split at h
    · rename_i hc
      cases h
      rw [Bool.and_eq_true] at hc
      obtain ⟨h1, h2⟩ := py_list s hc.2 ry
      refine .inr ⟨py 8 d, _, py_dpB s hc.1 rx, h1, py_shaped (by omega) hc.1, h2, ?_⟩
      rw [any_py hc.1 hc.2]
      exact q G H _ (Grow.refl s) (.bl _)
    · cases h
  · cases h
theorem d_in {ea eb : Expr} {a b : Env → Option D} {pos : Pos} (ha : DV Γ N sc κ1 ea a) (hb : DV Γ N sc κ2 eb b) (hm : behindInMarks .In eb = false := by rfl) : DC Γ N sc (.Compare ea [.In] [eb] pos) (f2 inD a b) :=
  d_cmp (fun X g => g.K ▸ ((op_in_seq.or (or_din (hu_of g.room))).or op_in_sign).or (op_inD (by have := g.room.un; omega))) o_in ha hb hm
def ninD (d e : D) : Option D := match inD d e with
  | some (.bl b) => some (.bl (!b))
  | _ => none
abbrev rDNin : R2 := fun y x H Q => ∃ a o, x = .ref a ∧ DGet H a y o ∧ Q (.bl (!o.isSome)) H
theorem or_dnin {X : Cx} (hu : X.A.units + 1 < cLine) : OpR X (compareOp .NotIn) rDNin := by
  intro pins s σ H y x u v Q I ry rx h
  obtain ⟨a, o, rfl, g, q⟩ := h
  cases (show v = Value.ref a from rx)
  exact d_notIn hu I g ry fun s' I' => ⟨.bl _, H, I', rfl, q⟩
abbrev rNinA (K : PySem.W.Frag) : R2 := fun x y H Q => (fun x y H Q => (fun x y H Q => rIn K true x y H Q ∨ rDNin x y H Q) x y H Q ∨
  (fun (x y : V) (H : Hp) (Q : VK) => ∃ (c : Nat) (z : Str), x = .str ⟨#[c]⟩ ∧ y = .str z ∧ Q (.bl (!decide (c ∈ z.cps.toList))) H) x y H Q) x y H Q ∨ rNotInD K x y H Q
theorem o_nin : Op2 Γ .e (rNinA Γ.K) ninD := by
  intro G H x y d e z s rx ry h Q q
  unfold ninD at h
  split at h
  · rename_i b hb
    cases h
    unfold inD at hb
    split at hb
    · rename_i i ds
      cases ei : asInts ds with
      | none => rw [ei] at hb; cases hb
      | some ns =>
        rw [ei] at hb
        cases hb
        obtain ⟨a, vs, rfl, h1, h2⟩ := ry.tup
        rw [asInts_eq ei] at h2
        have e2 := RepL.ints_eq ns h2
        subst e2
        refine .inl (.inl (.inl ⟨a, _, rfl, .inr (SqT.of (s.tup h1)), by rw [rx.int]; rfl, all_flat ns, ?_⟩))
        rw [rx.int]
        show Q (.bl (!inV _ _)) H
        rw [inV_ints]
        exact q G H _ (Grow.refl s) (.bl _)
    · rename_i k kds
      cases ei : asInts k with
      | none => rw [ei] at hb; cases hb
      | some ns =>
        rw [ei] at hb
        cases hb
        obtain ⟨b, vs, rfl, h1, h2⟩ := rx.tup
        rw [asInts_eq ei] at h2
        have e2 := kk_tup h2
        subst e2
        obtain ⟨a, kvs, rfl, h3, h4, h5⟩ := ry.dct s
        refine .inl (.inl (.inr ⟨a, valV kvs (kk ns), rfl, .inr ⟨kvs, kk ns, b, h3, rfl, s.tup h1, rfl⟩, ?_⟩))
        rcases getK_val kk kk_inj ns h4 h5 with ⟨g1, g2⟩ | ⟨w, f, g1, g2, _⟩
        · rw [g2]; rw [g1] at q; exact q G H _ (Grow.refl s) (.bl _)
        · rw [g2]; rw [g1] at q; exact q G H _ (Grow.refl s) (.bl _)
    · rename_i i kds
      cases hb
      obtain ⟨a, kvs, rfl, h3, h4, h5⟩ := ry.dci s
      rw [rx.int]
      refine .inl (.inl (.inr ⟨a, valV kvs (Sum.inl i), rfl, .inl ⟨kvs, Sum.inl i, h3, rfl, rfl⟩, ?_⟩))
      rcases getK_val (κ := Key) Sum.inl (fun _ _ z => Sum.inl.inj z) i h4 h5 with ⟨g1, g2⟩ | ⟨w, f, g1, g2, _⟩
      · rw [g2]; rw [g1] at q; exact q G H _ (Grow.refl s) (.bl _)
      · rw [g2]; rw [g1] at q; exact q G H _ (Grow.refl s) (.bl _)
    · split at hb
      · rename_i a b hc
        cases hb
        exact .inl (.inr ⟨_, b, rx.str.trans (congrArg V.str (str_one hc)), ry.str, q G H _ (Grow.refl s) (.bl _)⟩)
      · cases hb
    · split at hb
      · rename_i hc
        cases hb
        rw [Bool.and_eq_true] at hc
        obtain ⟨h1, h2⟩ := py_list s hc.2 ry
        refine .inr ⟨py 8 d, _, py_dpB s hc.1 rx, h1, py_shaped (by omega) hc.1, h2, ?_⟩
        rw [any_py hc.1 hc.2]
        exact q G H _ (Grow.refl s) (.bl _)
      · cases hb
    · cases hb
  · cases h
theorem d_nin {ea eb : Expr} {a b : Env → Option D} {pos : Pos} (ha : DV Γ N sc κ1 ea a) (hb : DV Γ N sc κ2 eb b) (hm : behindInMarks .NotIn eb = false := by rfl) : DC Γ N sc (.Compare ea [.NotIn] [eb] pos) (f2 ninD a b) :=
  d_cmp (fun X g => g.K ▸ ((op_notIn_seq.or (or_dnin (hu_of g.room))).or op_notIn_sign).or (op_notInD (by have := g.room.un; omega))) o_nin ha hb hm
/-! ### chains -/
def fch (g g' : D → D → Option D) (a b c : Env → Option D) : Env → Option D := fun ρ => (a ρ).bind fun x => (b ρ).bind fun y => (g x y).bind fun z => match z with
  | .bl true => (c ρ).bind fun w => g' y w
  | .bl false => some (.bl false)
  | _ => none
theorem sem_chain {r r' : R2} {g g' : D → D → Option D} {ta tb tc : TE} {a b c : Env → Option D} (h : Op2 Γ .e r g) (h' : Op2 Γ .e r' g') (sa : SemV Γ κ1 ta a) (sb : SemV Γ κ2 tb b) (sc : SemV Γ κ3 tc c) : SemV Γ .e (tChain r r' ta tb tc) (fch g g' a b c) := fun H0 ρ σ G H Q z s E e q => by
  unfold fch at e
  cases ea : a ρ with
  | none => rw [ea] at e; cases e
  | some x =>
    rw [ea] at e
    cases eb : b ρ with
    | none => rw [eb] at e; cases e
    | some y =>
      rw [eb] at e
      cases eg : g x y with
      | none => simp only [Option.bind_some, eg] at e; cases e
      | some k =>
        simp only [Option.bind_some, eg] at e
        refine sa H0 ρ σ G H _ x s E ea fun G1 H1 v g1 o1 => ?_
        refine sb H0 ρ σ G1 H1 _ y g1.s (E.grow g1) eb fun G2 H2 w g2 o2 => ?_
        refine h G2 H2 v w x y k g2.s (o1.b.mono g2.g g2.h) o2.b eg _ fun G3 H3 u g3 o3 => ?_
        have g13 := (g1.trans g2).trans g3
        cases k with
        | bl k =>
          cases (show Rep Γ.K Γ.C G3 u (.bl k) from o3)
          cases k with
          | true =>
            refine ⟨true, rfl, ?_⟩
            rw [if_pos rfl]
            cases ec : c ρ with
            | none => rw [ec] at e; cases e
            | some w' =>
              rw [ec] at e
              refine sc H0 ρ σ G3 H3 _ w' g3.s (E.grow g13) ec fun G4 H4 w2 g4 o4 => ?_
              exact h' G4 H4 w w2 y w' z g4.s (o2.b.mono (g3.g.trans g4.g) (g3.h.trans g4.h)) o4.b e Q fun G5 H5 u5 g5 o5 => q G5 H5 u5 ((g13.trans g4).trans g5) o5
          | false =>
            cases e
            refine ⟨false, rfl, ?_⟩
            rw [if_neg Bool.false_ne_true]
            exact q G3 H3 _ g13 (.bl false)
        | _ => cases e
theorem d_chain {op op' : CmpOp} {r r' : R2} {g g' : D → D → Option D} {ea eb ec : Expr} {a b c : Env → Option D} {pos : Pos} (ho : ∀ X, Good Γ N sc X → OpR X (compareOp op) r) (ho' : ∀ X, Good Γ N sc X → OpR X (compareOp op') r') (h : Op2 Γ .e r g) (h' : Op2 Γ .e r' g')
    (ha : DV Γ N sc κ1 ea a) (hb : DV Γ N sc κ2 eb b) (hc : DV Γ N sc κ3 ec c) (hm : lastMarks [op, op'] [eb, ec] = false) : DC Γ N sc (.Compare ea [op, op'] [eb, ec] pos) (fch g g' a b c) := by
  obtain ⟨ta, pa, sa⟩ := ha.ex
  obtain ⟨tb, pb, sb⟩ := hb.ex
  obtain ⟨tc, pc, sc⟩ := hc.ex
  exact ⟨_, fun X gX => ⟨pe_chain (ho X gX) (ho' X gX) (pa X gX) (pb X gX) (pc X gX) hm, pt_chain (ho X gX) (ho' X gX) (pa X gX) (pb X gX) (pc X gX) hm⟩, sem_chain h h' sa sb sc⟩
theorem d_lele {ea eb ec : Expr} {a b c : Env → Option D} {pos : Pos} (ha : DV Γ N sc κ1 ea a) (hb : DV Γ N sc κ2 eb b) (hc : DV Γ N sc κ3 ec c) (hm : lastMarks [.LtE, .LtE] [eb, ec] = false := by with_unfolding_all rfl) : DC Γ N sc (.Compare ea [.LtE, .LtE] [eb, ec] pos) (fch leD leD a b c) :=
  d_chain (fun X g => op_le) (fun X g => op_le) o_le o_le ha hb hc hm
theorem d_lelt {ea eb ec : Expr} {a b c : Env → Option D} {pos : Pos} (ha : DV Γ N sc κ1 ea a) (hb : DV Γ N sc κ2 eb b) (hc : DV Γ N sc κ3 ec c) (hm : lastMarks [.LtE, .Lt] [eb, ec] = false := by with_unfolding_all rfl) : DC Γ N sc (.Compare ea [.LtE, .Lt] [eb, ec] pos) (fch leD ltD a b c) :=
  d_chain (fun X g => op_le) (fun X g => op_lt) o_le o_lt ha hb hc hm
theorem d_ltle {ea eb ec : Expr} {a b c : Env → Option D} {pos : Pos} (ha : DV Γ N sc κ1 ea a) (hb : DV Γ N sc κ2 eb b) (hc : DV Γ N sc κ3 ec c) (hm : lastMarks [.Lt, .LtE] [eb, ec] = false := by with_unfolding_all rfl) : DC Γ N sc (.Compare ea [.Lt, .LtE] [eb, ec] pos) (fch ltD leD a b c) :=
  d_chain (fun X g => op_lt) (fun X g => op_le) o_lt o_le ha hb hc hm
end
end Pv
set_option Elab.async false
set_option linter.all false
set_option maxRecDepth 100000
set_option maxHeartbeats 4000000
set_option autoImplicit false
namespace Pv
open PySem PySem.Spec PyProof.Rows L2
section
variable {Γ : Gam} {N : List Str} {sc : Scope} {κ κ1 κ2 κ3 : Kd} {G H G' H' G1 H1 : Hp} {v : V} {d : D}
/-! ### truth -/
def truD : D → Option Bool
  | .non => some false
  | .bl b => some b
  | .int i => some (i != 0)
  | .str s => if s.length < big then some ((s.length : Int) != 0) else none
  | .tup xs => some (!xs.isEmpty)
  | .lst xs => some (!xs.isEmpty)
  | .scr ns => some (!ns.isEmpty)
  | _ => none
theorem RepL.empty {K : PySem.W.Frag} {C : Addr} {G : Hp} {vs : List V} {ds : List D} (h : RepL K C G vs ds) : vs.isEmpty = ds.isEmpty := by cases h <;> rfl
theorem tru_of {k : Bool} (s : SL G H) (r : RepB Γ.K Γ.C G H v d) (h : truD d = some k) : TruV Γ.K v H k := by
  cases d with
  | non => cases h; rw [r.non]; rfl
  | bl b => cases h; rw [r.bl]; rfl
  | int i => cases h; rw [r.int]; rfl
  | str z =>
    have h : (if z.length < big then some ((z.length : Int) != 0) else none) = some k := h
    split at h
    · rename_i hl; cases h; rw [r.str]; exact ⟨Nat.le_of_lt (big_lt hl), rfl⟩
    · cases h
  | tup xs =>
    cases h
    obtain ⟨a, vs, rfl, h1, h2⟩ := r.tup
    exact .inr (.inl ⟨vs, SqT.of (s.tup h1), by rw [h2.empty]⟩)
  | lst xs =>
    cases h
    obtain ⟨a, vs, rfl, h1, h2⟩ := r.lst s
    exact .inl ⟨vs, SqL.of h1, by rw [h2.empty]⟩
  | scr ns =>
    cases h
    obtain ⟨a, rfl, h1⟩ := r.scr s
    exact .inl ⟨_, h1, by cases ns <;> rfl⟩
  | _ => cases h
def tv (a : Env → Option D) : Env → Option Bool := fun ρ => (a ρ).bind truD
def tand (a b : Env → Option Bool) : Env → Option Bool := fun ρ => (a ρ).bind fun c => if c then b ρ else some false
def tor (a b : Env → Option Bool) : Env → Option Bool := fun ρ => (a ρ).bind fun c => if c then some true else b ρ
def tnot (a : Env → Option Bool) : Env → Option Bool := fun ρ => (a ρ).bind fun c => some (!c)
def tb (a : Env → Option D) : Env → Option Bool := fun ρ => (a ρ).bind fun x => match x with
  | .bl c => some c
  | _ => none
def vand (a b : Env → Option D) : Env → Option D := fun ρ => (a ρ).bind fun x => (truD x).bind fun c => if c then b ρ else some x
def vor (a b : Env → Option D) : Env → Option D := fun ρ => (a ρ).bind fun x => (truD x).bind fun c => if c then some x else b ρ
def notD (d : D) : Option D := (truD d).bind fun c => some (.bl (!c))
theorem t_v {e : Expr} {a : Env → Option D} (ha : DV Γ N sc κ e a) (he : ∀ (env : PySem.Env) (whole : Sem Value), isTrue e env whole = (do let v ← whole; standAt e.pos; holding [v] (truthy v)) := by intro _ _; rfl) : DT Γ N sc e (tv a) := by
  obtain ⟨t, p, s1⟩ := ha.ex
  refine ⟨_, fun X g => g.K ▸ pt_truth (p X g) (he _), fun H0 ρ σ G H Q c s E e q => ?_⟩
  unfold tv at e
  cases ea : a ρ with
  | none => rw [ea] at e; cases e
  | some x =>
    rw [ea] at e
    exact s1 H0 ρ σ G H _ x s E ea fun G1 H1 v g1 o1 => ⟨c, tru_of g1.s o1.b e, q G1 H1 g1⟩
theorem t_c {e : Expr} {a : Env → Option D} (ha : DC Γ N sc e a) : DT Γ N sc e (tb a) := by
  obtain ⟨t, p, s1⟩ := ha.ex
  refine ⟨_, fun X g => (p X g).2, fun H0 ρ σ G H Q c s E e q => ?_⟩
  unfold tb at e
  cases ea : a ρ with
  | none => rw [ea] at e; cases e
  | some x =>
    rw [ea] at e
    cases x with
    | bl b =>
      cases e
      refine s1 H0 ρ σ G H _ _ s E ea fun G1 H1 v g1 o1 => ?_
      cases (show Rep Γ.K Γ.C G1 v (.bl _) from o1)
      exact ⟨_, rfl, q G1 H1 g1⟩
    | _ => cases e
theorem t_not {e : Expr} {a : Env → Option Bool} {pos : Pos} (ha : DT Γ N sc e a) : DT Γ N sc (.UnaryOp .Not e pos) (tnot a) := by
  obtain ⟨t, p, s1⟩ := ha.ex
  refine ⟨_, fun X g => pt_not (p X g), fun H0 ρ σ G H Q c s E e q => ?_⟩
  unfold tnot at e
  cases ea : a ρ with
  | none => rw [ea] at e; cases e
  | some x => rw [ea] at e; cases e; exact s1 H0 ρ σ G H _ x s E ea fun G1 H1 g1 => q G1 H1 g1
theorem w_and1 {e : Expr} {a : Env → Option Bool} {pos : Pos} (ha : DT Γ N sc e a) : DW Γ N sc (.BoolOp .And [e] pos) a := let ⟨t, p, s⟩ := ha.ex; ⟨t, fun X g => pw_and1 (p X g), s⟩
theorem w_or1 {e : Expr} {a : Env → Option Bool} {pos : Pos} (ha : DT Γ N sc e a) : DW Γ N sc (.BoolOp .Or [e] pos) a := let ⟨t, p, s⟩ := ha.ex; ⟨t, fun X g => pw_or1 (p X g), s⟩
theorem w_and {e e2 : Expr} {rest : List Expr} {a b : Env → Option Bool} {pos : Pos} (ha : DT Γ N sc e a) (hb : DW Γ N sc (.BoolOp .And (e2 :: rest) pos) b) : DW Γ N sc (.BoolOp .And (e :: e2 :: rest) pos) (tand a b) := by
  obtain ⟨t, p, s1⟩ := ha.ex
  obtain ⟨t2, p2, s2⟩ := hb.ex
  refine ⟨_, fun X g => pw_and (p X g) (p2 X g), fun H0 ρ σ G H Q c s E e q => ?_⟩
  unfold tand at e
  cases ea : a ρ with
  | none => rw [ea] at e; cases e
  | some x =>
    rw [ea] at e
    refine s1 H0 ρ σ G H _ x s E ea fun G1 H1 g1 => ?_
    cases x with
    | true => rw [if_pos rfl]; exact s2 H0 ρ σ G1 H1 Q c g1.s (E.grow g1) e fun G2 H2 g2 => q G2 H2 (g1.trans g2)
    | false => rw [if_neg Bool.false_ne_true]; cases e; exact q G1 H1 g1
theorem w_or {e e2 : Expr} {rest : List Expr} {a b : Env → Option Bool} {pos : Pos} (ha : DT Γ N sc e a) (hb : DW Γ N sc (.BoolOp .Or (e2 :: rest) pos) b) : DW Γ N sc (.BoolOp .Or (e :: e2 :: rest) pos) (tor a b) := by
  obtain ⟨t, p, s1⟩ := ha.ex
  obtain ⟨t2, p2, s2⟩ := hb.ex
  refine ⟨_, fun X g => pw_or (p X g) (p2 X g), fun H0 ρ σ G H Q c s E e q => ?_⟩
  unfold tor at e
  cases ea : a ρ with
  | none => rw [ea] at e; cases e
  | some x =>
    rw [ea] at e
    refine s1 H0 ρ σ G H _ x s E ea fun G1 H1 g1 => ?_
    cases x with
    | false => rw [if_neg Bool.false_ne_true]; exact s2 H0 ρ σ G1 H1 Q c g1.s (E.grow g1) e fun G2 H2 g2 => q G2 H2 (g1.trans g2)
    | true => rw [if_pos rfl]; cases e; exact q G1 H1 g1
/-! ### and, or, not as values -/
theorem d_one {e : Expr} {op} {a : Env → Option D} {pos : Pos} (ha : DV Γ N sc κ e a) : DV Γ N sc κ (.BoolOp op [e] pos) a := let ⟨t, p, s⟩ := ha.ex; ⟨t, fun X g => pe_one (p X g), s⟩
theorem d_and {e e2 : Expr} {rest : List Expr} {a b : Env → Option D} {pos : Pos} (ha : DV Γ N sc .e e a) (hb : DV Γ N sc .e (.BoolOp .And (e2 :: rest) pos) b) : DV Γ N sc .e (.BoolOp .And (e :: e2 :: rest) pos) (vand a b) := by
  obtain ⟨t, p, s1⟩ := ha.ex
  obtain ⟨t2, p2, s2⟩ := hb.ex
  refine ⟨_, fun X g => g.K ▸ pe_andT (p X g) (p2 X g), fun H0 ρ σ G H Q z s E e q => ?_⟩
  unfold vand at e
  cases ea : a ρ with
  | none => rw [ea] at e; cases e
  | some x =>
    rw [ea] at e
    cases et : truD x with
    | none => simp only [Option.bind_some, et] at e; cases e
    | some k =>
      simp only [Option.bind_some, et] at e
      refine s1 H0 ρ σ G H _ x s E ea fun G1 H1 v g1 o1 => ⟨k, tru_of g1.s o1.b et, ?_⟩
      cases k with
      | true => rw [if_pos rfl]; exact s2 H0 ρ σ G1 H1 Q z g1.s (E.grow g1) e fun G2 H2 w g2 o2 => q G2 H2 w (g1.trans g2) o2
      | false => rw [if_neg Bool.false_ne_true]; cases e; exact q G1 H1 v g1 o1
theorem d_or {e e2 : Expr} {rest : List Expr} {a b : Env → Option D} {pos : Pos} (ha : DV Γ N sc .e e a) (hb : DV Γ N sc .e (.BoolOp .Or (e2 :: rest) pos) b) : DV Γ N sc .e (.BoolOp .Or (e :: e2 :: rest) pos) (vor a b) := by
  obtain ⟨t, p, s1⟩ := ha.ex
  obtain ⟨t2, p2, s2⟩ := hb.ex
  refine ⟨_, fun X g => g.K ▸ pe_orT (p X g) (p2 X g), fun H0 ρ σ G H Q z s E e q => ?_⟩
  unfold vor at e
  cases ea : a ρ with
  | none => rw [ea] at e; cases e
  | some x =>
    rw [ea] at e
    cases et : truD x with
    | none => simp only [Option.bind_some, et] at e; cases e
    | some k =>
      simp only [Option.bind_some, et] at e
      refine s1 H0 ρ σ G H _ x s E ea fun G1 H1 v g1 o1 => ⟨k, tru_of g1.s o1.b et, ?_⟩
      cases k with
      | false => rw [if_neg Bool.false_ne_true]; exact s2 H0 ρ σ G1 H1 Q z g1.s (E.grow g1) e fun G2 H2 w g2 o2 => q G2 H2 w (g1.trans g2) o2
      | true => rw [if_pos rfl]; cases e; exact q G1 H1 v g1 o1
theorem d_notv {e : Expr} {a : Env → Option D} {pos : Pos} (ha : DV Γ N sc κ e a) : DV Γ N sc .e (.UnaryOp .Not e pos) (f1 notD a) := by
  obtain ⟨t, p, s1⟩ := ha.ex
  refine ⟨_, fun X g => g.K ▸ pe_notT (p X g), fun H0 ρ σ G H Q z s E e q => ?_⟩
  unfold f1 at e
  cases ea : a ρ with
  | none => rw [ea] at e; cases e
  | some x =>
    rw [ea] at e
    have e : notD x = some z := e
    unfold notD at e
    cases et : truD x with
    | none => rw [et] at e; cases e
    | some k =>
      rw [et] at e
      cases e
      exact s1 H0 ρ σ G H _ x s E ea fun G1 H1 v g1 o1 => ⟨k, tru_of g1.s o1.b et, q G1 H1 _ g1 (.bl _)⟩
def negD : D → Option D
  | .int i => some (.int (-i))
  | _ => none
theorem d_neg {e : Expr} {a : Env → Option D} {pos : Pos} (ha : DV Γ N sc κ e a) : DV Γ N sc .e (.UnaryOp .USub e pos) (f1 negD a) := by
  obtain ⟨t, p, s1⟩ := ha.ex
  refine ⟨_, fun X g => pe_un un_neg (p X g), fun H0 ρ σ G H Q z s E e q => ?_⟩
  unfold f1 at e
  cases ea : a ρ with
  | none => rw [ea] at e; cases e
  | some x =>
    rw [ea] at e
    cases x <;> cases e
    exact s1 H0 ρ σ G H _ _ s E ea fun G1 H1 v g1 o1 => ⟨_, o1.b.int, q G1 H1 _ g1 (.int _)⟩
/-! ### subscripts -/
def ixD : D → D → Option D
  | .lst ds, .int i => atI ds i
  | .tup ds, .int i => atI ds i
  | .scr ns, .int i => (atI ns i).map D.int
  | .str z, .int i => if z.length < big then (atI z.cps.toList i).map fun c => .str ⟨#[c]⟩ else none
  | .dct kds, .tup k => (asInts k).bind fun ns => getK kds ns
  | .dci kds, .int i => getK kds i
  | _, _ => none
theorem atI_rep {K : PySem.W.Frag} {C : Addr} {G : Hp} {vs : List V} {ds : List D} {i : Int} {z : D} (r : RepL K C G vs ds) (h : atI ds i = some z) : ∃ v, atI vs i = some v ∧ Rep K C G v z := by
  unfold atI at h ⊢
  rw [r.length]
  cases e : ixN ds.length i with
  | none => rw [e] at h; cases h
  | some j =>
    rw [e] at h
    exact r.get h
theorem atI_map {α β : Type} (f : α → β) (xs : List α) (i : Int) : atI (xs.map f) i = (atI xs i).map f := by
  unfold atI
  rw [List.length_map]
  cases ixN xs.length i with
  | none => rfl
  | some j => simp
abbrev rDGt : R2 := fun x y H Q => ∃ a v, x = .ref a ∧ DGet H a y (some v) ∧ Q v H
theorem ix_dict {X : Cx} (hu : X.A.units + 1 < cLine) : IxR X rDGt := by
  intro value slice pins s σ H x y v u Q I rx ry h hs
  obtain ⟨a, w, rfl, g, q⟩ := h
  cases (show v = Value.ref a from rx)
  refine tail_any (dict_typeIs I g) PySem.F.slot_dict_getitem.lookup ?_ hs
  exact d_getItem hu I g ry fun w' s' I' r' => ⟨w, H, I', r', q⟩
abbrev rIxA (K : PySem.W.Frag) : R2 := fun x y H Q => rIx K x y H Q ∨ rDGt x y H Q
theorem o_ix : Op2 Γ .e (rIxA Γ.K) ixD := by
  intro G H x y d e z s rx ry h Q q
  unfold ixD at h
  split at h
  · rename_i ds i
    obtain ⟨a, vs, rfl, h1, h2⟩ := rx.lst s
    obtain ⟨v, h3, h4⟩ := atI_rep h2 h
    exact .inl (.inl ⟨a, vs, i, v, rfl, ry.int, SqL.of h1, h3, q G H v (Grow.refl s) h4⟩)
  · rename_i ds i
    obtain ⟨a, vs, rfl, h1, h2⟩ := rx.tup
    obtain ⟨v, h3, h4⟩ := atI_rep h2 h
    exact .inl (.inr (.inl ⟨a, vs, i, v, rfl, ry.int, SqT.of (s.tup h1), h3, q G H v (Grow.refl s) h4⟩))
  · rename_i ns i
    obtain ⟨a, rfl, h1⟩ := rx.scr s
    cases e : atI ns i with
    | none => rw [e] at h; cases h
    | some n =>
      rw [e] at h
      cases h
      exact .inl (.inl ⟨a, _, i, .int n, rfl, ry.int, h1, by rw [atI_map, e]; rfl, q G H _ (Grow.refl s) (.int n)⟩)
  · rename_i w i
    split at h
    · rename_i hl
      cases e : atI w.cps.toList i with
      | none => rw [e] at h; cases h
      | some n =>
        rw [e] at h
        cases h
        exact .inl (.inr (.inr ⟨w, i, n, rx.str, ry.int, Nat.le_of_lt (big_lt hl), e, q G H _ (Grow.refl s) (.str _)⟩))
    · cases h
  · rename_i kds k
    cases ei : asInts k with
    | none => rw [ei] at h; cases h
    | some ns =>
      rw [ei] at h
      have h : getK kds ns = some z := h
      obtain ⟨b, vs, rfl, h1, h2⟩ := ry.tup
      rw [asInts_eq ei] at h2
      have e2 := kk_tup h2
      subst e2
      obtain ⟨a, kvs, rfl, h3, h4, h5⟩ := rx.dct s
      rcases getK_val kk kk_inj ns h4 h5 with ⟨g1, g2⟩ | ⟨w, f, g1, g2, g3⟩
      · rw [g1] at h; cases h
      · rw [g1] at h
        cases h
        exact .inr ⟨a, w, rfl, .inr ⟨kvs, kk ns, b, h3, rfl, s.tup h1, g2.symm⟩, q G H w (Grow.refl s) (g3.mono (SL.refl _))⟩
  · rename_i kds i
    obtain ⟨a, kvs, rfl, h3, h4, h5⟩ := rx.dci s
    rcases getK_val (κ := Key) Sum.inl (fun _ _ z => Sum.inl.inj z) i h4 h5 with ⟨g1, g2⟩ | ⟨w, f, g1, g2, g3⟩
    · rw [g1] at h; cases h
    · rw [g1] at h
      cases h
      refine .inr ⟨a, w, rfl, .inl ⟨kvs, Sum.inl i, h3, ?_, g2.symm⟩, q G H w (Grow.refl s) g3⟩
      rw [ry.int]; rfl
  · cases h
theorem d_ix {ea eb : Expr} {a b : Env → Option D} {pos : Pos} (ha : DV Γ N sc κ1 ea a) (hb : DV Γ N sc κ2 eb b) (hs : PlainIx eb := by exact fun _ _ => rfl) : DV Γ N sc .e (.Subscript ea eb pos) (f2 ixD a b) := by
  obtain ⟨ta, pa, sa⟩ := ha.ex
  obtain ⟨tb, pb, sb⟩ := hb.ex
  exact ⟨_, fun X gX => gX.K ▸ pe_ix (ix_seq.or (ix_dict (hu_of gX.room))) (pa X gX) (pb X gX) hs, sem_op o_ix sa sb⟩
/-! ### slices -/
def cutL {α : Type} (xs : List α) (lo hi : Option Int) : List α := (xs.drop (HT.sIx xs.length 0 lo)).take (HT.sIx xs.length xs.length hi - HT.sIx xs.length 0 lo)
theorem cutL_rep {K : PySem.W.Frag} {C : Addr} {G : Hp} {vs : List V} {ds : List D} {lo hi : Option Int} (r : RepL K C G vs ds) : RepL K C G (cutV vs lo hi) (cutL ds lo hi) := by
  unfold cutV cutL
  rw [r.length]
  exact (r.drop _).take _
theorem cutL_map {α β : Type} (f : α → β) (xs : List α) (lo hi : Option Int) : cutL (xs.map f) lo hi = (cutL xs lo hi).map f := by
  unfold cutL
  rw [List.length_map, List.map_take, List.map_drop]
def SemO (Γ : Gam) (t : TO) (F : Env → Option (Option Int)) : Prop := ∀ (H0 : Hp) (ρ : Env) (σ : L2.St) (G H : Hp) (Q : Option Int → Hp → Prop) (o : Option Int), SL G H → EnvOk Γ H0 G H ρ σ → F ρ = some o →
  (∀ (G' H' : Hp), Grow G H G' H' → Q o H') → t σ H Q
structure DO (Γ : Gam) (N : List Str) (sc : Scope) (e : Option Expr) (F : Env → Option (Option Int)) : Prop where
  ex : ∃ t, (∀ X, Good Γ N sc X → PO X e t) ∧ SemO Γ t F
def onone : Env → Option (Option Int) := fun _ => some none
def osome (a : Env → Option D) : Env → Option (Option Int) := fun ρ => (a ρ).bind fun x => match x with
  | .int i => some (some i)
  | _ => none
theorem o_none : DO Γ N sc none onone := ⟨tNoPart, fun X _ => po_none, fun H0 ρ σ G H Q o s E e q => by cases e; exact q G H (Grow.refl s)⟩
theorem o_some {e : Expr} {a : Env → Option D} (ha : DV Γ N sc κ e a) : DO Γ N sc (some e) (osome a) := by
  obtain ⟨t, p, s1⟩ := ha.ex
  refine ⟨_, fun X g => po_some (p X g), fun H0 ρ σ G H Q o s E e q => ?_⟩
  unfold osome at e
  cases ea : a ρ with
  | none => rw [ea] at e; cases e
  | some x =>
    rw [ea] at e
    cases x <;> cases e
    exact s1 H0 ρ σ G H _ _ s E ea fun G1 H1 v g1 o1 => ⟨_, o1.b.int, q G1 H1 g1⟩
def slD : D → Option Int → Option Int → Option D
  | .lst ds, lo, hi => some (.lst (cutL ds lo hi))
  | .scr ns, lo, hi => some (.lst ((cutL ns lo hi).map D.int))
  | .tup ds, lo, hi => some (.tup (cutL ds lo hi))
  | .str z, lo, hi => if z.length < big then some (.str (cutS z lo hi)) else none
  | _, _, _ => none
abbrev rSlAll (K : PySem.W.Frag) : V → Option Int → Option Int → Hp → VK → Prop := fun x lo hi H Q => (fun x lo hi H Q => rSlL K x lo hi H Q ∨ rSlA K x lo hi H Q) x lo hi H Q ∨ rSlS x lo hi H Q
theorem sl_ok {x : V} {z : D} {lo hi : Option Int} (s : SL G H) (rx : RepB Γ.K Γ.C G H x d) (h : slD d lo hi = some z) (Q : VK) (q : ∀ (G' H' : Hp) (u : V), Grow G H G' H' → Rep Γ.K Γ.C G' u z → Q u H') : rSlAll Γ.K x lo hi H Q := by
  cases d with
  | lst ds =>
    cases h
    obtain ⟨a, vs, rfl, h1, h2⟩ := rx.lst s
    refine .inl (.inl ⟨a, vs, rfl, SqL.of h1, fun p hp => ?_⟩)
    exact q _ _ _ (Grow.new s hp) (.lst upd_same ((cutL_rep h2).mono (SL.new (s.free hp))))
  | scr ns =>
    cases h
    obtain ⟨a, rfl, h1⟩ := rx.scr s
    refine .inl (.inl ⟨a, _, rfl, h1, fun p hp => ?_⟩)
    refine q _ _ _ (Grow.new s hp) (.lst upd_same ?_)
    rw [show cutV (ns.map V.int) lo hi = (cutL ns lo hi).map V.int from cutL_map V.int ns lo hi]
    exact RepL.ints _
  | tup ds =>
    cases h
    obtain ⟨a, vs, rfl, h1, h2⟩ := rx.tup
    refine .inl (.inr ⟨a, vs, rfl, SqT.of (s.tup h1), fun hw => ?_, fun _ p hp => ?_⟩)
    · have e : cutL ds lo hi = ds := by
        unfold cutL
        rw [← h2.length, hw.1, hw.2, List.drop_zero, Nat.sub_zero, h2.length, List.take_length]
      rw [e] at q
      exact q G H _ (Grow.refl s) (.tup h1 h2)
    · exact q _ _ _ (Grow.new s hp) (.tup upd_same ((cutL_rep h2).mono (SL.new (s.free hp))))
  | str w =>
    have h : (if w.length < big then some (D.str (cutS w lo hi)) else none) = some z := h
    split at h
    · rename_i hl
      cases h
      exact .inr ⟨w, rx.str, Nat.le_of_lt (big_lt hl), q G H _ (Grow.refl s) (.str _)⟩
    · cases h
  | _ => cases h
def fsl (a : Env → Option D) (l h : Env → Option (Option Int)) : Env → Option D := fun ρ => (a ρ).bind fun x => (l ρ).bind fun lo => (h ρ).bind fun hi => slD x lo hi
theorem d_sl {e : Expr} {lo hi : Option Expr} {a : Env → Option D} {l h : Env → Option (Option Int)} {p2 pos : Pos} (ha : DV Γ N sc κ e a) (hl : DO Γ N sc lo l) (hh : DO Γ N sc hi h) : DV Γ N sc .e (.Subscript e (.Slice lo hi none p2) pos) (fsl a l h) := by
  obtain ⟨t, p, s1⟩ := ha.ex
  obtain ⟨tl, pl, s2⟩ := hl.ex
  obtain ⟨th, ph, s3⟩ := hh.ex
  refine ⟨_, fun X g => g.K ▸ pe_slice ((sl_list.or sl_tupA).or sl_str) (p X g) (pl X g) (ph X g), fun H0 ρ σ G H Q z s E e q => ?_⟩
  unfold fsl at e
  cases ea : a ρ with
  | none => rw [ea] at e; cases e
  | some x =>
    cases el : l ρ with
    | none => simp only [ea, el, Option.bind_some] at e; cases e
    | some l' =>
      cases eh : h ρ with
      | none => simp only [ea, el, eh, Option.bind_some] at e; cases e
      | some h' =>
        simp only [ea, el, eh, Option.bind_some] at e
        refine s1 H0 ρ σ G H _ x s E ea fun G1 H1 v g1 o1 => ?_
        refine s2 H0 ρ σ G1 H1 _ l' g1.s (E.grow g1) el fun G2 H2 g2 => ?_
        refine s3 H0 ρ σ G2 H2 _ h' g2.s (E.grow (g1.trans g2)) eh fun G3 H3 g3 => ?_
        exact sl_ok g3.s (o1.b.mono (g2.g.trans g3.g) (g2.h.trans g3.h)) e Q fun G4 H4 u g4 o4 => q G4 H4 u (((g1.trans g2).trans g3).trans g4) o4
end
end Pv
set_option Elab.async false
set_option linter.all false
set_option maxRecDepth 100000
set_option maxHeartbeats 4000000
set_option autoImplicit false
namespace Pv
open PySem PySem.Spec PyProof.Rows L2
section
variable {Γ : Gam} {N : List Str} {sc : Scope} {κ κ1 κ2 κ3 : Kd} {G H G' H' G1 H1 : Hp} {v : V} {d : D}
/-! ### built-in functions -/
abbrev RC := List V → Hp → VK → Prop
def Op1 (Γ : Gam) (κ : Kd) (r : RC) (g : D → Option D) : Prop := ∀ (G H : Hp) (x : V) (d z : D), SL G H → RepB Γ.K Γ.C G H x d → g d = some z →
  ∀ Q : VK, (∀ (G' H' : Hp) (u : V), Grow G H G' H' → Out Γ κ G H G' H' u z → Q u H') → r [x] H Q
def Op1b (Γ : Gam) (κ : Kd) (r : RC) (g : D → D → Option D) : Prop := ∀ (G H : Hp) (x y : V) (d e z : D), SL G H → RepB Γ.K Γ.C G H x d → RepB Γ.K Γ.C G H y e → g d e = some z →
  ∀ Q : VK, (∀ (G' H' : Hp) (u : V), Grow G H G' H' → Out Γ κ G H G' H' u z → Q u H') → r [x, y] H Q
theorem sem_c1 {r : RC} {g : D → Option D} {ta : TE} {a : Env → Option D} (h : Op1 Γ κ r g) (sa : SemV Γ κ1 ta a) : SemV Γ κ (tCB r (tCons ta tNil)) (f1 g a) := fun H0 ρ σ G H Q z s E e q => by
  unfold f1 at e
  cases ea : a ρ with
  | none => rw [ea] at e; cases e
  | some x =>
    rw [ea] at e
    refine sa H0 ρ σ G H _ x s E ea fun G1 H1 v g1 o1 => ?_
    exact h G1 H1 v x z g1.s o1.b e Q fun G3 H3 u g3 o3 => q G3 H3 u (g1.trans g3) (o3.pre g1)
theorem sem_c2 {r : RC} {g : D → D → Option D} {ta tb : TE} {a b : Env → Option D} (h : Op1b Γ κ r g) (sa : SemV Γ κ1 ta a) (sb : SemV Γ κ2 tb b) : SemV Γ κ (tCB r (tCons ta (tCons tb tNil))) (f2 g a b) := fun H0 ρ σ G H Q z s E e q => by
  unfold f2 at e
  cases ea : a ρ with
  | none => rw [ea] at e; cases e
  | some x =>
    rw [ea] at e
    cases eb : b ρ with
    | none => rw [eb] at e; cases e
    | some y =>
      rw [eb] at e
      refine sa H0 ρ σ G H _ x s E ea fun G1 H1 v g1 o1 => ?_
      refine sb H0 ρ σ G1 H1 _ y g1.s (E.grow g1) eb fun G2 H2 w g2 o2 => ?_
      exact h G2 H2 v w x y z g2.s (o1.b.mono g2.g g2.h) o2.b e Q fun G3 H3 u g3 o3 => q G3 H3 u ((g1.trans g2).trans g3) (o3.pre (g1.trans g2))
/-- an argument list that begins with a plain expression -/
abbrev Pl1 (e : Expr) (es : List Expr) : Prop := ∀ env : PySem.Env, starEach (e :: es) env = (false, eval e env) :: starEach es env
theorem d_b1 {x : Str} {id : String} {r : RC} {g : D → Option D} {ea : Expr} {a : Env → Option D} {p pos : Pos} (hc : ∀ X, Good Γ N sc X → CallR X (.builtin id) r) (hv : bootBuiltins x = some (.builtin id)) (hn : x ≠ "__name__") (hdb : (x == ("__debug__" : Str)) = false)
    (h : Op1 Γ κ r g) (hg : glB sc x = true) (hm : Γ.mg x = none) (ha : DV Γ N sc κ1 ea a) (hs : Pl1 ea []) : DV Γ N sc κ (.Call (.Name x p) [ea] [] pos) (f1 g a) := by
  obtain ⟨ta, pa, sa⟩ := ha.ex
  exact ⟨_, fun X gX => pe_callB (hc X gX) (gl_of gX hg) (by rw [gX.mg]; exact hm) hv (pa_cons (pa X gX) pa_nil (hs _)) hn hdb (hs _) rfl, sem_c1 h sa⟩
theorem d_t1 {x : Str} {id : String} {r : RC} {g : D → Option D} {ea : Expr} {a : Env → Option D} {p pos : Pos} (hc : ∀ X, Good Γ N sc X → CallR X (.type id) r) (hv : bootBuiltins x = some (.type id)) (hn : x ≠ "__name__") (hdb : (x == ("__debug__" : Str)) = false)
    (h : Op1 Γ κ r g) (hg : glB sc x = true) (hm : Γ.mg x = none) (ha : DV Γ N sc κ1 ea a) (hs : Pl1 ea []) : DV Γ N sc κ (.Call (.Name x p) [ea] [] pos) (f1 g a) := by
  obtain ⟨ta, pa, sa⟩ := ha.ex
  exact ⟨_, fun X gX => pe_callTy (hc X gX) (gl_of gX hg) (by rw [gX.mg]; exact hm) hv (pa_cons (pa X gX) pa_nil (hs _)) hn hdb (hs _) rfl, sem_c1 h sa⟩
theorem d_b2 {x : Str} {id : String} {r : RC} {g : D → D → Option D} {ea eb : Expr} {a b : Env → Option D} {p pos : Pos} (hc : ∀ X, Good Γ N sc X → CallR X (.builtin id) r) (hv : bootBuiltins x = some (.builtin id)) (hn : x ≠ "__name__") (hdb : (x == ("__debug__" : Str)) = false)
    (h : Op1b Γ κ r g) (hg : glB sc x = true) (hm : Γ.mg x = none) (ha : DV Γ N sc κ1 ea a) (hb : DV Γ N sc κ2 eb b) (hs : Pl1 ea [eb]) (hs2 : Pl1 eb []) : DV Γ N sc κ (.Call (.Name x p) [ea, eb] [] pos) (f2 g a b) := by
  obtain ⟨ta, pa, sa⟩ := ha.ex
  obtain ⟨tb, pb, sb⟩ := hb.ex
  refine ⟨_, fun X gX => pe_callB (hc X gX) (gl_of gX hg) (by rw [gX.mg]; exact hm) hv (pa_cons (pa X gX) (pa_cons (pb X gX) pa_nil (hs2 _)) (hs _)) hn hdb (hs _) ?_, sem_c2 h sa sb⟩
  rw [hs2]; rfl
def lenD : D → Option D
  | .str z => if z.length < big then some (.int z.length) else none
  | .tup xs => some (.int xs.length)
  | .lst xs => some (.int xs.length)
  | .scr ns => some (.int ns.length)
  | _ => none
theorem o_len : Op1 Γ .e (fun xs H Q => ∃ x n, xs = [x] ∧ LenV Γ.K x H n ∧ Q (.int n) H) lenD := by
  intro G H x d z s rx h Q q
  cases d with
  | str w =>
    have h : (if w.length < big then some (D.int w.length) else none) = some z := h
    split at h
    · rename_i hl
      cases h
      exact ⟨x, w.length, rfl, by rw [rx.str]; exact ⟨Nat.le_of_lt (big_lt hl), rfl⟩, q G H _ (Grow.refl s) (.int _)⟩
    · cases h
  | tup ds =>
    cases h
    obtain ⟨a, vs, rfl, h1, h2⟩ := rx.tup
    exact ⟨_, ds.length, rfl, .inr ⟨vs, SqT.of (s.tup h1), h2.length.symm⟩, q G H _ (Grow.refl s) (.int _)⟩
  | lst ds =>
    cases h
    obtain ⟨a, vs, rfl, h1, h2⟩ := rx.lst s
    exact ⟨_, ds.length, rfl, .inl ⟨vs, SqL.of h1, h2.length.symm⟩, q G H _ (Grow.refl s) (.int _)⟩
  | scr ns =>
    cases h
    obtain ⟨a, rfl, h1⟩ := rx.scr s
    exact ⟨_, ns.length, rfl, .inl ⟨_, h1, by rw [List.length_map]⟩, q G H _ (Grow.refl s) (.int _)⟩
  | _ => cases h
theorem d_len {ea : Expr} {a : Env → Option D} {p pos : Pos} (hg : glB sc "len" = true) (hm : Γ.mg "len" = none) (ha : DV Γ N sc κ1 ea a) (hs : Pl1 ea [] := by exact fun _ => rfl) : DV Γ N sc .e (.Call (.Name "len" p) [ea] [] pos) (f1 lenD a) :=
  d_b1 (fun X g => g.K ▸ call_len) PySem.boot_len (by decide) (by decide) o_len hg hm ha hs
def absD : D → Option D
  | .int i => some (.int (if i < 0 then -i else i))
  | _ => none
theorem d_abs {ea : Expr} {a : Env → Option D} {p pos : Pos} (hg : glB sc "abs" = true) (hm : Γ.mg "abs" = none) (ha : DV Γ N sc κ1 ea a) (hs : Pl1 ea [] := by exact fun _ => rfl) : DV Γ N sc .e (.Call (.Name "abs" p) [ea] [] pos) (f1 absD a) :=
  d_b1 (fun X g => call_abs) (by decide +kernel) (by decide) (by decide) (fun G H x d z s rx h Q q => by
    cases d <;> cases h
    exact ⟨_, by rw [rx.int], q G H _ (Grow.refl s) (.int _)⟩) hg hm ha hs
def max2D : D → D → Option D
  | .int i, .int j => some (.int (if j > i then j else i))
  | _, _ => none
def min2D : D → D → Option D
  | .int i, .int j => some (.int (if j < i then j else i))
  | _, _ => none
theorem d_max2 {ea eb : Expr} {a b : Env → Option D} {p pos : Pos} (hg : glB sc "max" = true) (hm : Γ.mg "max" = none) (ha : DV Γ N sc κ1 ea a) (hb : DV Γ N sc κ2 eb b) (hs : Pl1 ea [eb] := by exact fun _ => rfl) (hs2 : Pl1 eb [] := by exact fun _ => rfl) : DV Γ N sc .e (.Call (.Name "max" p) [ea, eb] [] pos) (f2 max2D a b) :=
  d_b2 (fun X g => call_max2 g.calm) (by decide +kernel) (by decide) (by decide) (fun G H x y d e z s rx ry h Q q => by
    cases d <;> cases e <;> cases h
    exact ⟨_, _, by rw [rx.int, ry.int], q G H _ (Grow.refl s) (.int _)⟩) hg hm ha hb hs hs2
theorem d_min2 {ea eb : Expr} {a b : Env → Option D} {p pos : Pos} (hg : glB sc "min" = true) (hm : Γ.mg "min" = none) (ha : DV Γ N sc κ1 ea a) (hb : DV Γ N sc κ2 eb b) (hs : Pl1 ea [eb] := by exact fun _ => rfl) (hs2 : Pl1 eb [] := by exact fun _ => rfl) : DV Γ N sc .e (.Call (.Name "min" p) [ea, eb] [] pos) (f2 min2D a b) :=
  d_b2 (fun X g => call_min2 g.calm) (by decide +kernel) (by decide) (by decide) (fun G H x y d e z s rx ry h Q q => by
    cases d <;> cases e <;> cases h
    exact ⟨_, _, by rw [rx.int, ry.int], q G H _ (Grow.refl s) (.int _)⟩) hg hm ha hb hs hs2
def sumD : D → Option D
  | .lst ds => (asInts ds).bind fun ns => some (.int ns.sum)
  | .tup ds => (asInts ds).bind fun ns => some (.int ns.sum)
  | _ => none
theorem lst_ints {x : V} {ds : List D} {ns : List Int} (s : SL G H) (rx : RepB Γ.K Γ.C G H x (.lst ds)) (e : asInts ds = some ns) : ∃ a, x = .ref a ∧ H a = some (.lst (ns.map V.int)) := by
  obtain ⟨a, vs, rfl, h1, h2⟩ := rx.lst s
  rw [asInts_eq e] at h2
  rw [RepL.ints_eq ns h2] at h1
  exact ⟨a, rfl, h1⟩
def rSumA (K : PySem.W.Frag) : List V → Hp → VK → Prop := fun vs H Q => rSum K vs H Q ∨ ∃ (a : Addr) (ns : List Int), vs = [V.ref a] ∧ SqT K H a (ns.map V.int) ∧ Q (.int ns.sum) H
theorem cr_sumA {X : Cx} (hc : X.calm = true) : CallR X (.builtin "sum") (rSumA X.K) := by
  intro pins s σ H vs us Q I r h
  rcases h with h | ⟨a, ns, e, hs, q⟩
  · exact cr_sum hc pins s σ H vs us Q I r h
  · subst e
    obtain ⟨its, rv, hl, _⟩ := I.tuple hs
    have hi : IntsAre its ns := rv.ints
    have hl : s.heap.IsTuple a its.toArray := hl
    rw [Vals.ref1 r]
    obtain ⟨xs, e⟩ := hi.allInts.items
    have hn : numsOf its.toArray.toList = ns := hi.numsOf
    rw [e] at hn hl
    rw [nums_intItems] at hn
    refine PySem.W.ktm_sumG (I.ok.hd hc) hl fun h' tk t' hk => ?_
    rw [preSum_eq, List.take_of_length_le (by simp), hn]
    exact ⟨.int _, H, I.kept hk, ⟨_, rfl⟩, q⟩
theorem tup_ints {x : V} {ds : List D} {ns : List Int} (rx : RepB Γ.K Γ.C G H x (.tup ds)) (s : SL G H) (e : asInts ds = some ns) : ∃ a, x = .ref a ∧ SqT Γ.K H a (ns.map V.int) := by
  obtain ⟨a, vs, rfl, h1, h2⟩ := rx.tup
  rw [asInts_eq e] at h2
  rw [RepL.ints_eq ns h2] at h1
  exact ⟨a, rfl, SqT.of (s.tup h1)⟩
theorem d_sum {ea : Expr} {a : Env → Option D} {p pos : Pos} (hg : glB sc "sum" = true) (hm : Γ.mg "sum" = none) (ha : DV Γ N sc κ1 ea a) (hs : Pl1 ea [] := by exact fun _ => rfl) : DV Γ N sc .e (.Call (.Name "sum" p) [ea] [] pos) (f1 sumD a) :=
  d_b1 (fun X g => g.K ▸ cr_sumA g.calm) (by decide +kernel) (by decide) (by decide) (fun G H x d z s rx h Q q => by
    cases d <;> try cases h
    · rename_i ds
      have h : ((asInts ds).bind fun ns => some (D.int ns.sum)) = some z := h
      cases e : asInts ds with
      | none => rw [e] at h; cases h
      | some ns =>
        rw [e] at h; cases h
        obtain ⟨a, rfl, h1⟩ := tup_ints rx s e
        exact .inr ⟨a, ns, rfl, h1, q G H _ (Grow.refl s) (.int _)⟩
    · rename_i ds
      have h : ((asInts ds).bind fun ns => some (D.int ns.sum)) = some z := h
      cases e : asInts ds with
      | none => rw [e] at h; cases h
      | some ns =>
        rw [e] at h; cases h
        obtain ⟨a, rfl, h1⟩ := lst_ints s rx e
        exact .inl ⟨a, ns, rfl, SqL.of h1, q G H _ (Grow.refl s) (.int _)⟩) hg hm ha hs
def maxL : List Int → Int
  | [] => 0
  | [x] => x
  | x :: xs => max x (maxL xs)
theorem maxL_mem : ∀ (ns : List Int), ns ≠ [] → maxL ns ∈ ns ∧ ∀ y ∈ ns, y ≤ maxL ns
  | [], h => absurd rfl h
  | [x], _ => ⟨List.mem_singleton.mpr rfl, fun y hy => by rw [List.mem_singleton.mp hy]; exact Int.le_refl _⟩
  | x :: y :: r, _ => by
    obtain ⟨h1, h2⟩ := maxL_mem (y :: r) (by simp)
    have e : maxL (x :: y :: r) = max x (maxL (y :: r)) := rfl
    rw [e]
    refine ⟨?_, fun z hz => ?_⟩
    · by_cases q : x ≤ maxL (y :: r)
      · rw [Int.max_eq_right q]; exact List.mem_cons_of_mem _ h1
      · rw [Int.max_eq_left (by omega)]; exact List.mem_cons_self
    · rcases List.mem_cons.mp hz with rfl | hz
      · omega
      · have := h2 z hz; omega
def maxD : D → Option D
  | .lst ds => (asInts ds).bind fun ns => if ns ≠ [] then some (.int (maxL ns)) else none
  | _ => none
theorem d_max {ea : Expr} {a : Env → Option D} {p pos : Pos} (hg : glB sc "max" = true) (hm : Γ.mg "max" = none) (ha : DV Γ N sc κ1 ea a) (hs : Pl1 ea [] := by exact fun _ => rfl) : DV Γ N sc .e (.Call (.Name "max" p) [ea] [] pos) (f1 maxD a) :=
  d_b1 (fun X g => g.K ▸ cr_max g.calm) (by decide +kernel) (by decide) (by decide) (fun G H x d z s rx h Q q => by
    cases d <;> try cases h
    rename_i ds
    have h : ((asInts ds).bind fun ns => if ns ≠ [] then some (D.int (maxL ns)) else none) = some z := h
    cases e : asInts ds with
    | none => rw [e] at h; cases h
    | some ns =>
      simp only [e, Option.bind_some] at h
      split at h
      · rename_i hne
        cases h
        obtain ⟨a, rfl, h1⟩ := lst_ints s rx e
        refine ⟨a, ns, rfl, SqL.of h1, List.length_pos_iff.mpr hne, fun m hm1 hm2 => ?_⟩
        obtain ⟨k1, k2⟩ := maxL_mem ns hne
        have : m = maxL ns := Int.le_antisymm (k2 m hm1) (hm2 _ k1)
        rw [this]
        exact q G H _ (Grow.refl s) (.int _)
      · cases h) hg hm ha hs
def anyD : D → Option D
  | .lst ds => (asBls ds).bind fun ns => some (.bl (ns.any id))
  | _ => none
def allD : D → Option D
  | .lst ds => (asBls ds).bind fun ns => some (.bl (ns.all id))
  | _ => none
theorem lst_bls {x : V} {ds : List D} {ns : List Bool} (s : SL G H) (rx : RepB Γ.K Γ.C G H x (.lst ds)) (e : asBls ds = some ns) : ∃ a, x = .ref a ∧ H a = some (.lst (ns.map V.bl)) := by
  obtain ⟨a, vs, rfl, h1, h2⟩ := rx.lst s
  rw [asBls_eq e] at h2
  rw [RepL.bls_eq ns h2] at h1
  exact ⟨a, rfl, h1⟩
theorem d_any {ea : Expr} {a : Env → Option D} {p pos : Pos} (hg : glB sc "any" = true) (hm : Γ.mg "any" = none) (ha : DV Γ N sc κ1 ea a) (hs : Pl1 ea [] := by exact fun _ => rfl) : DV Γ N sc .e (.Call (.Name "any" p) [ea] [] pos) (f1 anyD a) :=
  d_b1 (fun X g => g.K ▸ cr_any g.calm) (by decide +kernel) (by decide) (by decide) (fun G H x d z s rx h Q q => by
    cases d <;> try cases h
    rename_i ds
    have h : ((asBls ds).bind fun ns => some (D.bl (ns.any id))) = some z := h
    cases e : asBls ds with
    | none => rw [e] at h; cases h
    | some ns =>
      rw [e] at h; cases h
      obtain ⟨a, rfl, h1⟩ := lst_bls s rx e
      exact ⟨a, ns, rfl, SqL.of h1, q G H _ (Grow.refl s) (.bl _)⟩) hg hm ha hs
theorem d_all {ea : Expr} {a : Env → Option D} {p pos : Pos} (hg : glB sc "all" = true) (hm : Γ.mg "all" = none) (ha : DV Γ N sc κ1 ea a) (hs : Pl1 ea [] := by exact fun _ => rfl) : DV Γ N sc .e (.Call (.Name "all" p) [ea] [] pos) (f1 allD a) :=
  d_b1 (fun X g => g.K ▸ cr_all g.calm) (by decide +kernel) (by decide) (by decide) (fun G H x d z s rx h Q q => by
    cases d <;> try cases h
    rename_i ds
    have h : ((asBls ds).bind fun ns => some (D.bl (ns.all id))) = some z := h
    cases e : asBls ds with
    | none => rw [e] at h; cases h
    | some ns =>
      rw [e] at h; cases h
      obtain ⟨a, rfl, h1⟩ := lst_bls s rx e
      exact ⟨a, ns, rfl, SqL.of h1, q G H _ (Grow.refl s) (.bl _)⟩) hg hm ha hs
def tupleD : D → Option D
  | .lst ds => some (.tup ds)
  | .tup ds => some (.tup ds)
  | _ => none
theorem d_tuple {ea : Expr} {a : Env → Option D} {p pos : Pos} (hg : glB sc "tuple" = true) (hm : Γ.mg "tuple" = none) (ha : DV Γ N sc κ1 ea a) (hs : Pl1 ea [] := by exact fun _ => rfl) : DV Γ N sc .e (.Call (.Name "tuple" p) [ea] [] pos) (f1 tupleD a) :=
  d_t1 (r := fun xs H Q => ∃ p ys, xs = [.ref p] ∧ ((SqL Γ.K H p ys ∧ ∀ l, H l = none → Q (.ref l) (upd H l (.tup ys))) ∨ (SqT Γ.K H p ys ∧ Q (.ref p) H))) (fun X g => g.K ▸ call_tuple_of) (by decide +kernel) (by decide) (by decide) (fun G H x d z s rx h Q q => by
    cases d <;> try cases h
    · obtain ⟨a, vs, rfl, h1, h2⟩ := rx.tup
      exact ⟨a, vs, rfl, .inr ⟨SqT.of (s.tup h1), q G H _ (Grow.refl s) (.tup h1 h2)⟩⟩
    · obtain ⟨a, vs, rfl, h1, h2⟩ := rx.lst s
      exact ⟨a, vs, rfl, .inl ⟨SqL.of h1, fun l hl => q _ _ _ (Grow.new s hl) (.tup upd_same (h2.mono (SL.new (s.free hl))))⟩⟩) hg hm ha hs
def listD : D → Option D
  | .lst ds => some (.lst ds)
  | .tup ds => some (.lst ds)
  | _ => none
theorem d_list {ea : Expr} {a : Env → Option D} {p pos : Pos} (hg : glB sc "list" = true) (hm : Γ.mg "list" = none) (ha : DV Γ N sc κ1 ea a) (hs : Pl1 ea [] := by exact fun _ => rfl) : DV Γ N sc .f (.Call (.Name "list" p) [ea] [] pos) (f1 listD a) :=
  d_t1 (r := fun xs H Q => ∃ p ys, xs = [.ref p] ∧ (SqL Γ.K H p ys ∨ SqT Γ.K H p ys) ∧ ∀ l, H l = none → Q (.ref l) (upd H l (.lst ys))) (fun X g => g.K ▸ call_list_of) (by decide +kernel) (by decide) (by decide) (fun G H x d z s rx h Q q => by
    cases d <;> try cases h
    · obtain ⟨a, vs, rfl, h1, h2⟩ := rx.tup
      exact ⟨a, vs, rfl, .inr (SqT.of (s.tup h1)), fun l hl => q _ _ _ (Grow.newH s hl) ⟨l, rfl, hl, s.free hl, vs, upd_same, h2⟩⟩
    · obtain ⟨a, vs, rfl, h1, h2⟩ := rx.lst s
      exact ⟨a, vs, rfl, .inl (SqL.of h1), fun l hl => q _ _ _ (Grow.newH s hl) ⟨l, rfl, hl, s.free hl, vs, upd_same, h2⟩⟩) hg hm ha hs
def intD : D → Option D
  | .int i => some (.int i)
  | .bl k => some (.int (if k then 1 else 0))
  | _ => none
theorem d_int1 {ea : Expr} {a : Env → Option D} {p pos : Pos} (hg : glB sc "int" = true) (hm : Γ.mg "int" = none) (ha : DV Γ N sc κ1 ea a) (hs : Pl1 ea [] := by exact fun _ => rfl) : DV Γ N sc .e (.Call (.Name "int" p) [ea] [] pos) (f1 intD a) :=
  d_t1 (fun X g => call_int1) (by decide +kernel) (by decide) (by decide) (fun G H x d z s rx h Q q => by
    cases d <;> cases h
    · exact .inr ⟨_, by rw [rx.bl], q G H _ (Grow.refl s) (.int _)⟩
    · exact .inl ⟨_, by rw [rx.int], q G H _ (Grow.refl s) (.int _)⟩) hg hm ha hs
/-! ### isinstance -/
def tyD : D → Option String
  | .non => some "NoneType"
  | .bl _ => some "bool"
  | .int _ => some "int"
  | .str _ => some "str"
  | .tup _ => some "tuple"
  | .lst _ => some "list"
  | _ => none
theorem tyD_ok {t : String} {x : V} (s : SL G H) (r : RepB Γ.K Γ.C G H x d) (h : tyD d = some t) : TyX Γ.K H x (.type t) := by
  cases d <;> cases h
  · rw [r.non]; exact .base .non
  · rw [r.bl]; exact .base (.bl _)
  · rw [r.int]; exact .base (.int _)
  · rw [r.str]; exact .base (.str _)
  · obtain ⟨a, vs, rfl, h1, h2⟩ := r.tup
    exact .base (.tup (s.tup h1))
  · obtain ⟨a, vs, rfl, h1, h2⟩ := r.lst s
    exact .base (.lst h1)
/-- T one of int, bool, tuple -/
def isiB (T : String) (t : String) : Option Bool := if T = "int" then some (t == "int" || t == "bool") else if T = "bool" then some (t == "bool") else if T = "tuple" then some (t == "tuple") else none
theorem isiB_ok {T t : String} {b : Bool} (ht : t = "NoneType" ∨ t = "bool" ∨ t = "int" ∨ t = "str" ∨ t = "tuple" ∨ t = "list") (h : isiB T t = some b) : kitB t T = some b := by
  unfold isiB at h
  split at h
  · rename_i e; subst e
    rcases ht with rfl | rfl | rfl | rfl | rfl | rfl <;> cases h <;> decide +kernel
  · split at h
    · rename_i e; subst e
      rcases ht with rfl | rfl | rfl | rfl | rfl | rfl <;> cases h <;> decide +kernel
    · split at h
      · rename_i e; subst e
        rcases ht with rfl | rfl | rfl | rfl | rfl | rfl <;> cases h <;> decide +kernel
      · cases h
theorem tyD_in {t : String} (h : tyD d = some t) : t = "NoneType" ∨ t = "bool" ∨ t = "int" ∨ t = "str" ∨ t = "tuple" ∨ t = "list" := by
  cases d <;> cases h <;> simp
def isiD (T : String) (d : D) : Option D := (tyD d).bind fun t => (isiB T t).bind fun b => some (.bl b)
theorem d_isi {T : String} {tn : Str} {ea : Expr} {a : Env → Option D} {p p2 pos : Pos} (hT : bootBuiltins tn = some (.type T)) (htn : tn ≠ "__name__") (htd : (tn == ("__debug__" : Str)) = false) (hg : glB sc "isinstance" = true) (hm : Γ.mg "isinstance" = none) (hg2 : glB sc tn = true) (hm2 : Γ.mg tn = none) (ha : DV Γ N sc κ1 ea a) (hs : Pl1 ea [.Name tn p2] := by exact fun _ => rfl) :
    DV Γ N sc .e (.Call (.Name "isinstance" p) [ea, .Name tn p2] [] pos) (f1 (isiD T) a) := by
  obtain ⟨ta, pa, sa⟩ := ha.ex
  refine ⟨_, fun X gX => pe_callB (gX.K ▸ call_isi) (gl_of gX hg) (by rw [gX.mg]; exact hm) (by decide +kernel) (pa_cons (pa X gX) (pa_cons (pe_bltn (v := .ty T) (gl_of gX hg2) (by rw [gX.mg]; exact hm2) hT rfl htn htd) pa_nil) (hs _)) (by decide) (by decide) (hs _) rfl, fun H0 ρ σ G H Q z s E e q => ?_⟩
  unfold f1 at e
  cases eaa : a ρ with
  | none => rw [eaa] at e; cases e
  | some x =>
    rw [eaa] at e
    have e : isiD T x = some z := e
    unfold isiD at e
    cases et : tyD x with
    | none => rw [et] at e; cases e
    | some t =>
      simp only [et, Option.bind_some] at e
      cases eb : isiB T t with
      | none => rw [eb] at e; cases e
      | some b =>
        rw [eb] at e
        cases e
        refine sa H0 ρ σ G H _ x s E eaa fun G1 H1 v g1 o1 => ?_
        exact ⟨v, .ty T, .type t, .type T, b, rfl, .ty T, tyD_ok g1.s o1.b et, kit_ty (isiB_ok (tyD_in et) eb), q G1 H1 _ g1 (.bl b)⟩
theorem d_isInt {ea : Expr} {a : Env → Option D} {p p2 pos : Pos} (hg : glB sc "isinstance" = true) (hm : Γ.mg "isinstance" = none) (hg2 : glB sc "int" = true) (hm2 : Γ.mg "int" = none) (ha : DV Γ N sc κ1 ea a) (hs : Pl1 ea [.Name "int" p2] := by exact fun _ => rfl) :
    DV Γ N sc .e (.Call (.Name "isinstance" p) [ea, .Name "int" p2] [] pos) (f1 (isiD "int") a) := d_isi (by decide +kernel) (by decide) (by decide) hg hm hg2 hm2 ha hs
theorem d_isBool {ea : Expr} {a : Env → Option D} {p p2 pos : Pos} (hg : glB sc "isinstance" = true) (hm : Γ.mg "isinstance" = none) (hg2 : glB sc "bool" = true) (hm2 : Γ.mg "bool" = none) (ha : DV Γ N sc κ1 ea a) (hs : Pl1 ea [.Name "bool" p2] := by exact fun _ => rfl) :
    DV Γ N sc .e (.Call (.Name "isinstance" p) [ea, .Name "bool" p2] [] pos) (f1 (isiD "bool") a) := d_isi (by decide +kernel) (by decide) (by decide) hg hm hg2 hm2 ha hs
theorem d_isTuple {ea : Expr} {a : Env → Option D} {p p2 pos : Pos} (hg : glB sc "isinstance" = true) (hm : Γ.mg "isinstance" = none) (hg2 : glB sc "tuple" = true) (hm2 : Γ.mg "tuple" = none) (ha : DV Γ N sc κ1 ea a) (hs : Pl1 ea [.Name "tuple" p2] := by exact fun _ => rfl) :
    DV Γ N sc .e (.Call (.Name "isinstance" p) [ea, .Name "tuple" p2] [] pos) (f1 (isiD "tuple") a) := d_isi (by decide +kernel) (by decide) (by decide) hg hm hg2 hm2 ha hs
/-! ### one's own defs -/
structure HasD (Γ : Gam) (x : Str) (f : List D → Option D) : Prop where
  ex : ∃ (j : Nat) (a : Addr) (fd : FuncData) (ps : List Str), j ≤ Γ.k ∧ Γ.mg x = some (.ref a) ∧ PySem.W.keepIn Γ.K (.ref a) = true ∧ Binds Γ.K fd ps [] ∧ FnOk Γ.P Γ.w Γ.K Γ.mg Γ.base CX0 j a fd ps (spD Γ.K Γ.C f)
abbrev Gam.at (Γ : Gam) (k : Nat) : Gam := { Γ with k := k }
theorem HasD.up {x : Str} {f : List D → Option D} {j k : Nat} (h : HasD (Γ.at j) x f) (hk : j ≤ k) : HasD (Γ.at k) x f := by
  obtain ⟨i, a, fd, ps, h1, h2⟩ := h.ex
  exact ⟨i, a, fd, ps, Nat.le_trans h1 hk, h2⟩
theorem sem_sp {f : List D → Option D} {t : TA} {a : Env → Option (List D)} {E : XK} (sa : SemA Γ t a) : SemV Γ .e (tCall (spD Γ.K Γ.C f) [] E t) (fN f a) := fun H0 ρ σ G H Q z s Ev e q => by
  unfold fN at e
  cases ea : a ρ with
  | none => rw [ea] at e; cases e
  | some ds =>
    rw [ea] at e
    refine sa H0 ρ σ G H _ ds s Ev ea fun G1 H1 vs g1 o1 => ?_
    exact ⟨G1, ds, z, g1.s, by rw [List.append_nil]; exact o1, e, fun G2 H2 v g2 o2 => q G2 H2 v (g1.trans g2) o2⟩
theorem d_call {x : Str} {f : List D → Option D} {e : Expr} {es : List Expr} {a : Env → Option (List D)} {p pos : Pos} (h : HasD Γ x f) (hg : glB sc x = true) (hdb : (x == ("__debug__" : Str)) = false) (ha : DA Γ N sc (e :: es) a)
    (hs : Pl1 e es := by exact fun _ => rfl) (hpl : ∀ env : PySem.Env, (backTo pos (starEach es env)).any (·.1) = false := by exact fun _ => rfl) : DV Γ N sc .e (.Call (.Name x p) (e :: es) [] pos) (fN f a) := by
  obtain ⟨j, fa, fd, ps, hj, hm, hk, hb, hF⟩ := h.ex
  obtain ⟨t, pa, sa⟩ := ha.ex
  refine ⟨_, fun X g => ?_, sem_sp (E := E0) sa⟩
  exact pe_call (CX := CX0) (k := j) (f := fa) (fd := fd) (ps := ps) (ds := []) (dvs := []) (by rw [g.prog, g.w, g.K, g.mg, g.base]; exact hF) (g.room.mono hj) (gl_of g hg) (by rw [g.mg]; exact hm) (by rw [g.K]; exact hk) (by rw [g.K]; exact hb) .nil pass0 (pa X g) hdb (hs _) (hpl _)
/-! ### the net's fields and methods -/
structure NetC (Γ : Gam) : Prop where
  cl : Cls Γ.K Γ.C
  nf : NoAttr Γ.K Γ.C "fars"
  nt : NoAttr Γ.K Γ.C "turns"
  ni : NoAttr Γ.K Γ.C "inside"
def farsD : D → Option D
  | .net f _ _ => some f
  | _ => none
def turnsD : D → Option D
  | .net _ t _ => some t
  | _ => none
def insideD : D → Option D
  | .net _ _ .non => none
  | .net _ _ i => some i
  | _ => none
theorem insideD_eq {f t i z : D} (h : insideD (.net f t i) = some z) : i = z ∧ i ≠ .non := by
  cases i <;> first | cases h | skip
  all_goals exact ⟨rfl, fun e => by cases e⟩
theorem RepB.net {f t i : D} {x : V} (r : RepB Γ.K Γ.C G H x (.net f t i)) : Rep Γ.K Γ.C G x (.net f t i) := by
  rcases r with r | ⟨a, rfl, r⟩
  · exact r
  · exact r.elim
theorem look_f {v1 v2 v3 : V} : ([("fars", v1), ("turns", v2), ("inside", v3)] : List (Str × V)).lookup ("fars" : Str) = some v1 := by rfl
theorem look_t {v1 v2 v3 : V} : ([("fars", v1), ("turns", v2), ("inside", v3)] : List (Str × V)).lookup ("turns" : Str) = some v2 := by rfl
theorem look_i {v1 v2 v3 : V} : ([("fars", v1), ("turns", v2), ("inside", v3)] : List (Str × V)).lookup ("inside" : Str) = some v3 := by rfl
theorem d_fars {ea : Expr} {a : Env → Option D} {pos : Pos} (C : NetC Γ) (ha : DV Γ N sc κ1 ea a) (hb : ∀ env : PySem.Env, attributeBase ea "fars" env (eval ea env) = eval ea env := by exact fun _ => rfl) : DV Γ N sc .e (.Attribute ea "fars" pos) (f1 farsD a) := by
  obtain ⟨ta, pa, sa⟩ := ha.ex
  refine ⟨_, fun X g => g.K ▸ pe_fld (pa X g) (hb _), fun H0 ρ σ G H Q z s E e q => ?_⟩
  unfold f1 at e
  cases eaa : a ρ with
  | none => rw [eaa] at e; cases e
  | some x =>
    rw [eaa] at e
    cases x <;> cases e
    refine sa H0 ρ σ G H _ _ s E eaa fun G1 H1 v g1 o1 => ?_
    cases o1.b.net with
    | net h1 r1 r2 r3 => exact ⟨_, _, _, _, _, rfl, g1.s.ins h1, C.cl, C.nf, look_f, q G1 H1 _ g1 r1⟩
    | netP h1 r1 r2 => exact ⟨_, _, _, _, _, rfl, g1.s.ins h1, C.cl, C.nf, look_f, q G1 H1 _ g1 r1⟩
theorem d_turns {ea : Expr} {a : Env → Option D} {pos : Pos} (C : NetC Γ) (ha : DV Γ N sc κ1 ea a) (hb : ∀ env : PySem.Env, attributeBase ea "turns" env (eval ea env) = eval ea env := by exact fun _ => rfl) : DV Γ N sc .e (.Attribute ea "turns" pos) (f1 turnsD a) := by
  obtain ⟨ta, pa, sa⟩ := ha.ex
  refine ⟨_, fun X g => g.K ▸ pe_fld (pa X g) (hb _), fun H0 ρ σ G H Q z s E e q => ?_⟩
  unfold f1 at e
  cases eaa : a ρ with
  | none => rw [eaa] at e; cases e
  | some x =>
    rw [eaa] at e
    cases x <;> cases e
    refine sa H0 ρ σ G H _ _ s E eaa fun G1 H1 v g1 o1 => ?_
    cases o1.b.net with
    | net h1 r1 r2 r3 => exact ⟨_, _, _, _, _, rfl, g1.s.ins h1, C.cl, C.nt, look_t, q G1 H1 _ g1 r2⟩
    | netP h1 r1 r2 => exact ⟨_, _, _, _, _, rfl, g1.s.ins h1, C.cl, C.nt, look_t, q G1 H1 _ g1 r2⟩
theorem d_inside {ea : Expr} {a : Env → Option D} {pos : Pos} (C : NetC Γ) (ha : DV Γ N sc κ1 ea a) (hb : ∀ env : PySem.Env, attributeBase ea "inside" env (eval ea env) = eval ea env := by exact fun _ => rfl) : DV Γ N sc .e (.Attribute ea "inside" pos) (f1 insideD a) := by
  obtain ⟨ta, pa, sa⟩ := ha.ex
  refine ⟨_, fun X g => g.K ▸ pe_fld (pa X g) (hb _), fun H0 ρ σ G H Q z s E e q => ?_⟩
  unfold f1 at e
  cases eaa : a ρ with
  | none => rw [eaa] at e; cases e
  | some x =>
    rw [eaa] at e
    cases x <;> try cases e
    obtain ⟨e1, e2⟩ := insideD_eq e
    subst e1
    refine sa H0 ρ σ G H _ _ s E eaa fun G1 H1 v g1 o1 => ?_
    cases o1.b.net with
    | netP h1 r1 r2 => exact absurd rfl e2
    | net h1 r1 r2 r3 => exact ⟨_, _, _, _, _, rfl, g1.s.ins h1, C.cl, C.ni, look_i, q G1 H1 _ g1 r3⟩
structure HasM (Γ : Gam) (m : Str) (f : List D → Option D) : Prop where
  no : ∀ v1 v2 v3 : V, ([("fars", v1), ("turns", v2), ("inside", v3)] : List (Str × V)).lookup m = none
  ex : ∃ (j : Nat) (a : Addr) (fd : FuncData) (ps : List Str), j ≤ Γ.k ∧ Meth Γ.K Γ.C m a ∧ Binds Γ.K fd ps [] ∧ FnOk Γ.P Γ.w Γ.K Γ.mg Γ.base CX0 j a fd ps (spD Γ.K Γ.C f)
theorem HasM.up {x : Str} {f : List D → Option D} {j k : Nat} (h : HasM (Γ.at j) x f) (hk : j ≤ k) : HasM (Γ.at k) x f := by
  obtain ⟨i, a, fd, ps, h1, h2⟩ := h.ex
  exact ⟨h.no, i, a, fd, ps, Nat.le_trans h1 hk, h2⟩
def netB : D → Bool
  | .net _ _ _ => true
  | _ => false
def fM (f : List D → Option D) (o : Env → Option D) (a : Env → Option (List D)) : Env → Option D := fun ρ => (o ρ).bind fun x => (a ρ).bind fun ds => if netB x then f (x :: ds) else none
theorem sem_meth {m : Str} {f : List D → Option D} {to : TE} {t : TA} {o : Env → Option D} {a : Env → Option (List D)} {E : XK} (no : ∀ v1 v2 v3 : V, ([("fars", v1), ("turns", v2), ("inside", v3)] : List (Str × V)).lookup m = none) (so : SemV Γ κ to o) (sa : SemA Γ t a) :
    SemV Γ .e (tMeth Γ.C m (spD Γ.K Γ.C f) [] E to t) (fM f o a) := fun H0 ρ σ G H Q z s Ev e q => by
  unfold fM at e
  cases eo : o ρ with
  | none => rw [eo] at e; cases e
  | some x =>
    cases ea : a ρ with
    | none => simp only [eo, ea, Option.bind_some] at e; cases e
    | some ds =>
      simp only [eo, ea, Option.bind_some] at e
      cases x <;> first | cases e | skip
      have e : f (_ :: ds) = some z := e
      refine so H0 ρ σ G H _ _ s Ev eo fun G1 H1 v g1 o1 => ?_
      cases o1.b.net with
      | net h1 r1 r2 r3 =>
        refine ⟨_, _, _, rfl, g1.s.ins h1, no _ _ _, ?_⟩
        refine sa H0 ρ σ G1 H1 _ ds g1.s (Ev.grow g1) ea fun G2 H2 vs g2 o2 => ?_
        refine ⟨G2, _, z, g2.s, ?_, e, fun G3 H3 v g3 o3 => q G3 H3 v ((g1.trans g2).trans g3) o3⟩
        rw [List.append_nil]
        exact .cons ((Rep.net h1 r1 r2 r3).mono g2.g) o2
      | netP h1 r1 r2 =>
        refine ⟨_, _, _, rfl, g1.s.ins h1, no _ _ _, ?_⟩
        refine sa H0 ρ σ G1 H1 _ ds g1.s (Ev.grow g1) ea fun G2 H2 vs g2 o2 => ?_
        refine ⟨G2, _, z, g2.s, ?_, e, fun G3 H3 v g3 o3 => q G3 H3 v ((g1.trans g2).trans g3) o3⟩
        rw [List.append_nil]
        exact .cons ((Rep.netP h1 r1 r2).mono g2.g) o2
theorem d_meth {m : Str} {f : List D → Option D} {oe e : Expr} {es : List Expr} {o : Env → Option D} {a : Env → Option (List D)} {apos pos : Pos} {pl : PySem.Env → Sem Bool} (C : NetC Γ) (h : HasM Γ m f) (ho : DV Γ N sc κ oe o) (ha : DA Γ N sc (e :: es) a)
    (hs : Pl1 e es := by exact fun _ => rfl) (hpl : ∀ env : PySem.Env, (backTo pos (starEach es env)).any (·.1) = false := by exact fun _ => rfl)
    (ht : ∀ env : PySem.Env, eval (.Call (.Attribute oe m apos) (e :: es) [] pos) env = (do
      let ov ← eval oe env
      standAt apos.atName
      let (f, first) ← holding [ov] (getMethod ov m (pl env))
      callWith pos f first (backTo pos (starEach (e :: es) env)) (backToKw pos (keywordEach [] env))) := by exact fun _ => rfl) : DV Γ N sc .e (.Call (.Attribute oe m apos) (e :: es) [] pos) (fM f o a) := by
  obtain ⟨no, j, fa, fd, ps, hj, hm, hb, hF⟩ := h
  obtain ⟨to, po, so⟩ := ho.ex
  obtain ⟨t, pa, sa⟩ := ha.ex
  refine ⟨_, fun X g => ?_, sem_meth (E := E0) no so sa⟩
  exact pe_meth (pl := pl X.env) (CX := CX0) (k := j) (f := fa) (fd := fd) (ps := ps) (ds := []) (dvs := []) (po X g) (by rw [g.K]; exact C.cl) (by rw [g.K]; exact hm) (by rw [g.prog, g.w, g.K, g.mg, g.base]; exact hF) (g.room.mono hj) (by rw [g.K]; exact hb) .nil pass0 (pa X g) (hs _) (hpl _) (ht _)
theorem d_meth0 {m : Str} {f : List D → Option D} {oe : Expr} {o : Env → Option D} {apos pos : Pos} {pl : PySem.Env → Sem Bool} (C : NetC Γ) (h : HasM Γ m f) (ho : DV Γ N sc κ oe o)
    (ht : ∀ env : PySem.Env, eval (.Call (.Attribute oe m apos) [] [] pos) env = (do
      let ov ← eval oe env
      standAt apos.atName
      let (f, first) ← holding [ov] (getMethod ov m (pl env))
      callWith pos f first (backTo pos (starEach [] env)) (backToKw pos (keywordEach [] env))) := by exact fun _ => rfl) : DV Γ N sc .e (.Call (.Attribute oe m apos) [] [] pos) (fM f o fnil) := by
  obtain ⟨no, j, fa, fd, ps, hj, hm, hb, hF⟩ := h
  obtain ⟨to, po, so⟩ := ho.ex
  obtain ⟨t, pa, sa⟩ := (a_nil (Γ := Γ) (N := N) (sc := sc)).ex
  refine ⟨_, fun X g => ?_, sem_meth (E := E0) (t := tNil) no so (fun H0 ρ σ G H Q ds s E e q => by cases e; exact q G H [] (Grow.refl s) .nil)⟩
  exact pe_meth0 (pl := pl X.env) (CX := CX0) (k := j) (f := fa) (fd := fd) (ps := ps) (ds := []) (dvs := []) (po X g) (by rw [g.K]; exact C.cl) (by rw [g.K]; exact hm) (by rw [g.prog, g.w, g.K, g.mg, g.base]; exact hF) (g.room.mono hj) (by rw [g.K]; exact hb) .nil pass0 (ht _)
/-- Net(sheet) -/
def spN (K : PySem.W.Frag) (C : Addr) (f : D → Option D) : Sp := fun vs H Q _ => ∃ G H1 x dx v d n, SL G H1 ∧ H1 x = none ∧ H1 dx = none ∧ dx ≠ x ∧ vs = [.ref x, v] ∧ H = upd (upd H1 dx (.own x)) x (.ins C dx []) ∧ Rep K C G v d ∧ f d = some n ∧
  ∀ G' H', Grow G H1 G' H' → Rep K C G' (.ref x) n → Q .non H'
structure HasN (Γ : Gam) (x : Str) (f : D → Option D) : Prop where
  ex : ∃ (j : Nat) (a : Addr) (fd : FuncData) (ps : List Str), j + 1 ≤ Γ.k ∧ Γ.mg x = some (.ref Γ.C) ∧ Mk Γ.K Γ.C a ∧ Binds Γ.K fd ps [] ∧ FnOk Γ.P Γ.w Γ.K Γ.mg Γ.base CX0 j a fd ps (spN Γ.K Γ.C f)
theorem HasN.up {x : Str} {f : D → Option D} {j k : Nat} (h : HasN (Γ.at j) x f) (hk : j ≤ k) : HasN (Γ.at k) x f := by
  obtain ⟨i, a, fd, ps, h1, h2⟩ := h.ex
  exact ⟨i, a, fd, ps, Nat.le_trans h1 hk, h2⟩
theorem d_make {x : Str} {f : D → Option D} {ea : Expr} {a : Env → Option D} {p pos : Pos} (h : HasN Γ x f) (hg : glB sc x = true) (hdb : (x == ("__debug__" : Str)) = false) (ha : DV Γ N sc .e ea a) (hs : Pl1 ea [] := by exact fun _ => rfl) :
    DV Γ N sc .e (.Call (.Name x p) [ea] [] pos) (f1 f a) := by
  obtain ⟨j, fa, fd, ps, hj, hm, hk, hb, hF⟩ := h.ex
  obtain ⟨t, pa, sa⟩ := ha.ex
  refine ⟨tMake Γ.C (spN Γ.K Γ.C f) [] E0 (tCons t tNil), fun X g => ?_, fun H0 ρ σ G H Q z s E e q => ?_⟩
  · exact pe_make (CX := CX0) (k := j) (f := fa) (fd := fd) (ps := ps) (ds := []) (dvs := []) (by rw [g.K]; exact hk) (by rw [g.prog, g.w, g.K, g.mg, g.base]; exact hF) (g.room.mono hj) (gl_of g hg) (by rw [g.mg]; exact hm) (by rw [g.K]; exact hb) .nil pass0 (pa_cons (pa X g) pa_nil (hs _)) hdb (hs _) rfl
  · unfold f1 at e
    cases eaa : a ρ with
    | none => rw [eaa] at e; cases e
    | some d =>
      rw [eaa] at e
      refine sa H0 ρ σ G H _ d s E eaa fun G1 H1 v g1 o1 => fun x dx hx hdx hne => ?_
      exact ⟨G1, H1, x, dx, v, d, z, g1.s, hx, hdx, hne, rfl, rfl, o1, e, fun G2 H2 g2 o2 => ⟨rfl, q G2 H2 _ (g1.trans g2) o2⟩⟩
end
end Pv
set_option Elab.async false
set_option linter.all false
set_option maxRecDepth 100000
set_option maxHeartbeats 4000000
set_option autoImplicit false
namespace Pv
open PySem PySem.Spec PyProof.Rows L2
/-! ### what is walked: further rules over the layer -/
section
variable {X : Cx}
theorem PI.or {tg it : Expr} {w w' : TI} (h : PI X tg it w) (h' : PI X tg it w') : PI X tg it (fun σ H R => w σ H R ∨ w' σ H R) :=
  ⟨fun pins s σ H R I q => q.elim (h.run pins s σ H R I) (h'.run pins s σ H R I)⟩
/-- a dict is locked for good -/
def tFrz (td : TE) : TE := fun σ H Q => td σ H fun x H1 => (∃ d u, x = .ref d ∧ H1 d = some u ∧ Mut (some u) ∧ ∀ o, Q x (upd H1 d (.frz o u))) ∨ Q x H1
theorem pe_frz {e : Expr} {td : TE} (h : PE X e td) : PE X e (tFrz td) := by
  refine ⟨fun pins s σ H Q I q => ?_⟩
  refine thn (h.run pins s σ H _ I q) fun v s1 ⟨x, H1, I1, r1, q1⟩ => ?_
  rcases q1 with ⟨d, u, rfl, hd, mu, q1⟩ | q1
  · obtain ⟨o, I2⟩ := I1.lock hd mu
    exact ⟨_, _, I2, r1, q1 o⟩
  · exact ⟨x, H1, I1, r1, q1⟩
/-! enumerate(tuple) -/
theorem meets_enum1 {v : Value} {o : Obj} {H : Heap → Prop} (B : Begins v o H) :
    Meets (Builtin.«enumerate.__new__» ⟨[.type "enumerate", v], []⟩) (fun _ R s => H s.heap ∧
      R (.ok (.ret (.ref (s.heap.push o).objs.size))) { s with heap := (s.heap.push o).push { cls := .type "enumerate", data := .fields #[.none, .bool false, .ref s.heap.objs.size, rawInt 0, .none, .none] } }) :=
  .of_wp fun prog w A R s h => by
    obtain ⟨hp, g, d, tk, os⟩ := s; obtain ⟨h1, h⟩ := h
    have hsub := sub_enumerate
    have q1 : ∀ {A' : Around} {E : Value → Shared → Prop} {Q : Value → Shared → Prop}, Q (.ref hp.objs.size) ⟨hp.push o, g, d, tk, os⟩ → wpAny (model prog w) A' (pyIter v) Q E ⟨hp, g, d, tk, os⟩ :=
      fun q => B.iter prog w _ _ ⟨hp, g, d, tk, os⟩ _ h1 q
    wp_walk using q1
    refine wpAny_stack_any fun st => wpAny_pure ?_
    split
    · rename_i c _ _ _ _ _
      cases (c == Value.type "enumerate")
      · wp_walk using q1
        exact ⟨_, rfl, h⟩
      · wp_walk using q1
        exact ⟨_, rfl, h⟩
    · wp_walk using q1
      exact ⟨_, rfl, h⟩
theorem enum_begin1 {prog : Program} {w : World} {A : Around} {E : Value → Shared → Prop} {s : Shared} {v : Value} {o : Obj} {H : Heap → Prop} {Q : Value → Shared → Prop} (B : Begins v o H) (h1 : H s.heap)
    (h : ∀ h', IsEnum h' (s.heap.objs.size + 1) s.heap.objs.size 0 .none → h'.get? s.heap.objs.size = some o → h'.objs.size = s.heap.objs.size + 2 →
      (∀ b o, s.heap.get? b = some o → h'.get? b = some o) → Q (.ref (s.heap.objs.size + 1)) { s with heap := h' }) :
    wpAny (model prog w) A (call (.type "enumerate") [v]) Q E s := by
  refine callType_new F.called_enumerate (by decide) (F.typeCall_enumerate_1 _) (F.newCall_enumerate_1 _) (fun obj => F.args_object_init_2 obj _) F.entry_enumerate_new
    (meets_enum1 B) ⟨h1, ?_⟩
  have hz : (s.heap.push o).objs.size = s.heap.objs.size + 1 := Heap.size_push ..
  show _ ∧ _
  rw [hz]
  have he : IsEnum ((s.heap.push o).push { cls := .type "enumerate", data := .fields #[.none, .bool false, .ref s.heap.objs.size, rawInt 0, .none, .none] }) (s.heap.objs.size + 1) s.heap.objs.size 0 .none := by
    have := Heap.get?_push_size (s.heap.push o) (o := { cls := .type "enumerate", data := .fields #[.none, .bool false, .ref s.heap.objs.size, rawInt 0, .none, .none] }) rfl
    rw [hz] at this; exact this
  refine ⟨⟨_, he, rfl⟩, h _ he (Heap.get?_push_of_some _ (Heap.get?_push_size _ B.free)) (by rw [Heap.size_push, hz]) fun b o x => Heap.get?_push_of_some _ (Heap.get?_push_of_some _ x)⟩
def IteT (K : PySem.W.Frag) (a : Addr) : It :=
  ⟨fun i H => ∃ (xs : List V) (x : V), SqT K H a xs ∧ xs[i]? = some x, fun i H v H' => ∃ T x, v = .ref T ∧ H T = none ∧ H' = upd H T (.tup [.int (i : Nat), x]) ∧ ∀ xs, SqT K H a xs → xs[i]? = some x, fun i H => ∃ xs : List V, SqT K H a xs ∧ xs.length ≤ i⟩
theorem turn_enumT {P : Program} {w : World} {K : PySem.W.Frag} {elts : List Expr} {kk : Nat} {tpos : Pos} (a e it : Addr) (hai : a ≠ it) :
    Turn P w K (.Tuple elts kk tpos) (IteT K a) [e, it] e (fun i h => (∃ old, IsEnum h e it ((i : Nat) : Int) old) ∧ h.IsTupleIter it a i ∧ e ≠ it) where
  mem := by simp
  obj := fun i h st b hb => by
    obtain ⟨⟨old, he⟩, ⟨o, ho, hc, hd⟩, _⟩ := st
    have e' : b = e ∨ b = it := by simpa using hb
    rcases e' with z | z
    · rw [z]; exact ⟨_, he, fun v q => nomatch q⟩
    · rw [z]; exact ⟨o, ho, fun v q => by rw [hd] at q; cases q⟩
  keep := fun i h h' st k => let ⟨⟨old, he⟩, hi, hne⟩ := st; ⟨⟨old, k e (by simp) _ he⟩, hi.at fun o q => k it (by simp) o q, hne⟩
  item := by
    intro X hP hw hK hc i pins s σ H E I hf st hg
    subst hP hw hK
    obtain ⟨⟨old, he⟩, hit, hne⟩ := st
    obtain ⟨xs, x, hq, hx⟩ := hg
    obtain ⟨its, rv, p, hz⟩ := I.tuple hq
    obtain ⟨u, hu, ru⟩ := rv.get hx
    have hel : e < s.heap.objs.size := Heap.lt_size he
    have hil : it < s.heap.objs.size := by obtain ⟨_, q, _⟩ := hit; exact Heap.lt_size q
    have hea : e ≠ a := by
      rintro rfl
      obtain ⟨o, ho, hcl, _⟩ := p
      rw [show s.heap.get? e = some _ from he] at ho
      cases ho
      injection hcl with hh
      exact absurd hh (by decide)
    have hii : i < its.toArray.size := by
      have := (List.getElem?_eq_some_iff.mp hu).1
      simpa using this
    refine wpAny_pyNext_enum_itemD (Draws.tuple (A := X.A.in1) (I.ok.hd hc) it a hai its.toArray) he ⟨hit, p⟩ hii hne (by simp [hne, hea]) fun x' h' tk hPx ho hst' hT hsz hk => ?_
    have ex : x' = u := by
      have h1 : its.toArray[i]? = some u := by simpa using hu
      rw [h1] at hPx
      exact (Option.some.inj hPx).symm
    subst ex
    refine ⟨_, rfl, wpAny_letOwnedTupleGo_enum (s := { s with heap := h', toks := tk + 1 }) ho fun h'' he' sb => ?_⟩
    have hT2 : h''.get? s.heap.objs.size = some { cls := .type "tuple", data := .seq #[.int i tk, x'] } := (sb.2 _ (Nat.ne_of_gt hel)).trans hT
    have new : ObjOk X.prog X.w (upd H s.heap.objs.size (.tup [.int (i : Nat), x])) h'' s.heap.objs.size (.tup [.int (i : Nat), x]) :=
      ⟨by show 2 ≤ sizeLine; decide, [.int i tk, x'], .cons ⟨_, rfl⟩ (.cons ru .nil), ⟨_, hT2, rfl, _, rfl⟩⟩
    have I1 : Inv X pins σ (upd H s.heap.objs.size (.tup [.int (i : Nat), x])) { s with heap := h'', toks := tk + 1 } :=
      I.turnedNew (ch := [e, it]) (fun b ob hb q => (sb.2 b (fun z => hb (by simp [z]))).trans (hk b ob (fun z => hb (by simp [z])) (fun z => hb (by simp [z])) q)) hf (Nat.le_refl _) new
    refine ⟨.ref s.heap.objs.size, _, I1, rfl, ⟨_, x, rfl, I.hok.fresh (Nat.le_refl _), rfl, fun ys hy => by rw [I.tuple_inj hy hq]; exact hx⟩, ⟨⟨x', ?_⟩, hst'.1.at fun o q => (sb.2 it (Ne.symm hne)).trans q, hne⟩, fun b hb => ?_⟩
    · have e1 : ((i + 1 : Nat) : Int) = (i : Int) + 1 := by omega
      rw [e1]; exact he'
    · have hb' : b < s.heap.objs.size := by
        have e' : b = e ∨ b = it := by simpa using hb
        rcases e' with z | z
        · rw [z]; exact hel
        · rw [z]; exact hil
      rw [upd_ne (Nat.ne_of_lt hb')]
      exact (hf b hb).1
  done := by
    intro X hP hw hK hc i pins s σ H E I hf st hg
    subst hP hw hK
    obtain ⟨⟨old, he⟩, hit, hne⟩ := st
    obtain ⟨xs, hq, hx⟩ := hg
    obtain ⟨its, rv, p, hz⟩ := I.tuple hq
    obtain ⟨f0, f1, f2, f3, f4, f5⟩ := hf it (by simp)
    have hl := rv.length
    -- the iterator stands at i, at or behind the end
    have hT : s.TypeIs (.ref e) "enumerate" := ⟨_, he, rfl⟩
    unfold pyNext
    refine wpAny_bind (wpAny_attempt (wpAny_callSpecial?_slot (name := Str.ofString "__next__") hT F.slot_enumerate_next
      (wpAny_call_entry F.slot_enumerate_next hT F.entry_enumerate_next ?_ (F.args_enumerate_next_1 _))))
    show wpAny _ _ (field (.ref e) 2 >>= _) _ _ _
    refine wpAny_bind (wpAny_field he rfl (x := .ref it) rfl ?_)
    refine wpAny_bind (wpAny_nextOf_tuple_end (A := X.A.in1) (I.ok.hd hc) hit p (by simp; omega) fun h' x he' hx' => ?_)
    obtain ⟨o, ho, hcl⟩ := hx'
    refine wpAny_bind (wpAny_isInstance (T := "StopIteration") (b := true) ⟨o, ho, hcl⟩ isSubtype_stop ?_)
    exact wpAny_pure ⟨rfl, I.turned (t' := s.toks) (fun b o hb q => he' b o hb q) f0 f1 f3 f4 f5⟩
  self := fun A i s Q E st h => let ⟨⟨_, he⟩, _⟩ := st; wpAny_pyIter_enum he h
def iEnumT (K : PySem.W.Frag) (ta : TA) : TI := fun σ H R => ta σ H fun vs H1 => ∃ a xs, vs = [.ref a] ∧ SqT K H1 a xs ∧ R (IteT K a) H1
theorem pi_enumT {e : Expr} {ta : TA} {p pos tpos : Pos} {elts : List Expr} {kk : Nat} (hg : Gl X "enumerate") (hm : X.mg "enumerate" = none) (ha : PA X [e] ta) (hs : starEach [e] X.env = [(false, eval e X.env)] := by rfl) :
    PI X (.Tuple elts kk tpos) (.Call (.Name "enumerate" p) [e] [] pos) (iEnumT X.K ta) := by
  refine ⟨fun pins s σ H R I h => ?_⟩
  refine Call_ (ld_blt I hg hm boot_enumerate (PyProof.Rows.callWith_type1 (thn (ha.run pos pins s σ H _ I h) fun us s1 ⟨vs, H1, I1, r1, q1⟩ => ?_) hs rfl))
  obtain ⟨a, xs, ex, hq, q⟩ := q1
  subst ex
  cases r1 with
  | cons r rr =>
    cases rr
    cases r
    obtain ⟨its, rv, p', hz⟩ := I1.tuple hq
    refine enum_begin1 (begins_tuple a its.toArray) p' fun h' he hit hsz hk => wpAny_pyIter_enum he ?_
    have I2 : Inv X pins σ H1 { s1 with heap := h' } := I1.kept (t' := s1.toks) hk
    have hal : a < s1.heap.objs.size := by obtain ⟨_, ho, _⟩ := p'; exact Heap.lt_size ho
    refine ⟨s1.heap.objs.size + 1, [s1.heap.objs.size + 1, s1.heap.objs.size], _, _, H1, rfl, I2, turn_enumT a (s1.heap.objs.size + 1) s1.heap.objs.size (Nat.ne_of_lt hal), ⟨⟨.none, he⟩, ⟨_, hit, rfl, rfl⟩, Nat.succ_ne_self _⟩, fun b hb => ?_, q⟩
    have e' : b = s1.heap.objs.size + 1 ∨ b = s1.heap.objs.size := by simpa using hb
    have hle : s1.heap.objs.size ≤ b := by
      rcases e' with z | z
      · rw [z]; exact Nat.le_add_right _ _
      · rw [z]; exact Nat.le_refl _
    exact I1.fpOk hle (I1.hok.fresh hle)
theorem walk_enumT {K : PySem.W.Frag} {a : Addr} {xs : List V} : Walk (IteT K a) xs.length (fun H => SqT K H a xs) (YPair (fun i => some (.int (i : Nat))) (fun i => xs[i]?)) := by
  refine ⟨fun i _ hi q => ⟨xs, xs[i], q, by simp [hi]⟩, fun _ q => ⟨xs, q, Nat.le_refl _⟩, fun i H v H' _ q y => ?_⟩
  obtain ⟨T, x, h1, h2, h3, h4⟩ := y
  exact ⟨T, .int (i : Nat), x, h1, h2, h3, rfl, h4 xs q⟩
/-! d.items(), the keys tuples -/
def Itit (d : Addr) (o : Obj) (kvs : List (List Key × V)) : It :=
  ⟨fun i H => H d = some (.frz o (.dT kvs)) ∧ i < kvs.length, fun i H x H' => ∃ T k v q, kvs[i]? = some (k, v) ∧ x = .ref T ∧ H T = none ∧ H' = upd H T (.tup [.ref q, v]) ∧ H q = some (.tup (k.map kV)), fun i H => H d = some (.frz o (.dT kvs)) ∧ kvs.length ≤ i⟩
theorem frzT2 {pins : List (Addr × Obj)} {σ : L2.St} {H : Hp} {s : Shared} {d : Addr} {o : Obj} {kvs : List (List Key × V)} (I : Inv X pins σ H s) (h : H d = some (.frz o (.dT kvs))) :
    (d == sysModules) = false ∧ s.heap.get? d = some o ∧ o.ExactDict ∧ ∃ (es : Array DictEntry) (ep : Nat), o.data = .dict es ep ∧ es.size = kvs.length ∧
      ∀ (i : Nat) (k : List Key) (v : V), kvs[i]? = some (k, v) → ∃ (en : DictEntry) (q : Addr), es[i]? = some en ∧ en.key = .ref q ∧ H q = some (.tup (k.map kV)) ∧ RelV v en.val := by
  obtain ⟨hd, z, hs, xs, pr, o', es, ep, ho, hx, hdt, he, _⟩ := I.hok d _ h
  rw [hd] at ho
  cases ho
  refine ⟨hs, hd, hx, es, ep, hdt, ?_, fun i k v e => ?_⟩
  · have l1 : es.size = xs.length := size_of_entries he
    have l2 : kvs.length = xs.length := Paired.length pr
    omega
  · obtain ⟨b, hb, e1, e2, e3⟩ := paired_get pr e
    have q := entry_at he i
    rw [hb] at q
    exact ⟨_, b.2.1, q, rfl, e2, e3⟩
theorem turn_itemsT {P : Program} {w : World} {K : PySem.W.Frag} {kvs : List (List Key × V)} {elts : List Expr} {kk : Nat} {tpos : Pos} {d : Addr} {o : Obj} {es : Array DictEntry} {ep : Nat} (it : Addr) (hod : o.data = .dict es ep) :
    Turn P w K (.Tuple elts kk tpos) (Itit d o kvs) [it] it (fun i h => ∃ ok ov, IsItemIter h it d i kvs.length ep ok ov) where
  mem := by simp
  obj := fun i h st b hb => by
    have e : b = it := by simpa using hb
    subst e
    obtain ⟨ok, ov, e⟩ := st
    exact ⟨_, e, fun v z => nomatch z⟩
  keep := fun i h h' st k => let ⟨ok, ov, e⟩ := st; ⟨ok, ov, k it (by simp) _ e⟩
  item := by
    intro X hP hw hK hc i pins s σ H E I hf st hg
    subst hP hw hK
    obtain ⟨hd, hi⟩ := hg
    obtain ⟨hs, hgd, hx, es', ep', hdt, hsz, ent⟩ := frzT2 I hd
    obtain ⟨rfl, rfl⟩ := dict_ep hod hdt
    obtain ⟨⟨k, v⟩, hkv⟩ : ∃ p, kvs[i]? = some p := ⟨kvs[i], List.getElem?_eq_getElem hi⟩
    obtain ⟨en, q, hen, hkey, hq, rv⟩ := ent i k v hkv
    obtain ⟨ok, ov, he⟩ := st
    rw [← hsz] at he
    have hlt : it < s.heap.objs.size := Heap.lt_size he
    obtain ⟨hi', hen'⟩ := Array.getElem?_eq_some_iff.mp hen
    refine DT.nextI he ⟨o, hgd, hx, hdt⟩ hi' fun h' ho hT hz hk => ?_
    rw [hen'] at ho hT
    refine ⟨_, rfl, wpAny_letOwnedTupleGo_items (s := { s with heap := h' }) ho fun h'' he' sb => ?_⟩
    have hT2 : h''.get? s.heap.objs.size = some { cls := .type "tuple", data := .seq #[en.key, en.val] } := (sb.2 _ (Nat.ne_of_gt hlt)).trans hT
    have new : ObjOk X.prog X.w (upd H s.heap.objs.size (.tup [.ref q, v])) h'' s.heap.objs.size (.tup [.ref q, v]) :=
      ⟨by show 2 ≤ sizeLine; decide, [en.key, en.val], .cons hkey (.cons rv .nil), ⟨_, hT2, rfl, _, rfl⟩⟩
    have I1 : Inv X pins σ (upd H s.heap.objs.size (.tup [.ref q, v])) { s with heap := h'' } :=
      I.turnedNew (t' := s.toks) (ch := [it]) (fun b ob hb e => (sb.2 b (by simpa using hb)).trans (hk b ob (by simpa using hb) e)) hf (Nat.le_refl _) new
    refine ⟨.ref s.heap.objs.size, _, I1, rfl, ⟨_, k, v, q, hkv, rfl, I.hok.fresh (Nat.le_refl _), rfl, hq⟩, ⟨en.key, en.val, ?_⟩, fun b hb => ?_⟩
    · rw [← hsz]; exact he'
    · have e : b = it := by simpa using hb
      rw [e, upd_ne (Nat.ne_of_lt hlt)]
      exact (hf it (by simp)).1
  done := by
    intro X hP hw hK hc i pins s σ H E I hf st hg
    subst hP hw hK
    obtain ⟨hd, hi⟩ := hg
    obtain ⟨f0, f1, f2, f3, f4, f5⟩ := hf it (by simp)
    obtain ⟨hs, hgd, hx, es', ep', hdt, hsz, ent⟩ := frzT2 I hd
    obtain ⟨rfl, rfl⟩ := dict_ep hod hdt
    obtain ⟨ok, ov, he⟩ := st
    rw [← hsz] at he
    exact DT.endI (I.ok.hd hc) he ⟨o, hgd, hx, hdt⟩ (by omega) fun h' eb => ⟨rfl, I.turned (t' := s.toks) (fun b ob hb e => eb b ob hb e) f0 f1 f3 f4 f5⟩
  self := fun A i s Q E st h => let ⟨_, _, e⟩ := st; PySem.W.kcp_self e h
def iItemsT (td : TE) : TI := fun σ H R => td σ H fun x H1 => ∃ d o kvs, x = .ref d ∧ H1 d = some (.frz o (.dT kvs)) ∧ R (Itit d o kvs) H1
theorem pi_itemsT {e : Expr} {td : TE} {apos cpos : Pos} {elts : List Expr} {kk : Nat} {tpos : Pos} (he : PE X e td) (hbase : attributeBase e "items" X.env (eval e X.env) = eval e X.env) (hline : (apos.endLine == cpos.line) = true) :
    PI X (.Tuple elts kk tpos) (.Call (.Attribute e "items" apos) [] [] cpos) (iItemsT td) := by
  refine ⟨fun pins s σ H R I h => ?_⟩
  refine wpAny_Call_method (T := "dict") (id := "dict.items") hbase rfl hline F.plainAttrs_dict F.slot_dict_items F.type_dict_items (thn (he.run pins s σ H _ I h) fun u s1 ⟨x, H1, I1, rx, d, o, kvs, ex, hd, q⟩ => ?_)
  subst ex
  obtain rfl : u = Value.ref d := rx
  obtain ⟨hs, hgd, hx, es, ep, hdt, hsz, ent⟩ := frzT2 I1 hd
  have raw : DT.Raw s1.heap d es ep := ⟨o, hgd, hx, hdt⟩
  refine ⟨raw.typeIs, ?_, ?_⟩
  · intro a z
    cases z
    exact ⟨o, hgd, hx.2.1⟩
  have I2 : Inv X pins σ H1 { s1 with heap := s1.heap.push { cls := .type "dict_items", data := .fields #[.ref d] } } := I1.kept (t' := s1.toks) fun b ob q => Heap.get?_push_of_some _ q
  have fin : wpAny (model X.prog X.w) X.A (pyIter (.ref s1.heap.objs.size)) (PIE X pins σ (.Tuple elts kk tpos) R) X.xe { s1 with heap := s1.heap.push { cls := .type "dict_items", data := .fields #[.ref d] } } := by
    refine DT.iterI (d := d) ⟨_, Heap.get?_push_size _ rfl, rfl, rfl⟩ (raw.push _) (pi_one (tk := s1.toks) I2 _ (turn_itemsT _ hdt) ⟨.none, .none, ?_⟩ q)
    rw [← hsz]
    exact Heap.get?_push_size _ rfl
  show wpAny _ _ (callWith cpos (.builtin "dict.items") [.ref d] [] []) _ X.xe s1
  exact method_meetsIn F.slot_dict_items F.entry_dict_items rfl (PySem.evalArgs_none ⟨rfl, raw.typeIs, F.args_dict_items_1 _, _, DT.meetsItems (es := es) (ep := ep) hs, raw, fin⟩)
theorem walk_itemsT {d : Addr} {o : Obj} {kvs : List (List Key × V)} : Walk (Itit d o kvs) kvs.length (fun H => H d = some (.frz o (.dT kvs)))
    (fun i H x H' => ∃ T k v q, kvs[i]? = some (k, v) ∧ x = .ref T ∧ H T = none ∧ H' = upd H T (.tup [.ref q, v]) ∧ H q = some (.tup (k.map kV))) :=
  ⟨fun _ _ hi q => ⟨q, hi⟩, fun _ q => ⟨q, Nat.le_refl _⟩, fun _ _ _ _ _ _ y => y⟩
end
end Pv
set_option Elab.async false
set_option linter.all false
set_option maxRecDepth 100000
set_option maxHeartbeats 4000000
set_option autoImplicit false
namespace Pv
open PySem PySem.Spec PyProof.Rows L2
section
variable {Γ : Gam} {N : List Str} {sc : Scope} {κ κ1 κ2 κ3 : Kd} {G H G' H' G1 H1 : Hp} {v : V} {d : D}
/-! ### what is walked -/
def SemI (Γ : Gam) (wi : TI) (F : Env → Option (List D)) : Prop := ∀ (H0 : Hp) (ρ : Env) (σ : L2.St) (G H : Hp) (R : It → Hp → Prop) (items : List D), SL G H → EnvOk Γ H0 G H ρ σ → F ρ = some items →
  (∀ (J : It) (Gp : Hp → Prop) (Y : Nat → Hp → V → Hp → Prop) (G1 H1 : Hp), Grow G H G1 H1 → Walk J items.length Gp Y → (∀ G' H', SL G1 G' → SL G' H' → Gp H') →
    (∀ (i : Nat) (H2 : Hp) (x : V) (H3 G2 : Hp), i < items.length → SL G1 G2 → SL G2 H2 → Y i H2 x H3 → ∃ G3 d, items[i]? = some d ∧ Grow G2 H2 G3 H3 ∧ Rep Γ.K Γ.C G3 x d) → R J H1) → wi σ H R
structure DI (Γ : Gam) (N : List Str) (sc : Scope) (tg it : Expr) (F : Env → Option (List D)) : Prop where
  ex : ∃ wi, (∀ X, Good Γ N sc X → PI X tg it wi) ∧ SemI Γ wi F
theorem upd_self {H : Hp} {a : Addr} {o : HO} (h : H a = some o) : upd H a o = H := by
  funext b
  by_cases hb : b = a
  · subst hb; rw [upd_same, h]
  · rw [upd_ne hb]
theorem Grow.lock {a : Addr} {o : Obj} {u : HO} (g : Grow G H G1 H1) (hg : G1 a = some u) (du : Dct u) (hH : H1 a = some u ∨ H1 a = some (.frz o u)) : Grow G H (upd G1 a (.frz o u)) (upd H1 a (.frz o u)) := by
  have sG : SL G1 (upd G1 a (.frz o u)) := fun b w e => by
    by_cases hb : b = a
    · subst hb; rw [hg] at e; cases e; exact .inr ⟨du, o, upd_same⟩
    · rw [upd_ne hb]; exact .inl e
  have sH : SL H1 (upd H1 a (.frz o u)) := fun b w e => by
    by_cases hb : b = a
    · subst hb
      rcases hH with hH | hH
      · rw [hH] at e; cases e; exact .inr ⟨du, o, upd_same⟩
      · rw [hH] at e; cases e; exact .inl upd_same
    · rw [upd_ne hb]; exact .inl e
  have nt : ∀ vs, H1 a ≠ some (.tup vs) := fun vs e => by
    rcases hH with hH | hH
    · rw [hH] at e; cases e; exact du
    · rw [hH] at e; cases e
  refine ⟨g.g.trans sG, g.h.trans sH, fun b w e => ?_, fun b h1 h2 => ?_, fun b w h1 h2 => ?_⟩
  · by_cases hb : b = a
    · subst hb; rw [upd_same] at e ⊢; exact .inl e
    · rw [upd_ne hb] at e ⊢; exact g.s b w e
  · by_cases hb : b = a
    · subst hb; exact g.n b h1 (by rw [hg]; exact fun z => nomatch z)
    · rw [upd_ne hb] at h2; exact g.n b h1 h2
  · by_cases hb : b = a
    · subst hb
      rcases g.n b h1 (by rw [hg]; exact fun z => nomatch z) with q | ⟨vs, q⟩
      · rw [h2] at q; cases q
      · exact absurd (g.x b _ h1 q) (nt vs)
    · rw [upd_ne hb]; exact g.x b w h1 h2
/-- a key's tuple is shared -/
theorem Grow.key {a : Addr} {vs : List V} (s : SL G H) (h : H a = some (.tup vs)) : Grow G H (upd G a (.tup vs)) H := by
  refine ⟨fun b w e => ?_, SL.refl _, fun b w e => ?_, fun b h1 h2 => ?_, fun _ _ _ h => h⟩
  · by_cases hb : b = a
    · subst hb
      rcases s b w e with q | ⟨dw, od, q⟩
      · rw [h] at q; cases q; exact .inl upd_same
      · rw [h] at q; cases q
    · rw [upd_ne hb]; exact .inl e
  · by_cases hb : b = a
    · subst hb; rw [upd_same] at e; cases e; exact .inl h
    · rw [upd_ne hb] at e; exact s b w e
  · by_cases hb : b = a
    · subst hb; exact .inr ⟨vs, h⟩
    · rw [upd_ne hb] at h2; exact absurd h1 h2
def seqD : D → Option (List D)
  | .lst ds => some ds
  | .tup ds => some ds
  | .dct kds => some (kds.map fun p => .tup (p.1.map D.int))
  | .dci kds => some (kds.map fun p => .int p.1)
  | .str z => some (z.cps.toList.map fun c => .str ⟨#[c]⟩)
  | _ => none
def iseq (a : Env → Option D) : Env → Option (List D) := fun ρ => (a ρ).bind seqD
theorem kk_rep (k : List Int) : RepL Γ.K Γ.C G ((kk k).map kV) (k.map D.int) := by
  rw [List.map_map]
  exact RepL.ints k
theorem map_get {α β γ : Type} {f : α → γ} {g : β → γ} {xs : List α} {ys : List β} (e : xs.map f = ys.map g) {i : Nat} {x : α} (h : xs[i]? = some x) : ∃ y, ys[i]? = some y ∧ f x = g y := by
  have h1 : (xs.map f)[i]? = some (f x) := by rw [List.getElem?_map, h]; rfl
  rw [e, List.getElem?_map] at h1
  cases q : ys[i]? with
  | none => rw [q] at h1; cases h1
  | some y => rw [q] at h1; exact ⟨y, rfl, (Option.some.inj h1).symm⟩
theorem sem_keys {kvs : List (List Key × V)} {kds : List (List Int × D)} {a : Addr} {o : Obj} {R : It → Hp → Prop} (g1 : Grow G H G1 H1) (hG : G1 a = some (.frz o (.dT kvs))) (e : kvs.map Prod.fst = kds.map fun p => kk p.1)
    (q : ∀ (J : It) (Gp : Hp → Prop) (Y : Nat → Hp → V → Hp → Prop) (G1 H1 : Hp), Grow G H G1 H1 → Walk J (kds.map fun p => D.tup (p.1.map D.int)).length Gp Y → (∀ G' H', SL G1 G' → SL G' H' → Gp H') →
      (∀ (i : Nat) (H2 : Hp) (x : V) (H3 G2 : Hp), i < (kds.map fun p => D.tup (p.1.map D.int)).length → SL G1 G2 → SL G2 H2 → Y i H2 x H3 → ∃ G3 d, (kds.map fun p => D.tup (p.1.map D.int))[i]? = some d ∧ Grow G2 H2 G3 H3 ∧ Rep Γ.K Γ.C G3 x d) → R J H1) : R (Itkt a o kvs) H1 := by
  have hl : kvs.length = (kds.map fun p => D.tup (p.1.map D.int)).length := by
    have := congrArg List.length e
    simpa using this
  refine q _ _ _ G1 H1 g1 (hl ▸ walk_keysT) (fun G' H' s1 s2 => ?_) fun i H2 x H3 G2 hi s1 s2 y => ?_
  · exact (s1.trans s2).rd (.inr ⟨o, hG⟩) |> fun h => by
      rcases h with h | ⟨o', h⟩
      · rcases (s1.trans s2) a _ hG with q | ⟨d, _⟩
        · exact q
        · exact d.elim
      · rcases (s1.trans s2) a _ hG with q | ⟨d, _⟩
        · exact q
        · exact d.elim
  · obtain ⟨rfl, k, v, qd, hk, rfl, hq⟩ := y
    obtain ⟨p, hp, ek⟩ := map_get e hk
    have ek : k = kk p.1 := ek
    subst ek
    refine ⟨upd G2 qd (.tup ((kk p.1).map kV)), .tup (p.1.map D.int), by rw [List.getElem?_map, hp]; rfl, Grow.key s2 hq, .tup upd_same (kk_rep p.1)⟩
theorem sem_keysI {kvs : List (Key × V)} {kds : List (Int × D)} {a : Addr} {o : Obj} {R : It → Hp → Prop} (g1 : Grow G H G1 H1) (hG : G1 a = some (.frz o (.dK kvs))) (e : kvs.map Prod.fst = kds.map fun p => Sum.inl p.1)
    (q : ∀ (J : It) (Gp : Hp → Prop) (Y : Nat → Hp → V → Hp → Prop) (G1 H1 : Hp), Grow G H G1 H1 → Walk J (kds.map fun p => D.int p.1).length Gp Y → (∀ G' H', SL G1 G' → SL G' H' → Gp H') →
      (∀ (i : Nat) (H2 : Hp) (x : V) (H3 G2 : Hp), i < (kds.map fun p => D.int p.1).length → SL G1 G2 → SL G2 H2 → Y i H2 x H3 → ∃ G3 d, (kds.map fun p => D.int p.1)[i]? = some d ∧ Grow G2 H2 G3 H3 ∧ Rep Γ.K Γ.C G3 x d) → R J H1) : R (Itk a o kvs) H1 := by
  have hl : kvs.length = (kds.map fun p => D.int p.1).length := by
    have := congrArg List.length e
    simpa using this
  refine q _ _ _ G1 H1 g1 (hl ▸ walk_keys) (fun G' H' s1 s2 => ?_) fun i H2 x H3 G2 hi s1 s2 y => ?_
  · rcases (s1.trans s2) a _ hG with q | ⟨d, _⟩
    · exact q
    · exact d.elim
  · obtain ⟨rfl, k, v, hk, rfl⟩ := y
    obtain ⟨p, hp, ek⟩ := map_get e hk
    have ek : k = Sum.inl p.1 := ek
    subst ek
    exact ⟨G2, .int p.1, by rw [List.getElem?_map, hp]; rfl, Grow.refl s2, .int p.1⟩
abbrev iAny (K : PySem.W.Frag) (t : TE) : TI := fun σ H R => (fun σ H R => (fun σ H R => iList K t σ H R ∨ iTup K t σ H R) σ H R ∨ iKeys (tFrz t) σ H R) σ H R ∨ iStr t σ H R
theorem sem_seq {t : TE} {a : Env → Option D} (sa : SemV Γ .e t a) : SemI Γ (iAny Γ.K t) (iseq a) := fun H0 ρ σ G H R items s E e q => by
  unfold iseq at e
  cases ea : a ρ with
  | none => rw [ea] at e; cases e
  | some x =>
    rw [ea] at e
    have e : seqD x = some items := e
    cases x with
    | lst ds =>
      cases e
      refine .inl (.inl (.inl (sa H0 ρ σ G H _ _ s E ea fun G1 H1 v g1 o1 => ?_)))
      have o1 : Rep Γ.K Γ.C G1 v (.lst items) := o1
      cases o1 with
      | lst h1 h2 =>
        rename_i a vs
        refine ⟨a, rfl, ⟨vs, SqL.of (g1.s.lst h1)⟩, q _ _ _ G1 H1 g1 (h2.length ▸ walk_list) (fun G' H' s1 s2 => SqL.of (s2.lst (s1.lst h1))) fun i H2 x H3 G2 hi s1 s2 y => ?_⟩
        obtain ⟨rfl, y⟩ := y
        obtain ⟨d, hd, r⟩ := h2.get' y
        exact ⟨G2, d, hd, Grow.refl s2, r.mono s1⟩
    | tup ds =>
      cases e
      refine .inl (.inl (.inr (sa H0 ρ σ G H _ _ s E ea fun G1 H1 v g1 o1 => ?_)))
      have o1 : Rep Γ.K Γ.C G1 v (.tup items) := o1
      cases o1 with
      | tup h1 h2 =>
        rename_i a vs
        refine ⟨a, rfl, ⟨vs, SqT.of (g1.s.tup h1)⟩, q _ _ _ G1 H1 g1 (h2.length ▸ walk_tup) (fun G' H' s1 s2 => SqT.of (s2.tup (s1.tup h1))) fun i H2 x H3 G2 hi s1 s2 y => ?_⟩
        obtain ⟨rfl, y⟩ := y
        obtain ⟨d, hd, r⟩ := h2.get' y
        exact ⟨G2, d, hd, Grow.refl s2, r.mono s1⟩
    | dct kds =>
      cases e
      refine .inl (.inr (sa H0 ρ σ G H _ _ s E ea fun G1 H1 v g1 o1 => ?_))
      have o1 : Rep Γ.K Γ.C G1 v (.dct kds) := o1
      cases o1 with
      | dct h1 h2 h3 =>
        rename_i a kvs
        rcases h1 with h1 | ⟨o, h1⟩
        · rcases g1.s a _ h1 with h4 | ⟨_, od, h4⟩
          · exact .inl ⟨a, _, rfl, h4, trivial, fun o => ⟨a, o, rfl, .inr ⟨kvs, upd_same, sem_keys (g1.lock h1 trivial (.inl h4)) upd_same h2 q⟩⟩⟩
          · refine .inr ⟨a, od, rfl, .inr ⟨kvs, h4, ?_⟩⟩
            have g2 := g1.lock (o := od) h1 trivial (.inr h4)
            rw [upd_self h4] at g2
            exact sem_keys g2 upd_same h2 q
        · refine .inr ⟨a, o, rfl, .inr ⟨kvs, ?_, sem_keys g1 h1 h2 q⟩⟩
          rcases g1.s a _ h1 with h4 | ⟨d, _⟩
          · exact h4
          · exact d.elim
    | dci kds =>
      cases e
      refine .inl (.inr (sa H0 ρ σ G H _ _ s E ea fun G1 H1 v g1 o1 => ?_))
      have o1 : Rep Γ.K Γ.C G1 v (.dci kds) := o1
      cases o1 with
      | dci h1 h2 h3 =>
        rename_i a kvs
        rcases h1 with h1 | ⟨o, h1⟩
        · rcases g1.s a _ h1 with h4 | ⟨_, od, h4⟩
          · exact .inl ⟨a, _, rfl, h4, trivial, fun o => ⟨a, o, rfl, .inl ⟨kvs, upd_same, sem_keysI (g1.lock h1 trivial (.inl h4)) upd_same h2 q⟩⟩⟩
          · refine .inr ⟨a, od, rfl, .inl ⟨kvs, h4, ?_⟩⟩
            have g2 := g1.lock (o := od) h1 trivial (.inr h4)
            rw [upd_self h4] at g2
            exact sem_keysI g2 upd_same h2 q
        · refine .inr ⟨a, o, rfl, .inl ⟨kvs, ?_, sem_keysI g1 h1 h2 q⟩⟩
          rcases g1.s a _ h1 with h4 | ⟨d, _⟩
          · exact h4
          · exact d.elim
    | str z =>
      cases e
      refine .inr (sa H0 ρ σ G H _ _ s E ea fun G1 H1 v g1 o1 => ?_)
      have o1 : Rep Γ.K Γ.C G1 v (.str z) := o1
      cases o1
      have hl : z.cps.size = (z.cps.toList.map fun c => D.str ⟨#[c]⟩).length := by rw [List.length_map, Array.length_toList]
      refine ⟨z, rfl, q _ _ _ G1 H1 g1 (hl ▸ walk_str) (fun G' H' s1 s2 => trivial) fun i H2 x H3 G2 hi s1 s2 y => ?_⟩
      obtain ⟨rfl, c, hc, rfl⟩ := y
      refine ⟨G2, .str ⟨#[c]⟩, ?_, Grow.refl s2, .str _⟩
      rw [List.getElem?_map, Array.getElem?_toList, hc]; rfl
    | _ => cases e
theorem i_seq {tg it : Expr} {a : Env → Option D} (ha : DV Γ N sc .e it a) : DI Γ N sc tg it (iseq a) := by
  obtain ⟨t, p, sa⟩ := ha.ex
  exact ⟨iAny Γ.K t, fun X g => g.K ▸ PI.or (PI.or (PI.or (pi_list (p X g)) (pi_tup (p X g))) (pi_keys (pe_frz (p X g)))) (pi_str (p X g)), sem_seq sa⟩
/-- d.items() -/
def itemsD : D → Option (List D)
  | .dct kds => some (kds.map fun p => .tup [.tup (p.1.map D.int), p.2])
  | _ => none
def iitems (a : Env → Option D) : Env → Option (List D) := fun ρ => (a ρ).bind itemsD
theorem sem_items1 {kvs : List (List Key × V)} {kds : List (List Int × D)} {a : Addr} {o : Obj} {R : It → Hp → Prop} (g1 : Grow G H G1 H1) (hG : G1 a = some (.frz o (.dT kvs))) (e : kvs.map Prod.fst = kds.map fun p => kk p.1)
    (r : RepL Γ.K Γ.C G1 (kvs.map Prod.snd) (kds.map Prod.snd))
    (q : ∀ (J : It) (Gp : Hp → Prop) (Y : Nat → Hp → V → Hp → Prop) (G1 H1 : Hp), Grow G H G1 H1 → Walk J (kds.map fun p => D.tup [.tup (p.1.map D.int), p.2]).length Gp Y → (∀ G' H', SL G1 G' → SL G' H' → Gp H') →
      (∀ (i : Nat) (H2 : Hp) (x : V) (H3 G2 : Hp), i < (kds.map fun p => D.tup [.tup (p.1.map D.int), p.2]).length → SL G1 G2 → SL G2 H2 → Y i H2 x H3 → ∃ G3 d, (kds.map fun p => D.tup [.tup (p.1.map D.int), p.2])[i]? = some d ∧ Grow G2 H2 G3 H3 ∧ Rep Γ.K Γ.C G3 x d) → R J H1) : R (Itit a o kvs) H1 := by
  have hl : kvs.length = (kds.map fun p => D.tup [.tup (p.1.map D.int), p.2]).length := by
    have := congrArg List.length e
    simpa using this
  refine q _ _ _ G1 H1 g1 (hl ▸ walk_itemsT) (fun G' H' s1 s2 => ?_) fun i H2 x H3 G2 hi s1 s2 y => ?_
  · rcases (s1.trans s2) a _ hG with q | ⟨d, _⟩
    · exact q
    · exact d.elim
  · obtain ⟨T, k, v, qd, hk, rfl, hT, rfl, hq⟩ := y
    obtain ⟨p, hp, ek⟩ := map_get e hk
    have ek : k = kk p.1 := ek
    subst ek
    have hv : (kvs.map Prod.snd)[i]? = some v := by rw [List.getElem?_map, hk]; rfl
    obtain ⟨d, hd, rd⟩ := r.get' hv
    rw [List.getElem?_map, hp] at hd
    cases hd
    have g3 : Grow G2 H2 (upd G2 qd (.tup ((kk p.1).map kV))) H2 := Grow.key s2 hq
    have g4 := g3.trans (Grow.new (o := .tup [.ref qd, v]) g3.s hT)
    have hTG : (upd G2 qd (.tup ((kk p.1).map kV))) T = none := g3.s.free hT
    refine ⟨_, .tup [.tup (p.1.map D.int), p.2], by rw [List.getElem?_map, hp]; rfl, g4, .tup upd_same (.cons ?_ (.cons ?_ .nil))⟩
    · exact (Rep.tup (K := Γ.K) (C := Γ.C) (G := upd G2 qd (.tup ((kk p.1).map kV))) upd_same (kk_rep p.1)).mono (SL.new hTG)
    · exact rd.mono (s1.trans g4.g)
theorem sem_items {t : TE} {a : Env → Option D} (sa : SemV Γ .e t a) : SemI Γ (iItemsT (tFrz t)) (iitems a) := fun H0 ρ σ G H R items s E e q => by
  unfold iitems at e
  cases ea : a ρ with
  | none => rw [ea] at e; cases e
  | some x =>
    rw [ea] at e
    have e : itemsD x = some items := e
    cases x with
    | dct kds =>
      cases e
      refine sa H0 ρ σ G H _ _ s E ea fun G1 H1 v g1 o1 => ?_
      have o1 : Rep Γ.K Γ.C G1 v (.dct kds) := o1
      cases o1 with
      | dct h1 h2 h3 =>
        rename_i a kvs
        rcases h1 with h1 | ⟨o, h1⟩
        · rcases g1.s a _ h1 with h4 | ⟨_, od, h4⟩
          · refine .inl ⟨a, _, rfl, h4, trivial, fun o => ⟨a, o, kvs, rfl, upd_same, ?_⟩⟩
            have g2 := g1.lock (o := o) h1 trivial (.inl h4)
            have sG : SL G1 (upd G1 a (.frz o (.dT kvs))) := ((Grow.refl g1.s).lock (o := o) h1 trivial (.inl h4)).g
            exact sem_items1 g2 upd_same h2 (h3.mono sG) q
          · refine .inr ⟨a, od, kvs, rfl, h4, ?_⟩
            have g2 := g1.lock (o := od) h1 trivial (.inr h4)
            have sG : SL G1 (upd G1 a (.frz od (.dT kvs))) := ((Grow.refl g1.s).lock (o := od) h1 trivial (.inr h4)).g
            rw [upd_self h4] at g2
            exact sem_items1 g2 upd_same h2 (h3.mono sG) q
        · refine .inr ⟨a, o, kvs, rfl, ?_, sem_items1 g1 h1 h2 h3 q⟩
          rcases g1.s a _ h1 with h4 | ⟨d, _⟩
          · exact h4
          · exact d.elim
    | _ => cases e
theorem i_items {e : Expr} {a : Env → Option D} {apos cpos : Pos} {elts : List Expr} {k1 : Nat} {tpos : Pos} (ha : DV Γ N sc .e e a) (hb : ∀ env : PySem.Env, attributeBase e "items" env (eval e env) = eval e env := by exact fun _ => rfl) (hl : (apos.endLine == cpos.line) = true := by rfl) :
    DI Γ N sc (.Tuple elts k1 tpos) (.Call (.Attribute e "items" apos) [] [] cpos) (iitems a) := by
  obtain ⟨t, p, sa⟩ := ha.ex
  exact ⟨_, fun X g => pi_itemsT (pe_frz (p X g)) (hb _) hl, sem_items sa⟩
/-- range -/
def rangeL (lo hi : Int) : List D := (List.range (hi - lo).toNat).map fun i => .int (lo + (i : Nat))
def irange1 (a : Env → Option D) : Env → Option (List D) := fun ρ => (a ρ).bind fun x => match x with
  | .int j => if -(2 ^ 40) ≤ j ∧ j < 2 ^ 40 then some (rangeL 0 j) else none
  | _ => none
def irange2 (a b : Env → Option D) : Env → Option (List D) := fun ρ => (a ρ).bind fun x => (b ρ).bind fun y => match x, y with
  | .int i, .int j => if -(2 ^ 40) ≤ i ∧ i < 2 ^ 40 ∧ -(2 ^ 40) ≤ j ∧ j < 2 ^ 40 then some (rangeL i j) else none
  | _, _ => none
theorem sem_range {lo : Int} {n : Nat} {R : It → Hp → Prop} {items : List D} (g1 : Grow G H G1 H1) (hl : items = (List.range n).map fun i => D.int (lo + (i : Nat)))
    (q : ∀ (J : It) (Gp : Hp → Prop) (Y : Nat → Hp → V → Hp → Prop) (G1 H1 : Hp), Grow G H G1 H1 → Walk J items.length Gp Y → (∀ G' H', SL G1 G' → SL G' H' → Gp H') →
      (∀ (i : Nat) (H2 : Hp) (x : V) (H3 G2 : Hp), i < items.length → SL G1 G2 → SL G2 H2 → Y i H2 x H3 → ∃ G3 d, items[i]? = some d ∧ Grow G2 H2 G3 H3 ∧ Rep Γ.K Γ.C G3 x d) → R J H1) : R (Itr lo n) H1 := by
  subst hl
  have hn : n = ((List.range n).map fun i => D.int (lo + (i : Nat))).length := by rw [List.length_map, List.length_range]
  have w : Walk (Itr lo n) ((List.range n).map fun i => D.int (lo + (i : Nat))).length (fun _ => True) (YFn fun i => .int (lo + (i : Nat))) := by
    have := walk_range (lo := lo) (n := n)
    rwa [← hn]
  refine q _ _ _ G1 H1 g1 w (fun G' H' s1 s2 => trivial) fun i H2 x H3 G2 hi s1 s2 y => ?_
  obtain ⟨rfl, rfl⟩ := y
  refine ⟨G2, .int (lo + (i : Nat)), ?_, Grow.refl s2, .int _⟩
  rw [← hn] at hi
  rw [List.getElem?_map, List.getElem?_range hi]; rfl
theorem i_range1 {tg e : Expr} {a : Env → Option D} {p pos : Pos} (hg : glB sc "range" = true) (hm : Γ.mg "range" = none) (ha : DV Γ N sc κ e a) (hs : Pl1 e [] := by exact fun _ => rfl) : DI Γ N sc tg (.Call (.Name "range" p) [e] [] pos) (irange1 a) := by
  obtain ⟨t, pt, sa⟩ := ha.ex
  refine ⟨_, fun X g => pi_range1 (gl_of g hg) (by rw [g.mg]; exact hm) (pa_cons (pt X g) pa_nil (hs _)) (hs _), fun H0 ρ σ G H R items s E e q => ?_⟩
  unfold irange1 at e
  cases ea : a ρ with
  | none => rw [ea] at e; cases e
  | some x =>
    rw [ea] at e
    cases x <;> try cases e
    rename_i j
    have e : (if -(2 ^ 40) ≤ j ∧ j < 2 ^ 40 then some (rangeL 0 j) else none) = some items := e
    split at e
    · rename_i hc
      cases e
      refine sa H0 ρ σ G H _ _ s E ea fun G1 H1 v g1 o1 => ⟨j, by rw [o1.b.int], by omega, by omega, sem_range g1 (by unfold rangeL; rw [Int.sub_zero]) q⟩
    · cases e
theorem i_range2 {tg e e2 : Expr} {a b : Env → Option D} {p pos : Pos} (hg : glB sc "range" = true) (hm : Γ.mg "range" = none) (ha : DV Γ N sc κ1 e a) (hb : DV Γ N sc κ2 e2 b) (hs : Pl1 e [e2] := by exact fun _ => rfl) (hs2 : Pl1 e2 [] := by exact fun _ => rfl) : DI Γ N sc tg (.Call (.Name "range" p) [e, e2] [] pos) (irange2 a b) := by
  obtain ⟨t, pt, sa⟩ := ha.ex
  obtain ⟨t2, pt2, sb⟩ := hb.ex
  refine ⟨_, fun X g => pi_range2 (gl_of g hg) (by rw [g.mg]; exact hm) (pa_cons (pt X g) (pa_cons (pt2 X g) pa_nil (hs2 _)) (hs _)) (by rw [hs, hs2]; rfl) (hs2 _), fun H0 ρ σ G H R items s E e q => ?_⟩
  unfold irange2 at e
  cases ea : a ρ with
  | none => rw [ea] at e; cases e
  | some x =>
    cases eb : b ρ with
    | none => simp only [ea, eb, Option.bind_some] at e; cases e
    | some y =>
      simp only [ea, eb, Option.bind_some] at e
      split at e
      · rename_i i j
        split at e
        · rename_i hc
          cases e
          refine sa H0 ρ σ G H _ _ s E ea fun G1 H1 v g1 o1 => ?_
          refine sb H0 ρ σ G1 H1 _ _ g1.s (E.grow g1) eb fun G2 H2 w g2 o2 => ?_
          exact ⟨i, j, by rw [o1.b.int, o2.b.int], by omega, sem_range (g1.trans g2) rfl q⟩
        · cases e
      · cases e
/-- enumerate, zip -/
def numL (ds : List D) (k : Nat) : List D := match ds with
  | [] => []
  | d :: r => .tup [.int (k : Int), d] :: numL r (k + 1)
theorem numL_length : ∀ (ds : List D) (k : Nat), (numL ds k).length = ds.length
  | [], _ => rfl
  | _ :: r, k => congrArg (· + 1) (numL_length r (k + 1))
theorem numL_get : ∀ (ds : List D) (k i : Nat), (numL ds k)[i]? = (ds[i]?).map fun d => D.tup [.int ((k + i : Nat) : Int), d]
  | [], _, _ => by simp [numL]
  | d :: r, k, 0 => by simp [numL]
  | d :: r, k, i + 1 => by
    show (numL r (k + 1))[i]? = _
    rw [numL_get r (k + 1) i, show k + 1 + i = k + (i + 1) by omega]
    rfl
def enumD : D → Option (List D)
  | .lst ds => some (numL ds 0)
  | .tup ds => some (numL ds 0)
  | _ => none
def ienum (a : Env → Option D) : Env → Option (List D) := fun ρ => (a ρ).bind enumD
theorem pair_step {G2 H2 : Hp} {T : Addr} {x y : V} {dx dy : D} (s2 : SL G2 H2) (hT : H2 T = none) (r1 : Rep Γ.K Γ.C G2 x dx) (r2 : Rep Γ.K Γ.C G2 y dy) : Grow G2 H2 (upd G2 T (.tup [x, y])) (upd H2 T (.tup [x, y])) ∧ Rep Γ.K Γ.C (upd G2 T (.tup [x, y])) (.ref T) (.tup [dx, dy]) :=
  ⟨Grow.new s2 hT, .tup upd_same (.cons (r1.mono (SL.new (s2.free hT))) (.cons (r2.mono (SL.new (s2.free hT))) .nil))⟩
theorem i_enum {e : Expr} {a : Env → Option D} {p pos : Pos} {elts : List Expr} {k1 : Nat} {tpos : Pos} (hg : glB sc "enumerate" = true) (hm : Γ.mg "enumerate" = none) (ha : DV Γ N sc .e e a) (hs : Pl1 e [] := by exact fun _ => rfl) :
    DI Γ N sc (.Tuple elts k1 tpos) (.Call (.Name "enumerate" p) [e] [] pos) (ienum a) := by
  obtain ⟨t, pt, sa⟩ := ha.ex
  refine ⟨fun σ H R => iEnum Γ.K (tCons t tNil) σ H R ∨ iEnumT Γ.K (tCons t tNil) σ H R, fun X g => g.K ▸ PI.or (pi_enum (gl_of g hg) (by rw [g.mg]; exact hm) (pa_cons (pt X g) pa_nil (hs _)) (hs _)) (pi_enumT (gl_of g hg) (by rw [g.mg]; exact hm) (pa_cons (pt X g) pa_nil (hs _)) (hs _)), fun H0 ρ σ G H R items s E e q => ?_⟩
  unfold ienum at e
  cases ea : a ρ with
  | none => rw [ea] at e; cases e
  | some x =>
    rw [ea] at e
    cases x <;> try cases e
    · rename_i ds
      refine .inr (sa H0 ρ σ G H _ _ s E ea fun G1 H1 v g1 o1 => ?_)
      have o1 : Rep Γ.K Γ.C G1 v (.tup ds) := o1
      cases o1 with
      | tup h1 h2 =>
        rename_i a vs
        refine ⟨a, vs, rfl, SqT.of (g1.s.tup h1), q _ _ _ G1 H1 g1 (by rw [numL_length, ← h2.length]; exact walk_enumT) (fun G' H' s1 s2 => SqT.of (s2.tup (s1.tup h1))) fun i H2 x H3 G2 hi s1 s2 y => ?_⟩
        obtain ⟨T, x1, x2, rfl, hT, rfl, e1, e2⟩ := y
        cases e1
        obtain ⟨d, hd, r⟩ := h2.get' e2
        obtain ⟨g3, r3⟩ := pair_step s2 hT (.int (i : Nat)) (r.mono s1)
        exact ⟨_, _, by rw [numL_get, hd, Nat.zero_add]; rfl, g3, r3⟩
    · rename_i ds
      refine .inl (sa H0 ρ σ G H _ _ s E ea fun G1 H1 v g1 o1 => ?_)
      have o1 : Rep Γ.K Γ.C G1 v (.lst ds) := o1
      cases o1 with
      | lst h1 h2 =>
        rename_i a vs
        refine ⟨a, vs, rfl, SqL.of (g1.s.lst h1), q _ _ _ G1 H1 g1 (by rw [numL_length, ← h2.length]; exact walk_enum) (fun G' H' s1 s2 => SqL.of (s2.lst (s1.lst h1))) fun i H2 x H3 G2 hi s1 s2 y => ?_⟩
        obtain ⟨T, x1, x2, rfl, hT, rfl, e1, e2⟩ := y
        cases e1
        obtain ⟨d, hd, r⟩ := h2.get' e2
        obtain ⟨g3, r3⟩ := pair_step s2 hT (.int (i : Nat)) (r.mono s1)
        exact ⟨_, _, by rw [numL_get, hd, Nat.zero_add]; rfl, g3, r3⟩
def zipL : List D → List D → List D
  | x :: xs, y :: ys => .tup [x, y] :: zipL xs ys
  | _, _ => []
theorem zipL_length : ∀ (xs ys : List D), (zipL xs ys).length = min xs.length ys.length
  | [], _ => by simp [zipL]
  | _ :: _, [] => by simp [zipL]
  | x :: xs, y :: ys => by simp [zipL, zipL_length xs ys]
theorem zipL_get : ∀ {xs ys : List D} {i : Nat} {x y : D}, xs[i]? = some x → ys[i]? = some y → (zipL xs ys)[i]? = some (.tup [x, y])
  | [], _, _, _, _, h, _ => by simp at h
  | _ :: _, [], _, _, _, _, h => by simp at h
  | a :: xs, b :: ys, 0, x, y, h1, h2 => by simp at h1 h2; subst h1; subst h2; rfl
  | a :: xs, b :: ys, i + 1, x, y, h1, h2 => zipL_get (xs := xs) (ys := ys) (by simpa using h1) (by simpa using h2)
def izip (a b : Env → Option D) : Env → Option (List D) := fun ρ => (a ρ).bind fun x => (b ρ).bind fun y => match x, y with
  | .lst xs, .lst ys => some (zipL xs ys)
  | _, _ => none
theorem i_zip {e e2 : Expr} {a b : Env → Option D} {p pos : Pos} {elts : List Expr} {k1 : Nat} {tpos : Pos} (hg : glB sc "zip" = true) (hm : Γ.mg "zip" = none) (ha : DV Γ N sc .e e a) (hb : DV Γ N sc .e e2 b) (hs : Pl1 e [e2] := by exact fun _ => rfl) (hs2 : Pl1 e2 [] := by exact fun _ => rfl) :
    DI Γ N sc (.Tuple elts k1 tpos) (.Call (.Name "zip" p) [e, e2] [] pos) (izip a b) := by
  obtain ⟨t, pt, sa⟩ := ha.ex
  obtain ⟨t2, pt2, sb⟩ := hb.ex
  refine ⟨iZip Γ.K (tCons t (tCons t2 tNil)), fun X g => g.K ▸ pi_zip (gl_of g hg) (by rw [g.mg]; exact hm) (pa_cons (pt X g) (pa_cons (pt2 X g) pa_nil (hs2 _)) (hs _)) (hs _) (by rw [hs2]; rfl), fun H0 ρ σ G H R items s E e q => ?_⟩
  unfold izip at e
  cases ea : a ρ with
  | none => rw [ea] at e; cases e
  | some x =>
    cases eb : b ρ with
    | none => simp only [ea, eb, Option.bind_some] at e; cases e
    | some y =>
      simp only [ea, eb, Option.bind_some] at e
      split at e
      case h_2 => cases e
      rename_i xs ys
      cases e
      refine sa H0 ρ σ G H _ _ s E ea fun G1 H1 v g1 o1 => ?_
      have o1 : Rep Γ.K Γ.C G1 v (.lst xs) := o1
      cases o1 with
      | lst h1 h2 =>
        rename_i a vs
        refine sb H0 ρ σ G1 H1 _ _ g1.s (E.grow g1) eb fun G2 H2 w g2 o2 => ?_
        have o2 : Rep Γ.K Γ.C G2 w (.lst ys) := o2
        cases o2 with
        | lst h3 h4 =>
          rename_i b ws
          have h1' := g2.g.lst h1
          have h2' := h2.mono g2.g
          refine ⟨a, b, vs, ws, rfl, SqL.of (g2.s.lst h1'), SqL.of (g2.s.lst h3), q _ _ _ G2 H2 (g1.trans g2) (walk_zip (by rw [zipL_length, h2'.length, h4.length])) (fun G' H' s1 s2 => ⟨SqL.of (s2.lst (s1.lst h1')), SqL.of (s2.lst (s1.lst h3))⟩) fun i H3 x H4 G3 hi s1 s2 y => ?_⟩
          obtain ⟨T, x1, x2, rfl, hT, rfl, e1, e2⟩ := y
          obtain ⟨d1, hd1, r1⟩ := h2'.get' e1
          obtain ⟨d2, hd2, r2⟩ := h4.get' e2
          obtain ⟨g5, r5⟩ := pair_step s2 hT (r1.mono s1) (r2.mono s1)
          exact ⟨_, _, zipL_get hd1 hd2, g5, r5⟩
end
end Pv
set_option Elab.async false
set_option linter.all false
set_option maxRecDepth 100000
set_option maxHeartbeats 4000000
set_option autoImplicit false
namespace Pv
open PySem PySem.Spec PyProof.Rows L2
section
variable {Γ : Gam} {N : List Str} {sc : Scope} {κ κ1 κ2 κ3 : Kd} {G H G' H' G1 H1 : Hp} {v : V} {d : D}
/-! ### targets -/
def setL (σ : L2.St) : List Nat → List V → L2.St
  | i :: is, v :: vs => setL (σ.set i (some v)) is vs
  | _, _ => σ
def setE (ρ : Env) : List Nat → List D → Env
  | i :: is, d :: ds => setE (ρ.set i (.sh d)) is ds
  | _, _ => ρ
/-- one name, or as many as a tuple has items -/
inductive Pat where
  | one (i : Nat)
  | tup (is : List Nat)
def Pat.is : Pat → List Nat
  | .one i => [i]
  | .tup is => is
def bindP (p : Pat) (d : D) (ρ : Env) : Option Env := match p, d with
  | .one i, d => some (ρ.set i (.sh d))
  | .tup is, .tup ds => if ds.length = is.length then some (setE ρ is ds) else none
  | _, _ => none
def SemG (Γ : Gam) (g : TG) (p : Pat) : Prop := ∀ (H0 : Hp) (ρ ρ' : Env) (σ : L2.St) (G H : Hp) (v : V) (d : D) (Q : L2.St → Hp → Prop), SL G H → EnvOk Γ H0 G H ρ σ → bindP p d ρ = some ρ' → Rep Γ.K Γ.C G v d →
  (∀ vs, EnvOk Γ H0 G H ρ' (setL σ p.is vs) → Q (setL σ p.is vs) H) → g v σ H Q
structure DG (Γ : Gam) (N : List Str) (sc : Scope) (top : Bool) (tg : Expr) (p : Pat) : Prop where
  ex : ∃ g, (∀ X, Good Γ N sc X → (top = true → ∀ x, X.fn x = true) → PG X tg g) ∧ SemG Γ g p
structure DGs (Γ : Gam) (N : List Str) (sc : Scope) (top : Bool) (tgs : List Expr) (is : List Nat) : Prop where
  ex : ∃ g, (∀ X, Good Γ N sc X → (top = true → ∀ x, X.fn x = true) → PGs X tgs g) ∧ ∀ (H0 : Hp) (ρ : Env) (σ : L2.St) (G H : Hp) (vs : List V) (ds : List D) (Q : L2.St → Hp → Prop), SL G H → EnvOk Γ H0 G H ρ σ → ds.length = is.length → RepL Γ.K Γ.C G vs ds →
    (EnvOk Γ H0 G H (setE ρ is ds) (setL σ is vs) → Q (setL σ is vs) H) → g vs σ H Q
/-- top: in a def's own block any name; else a plain local -/
def bndB (sc : Scope) (top : Bool) (x : Str) : Bool := if top then locB sc x else lclB sc x
theorem pg_nm {top : Bool} {X : Cx} {i : Nat} {x : Str} {pos : Pos} (g : Good Γ N sc X) (nd : N.Nodup) (hN : N[i]? = some x) (hb : bndB sc top x = true) (ht : top = true → ∀ x, X.fn x = true) : PG X (.Name x pos) (gName i) := by
  cases top with
  | true =>
    have hb : locB sc x = true := hb
    exact pg_name (by rw [g.N]; exact nd) (by rw [g.N]; exact hN) (by rw [g.sc]; exact loc_of hb) (.inl (ht rfl x))
  | false =>
    have hb : lclB sc x = true := hb
    have hl := lcl_of hb
    exact pg_name (by rw [g.N]; exact nd) (by rw [g.N]; exact hN) (by rw [g.sc]; exact .inl hl) (.inr (by rw [g.sc]; exact hl))
theorem g_one {top : Bool} {i : Nat} {x : Str} {pos : Pos} (nd : N.Nodup) (hN : N[i]? = some x) (hb : bndB sc top x = true) : DG Γ N sc top (.Name x pos) (.one i) := by
  refine ⟨gName i, fun X g ht => pg_nm g nd hN hb ht, fun H0 ρ ρ' σ G H v d Q s E e r q => ?_⟩
  cases e
  exact q [v] (E.setSh r)
theorem gs_nil {top : Bool} : DGs Γ N sc top [] [] := ⟨gNil, fun X _ _ => pgs_nil, fun H0 ρ σ G H vs ds Q s E hl r q => by
  cases ds with
  | nil => cases r; exact ⟨rfl, q E⟩
  | cons _ _ => cases hl⟩
theorem gs_cons {top : Bool} {i : Nat} {is : List Nat} {x : Str} {pos : Pos} {tgs : List Expr} (nd : N.Nodup) (hN : N[i]? = some x) (hb : bndB sc top x = true) (h : DGs Γ N sc top tgs is)
    (hs : ∀ env : PySem.Env, (assignEach (.Name x pos :: tgs) env).map (·.2) = assign (.Name x pos) env :: (assignEach tgs env).map (·.2) := by exact fun _ => rfl) : DGs Γ N sc top (.Name x pos :: tgs) (i :: is) := by
  obtain ⟨g, p, sm⟩ := h.ex
  refine ⟨gCons (gName i) g, fun X gX ht => pgs_cons (pg_nm gX nd hN hb ht) (p X gX ht) (hs _), fun H0 ρ σ G H vs ds Q s E hl r q => ?_⟩
  cases r with
  | nil => cases hl
  | cons r1 r2 => exact ⟨_, _, rfl, sm H0 _ _ G H _ _ Q s (E.setSh r1) (Nat.succ.inj hl) r2 q⟩
theorem g_tup {top : Bool} {is : List Nat} {es : List Expr} {k : Nat} {pos : Pos} (h : DGs Γ N sc top es is) (hn : ∀ env : PySem.Env, (assignEach es env).length = is.length := by exact fun _ => rfl) (hst : ∀ env : PySem.Env, (assignEach es env).findIdx? (·.1) = none := by exact fun _ => rfl) :
    DG Γ N sc top (.Tuple es k pos) (.tup is) := by
  obtain ⟨g, p, sm⟩ := h.ex
  refine ⟨gTup Γ.K is.length g, fun X gX ht => gX.K ▸ pg_tup gX.calm (p X gX ht) (hn _) (hst _), fun H0 ρ ρ' σ G H v d Q s E e r q => ?_⟩
  cases d <;> try cases e
  rename_i ds
  have e : (if ds.length = is.length then some (setE ρ is ds) else none) = some ρ' := e
  split at e
  · rename_i hl
    cases e
    cases r with
    | tup h1 h2 => exact ⟨_, _, rfl, SqT.of (s.tup h1), h2.length.trans hl, sm H0 ρ σ G H _ ds Q s E hl h2 fun E' => q _ E'⟩
  · cases e
/-! ### comprehensions -/
def wipeE (ρ : Env) : List Nat → Env
  | [] => ρ
  | v :: vs => (wipeE ρ vs).set v .no
theorem EnvOk.setNo {H0 : Hp} {ρ : Env} {σ : L2.St} (E : EnvOk Γ H0 G H ρ σ) (i : Nat) : EnvOk Γ H0 G H (ρ.set i .no) (σ.set i none) := by
  have hget : ∀ {j s}, (ρ.set i .no)[j]? = some s → s = .no ∨ (j ≠ i ∧ ρ[j]? = some s) := fun {j s} h => by
    by_cases hj : i = j
    · subst hj
      by_cases hl : i < ρ.length
      · rw [List.getElem?_set_self hl] at h; cases h; exact .inl rfl
      · rw [List.getElem?_eq_none (by simpa using hl)] at h; cases h
    · rw [List.getElem?_set_ne hj] at h
      exact .inr ⟨Ne.symm hj, h⟩
  refine ⟨by rw [List.length_set, List.length_set]; exact E.len, fun j s h => ?_, fun j k d1 d2 a h1 h2 h3 h4 h5 => ?_⟩
  · rcases hget h with rfl | ⟨hj, h⟩
    · trivial
    · rw [List.getElem?_set_ne (Ne.symm hj)]; exact E.sl j s h
  · rcases hget h2 with e | ⟨hj, h2'⟩
    · cases e
    · rcases hget h3 with e | ⟨hk, h3'⟩
      · cases e
      · rw [List.getElem?_set_ne (Ne.symm hj)] at h4
        rw [List.getElem?_set_ne (Ne.symm hk)] at h5
        exact E.ne j k d1 d2 a h1 h2' h3' h4 h5
theorem EnvOk.wipe {H0 : Hp} {ρ : Env} {σ : L2.St} (E : EnvOk Γ H0 G H ρ σ) : ∀ vs : List Nat, EnvOk Γ H0 G H (wipeE ρ vs) (wipe σ vs)
  | [] => E
  | v :: vs => (E.wipe vs).setNo v
theorem wipe_set {x : Option V} : ∀ (vs : List Nat) (σ : L2.St) (i : Nat), i ∈ vs → wipe (σ.set i x) vs = wipe σ vs
  | [], _, _, h => by cases h
  | v :: vs, σ, i, h => by
    show (wipe (σ.set i x) vs).set v none = (wipe σ vs).set v none
    by_cases hi : i ∈ vs
    · rw [wipe_set vs σ i hi]
    · have e : i = v := by
        rcases List.mem_cons.mp h with e | e
        · exact e
        · exact absurd e hi
      subst e
      have go : ∀ (us : List Nat) (τ : L2.St), i ∉ us → wipe (τ.set i x) us = (wipe τ us).set i x := fun us => by
        induction us with
        | nil => intro τ _; rfl
        | cons u us ih =>
          intro τ hn
          show (wipe (τ.set i x) us).set u none = ((wipe τ us).set u none).set i x
          rw [ih τ fun z => hn (List.mem_cons_of_mem _ z), List.set_comm _ _ (show i ≠ u from fun z => hn (by rw [z]; exact List.mem_cons_self))]
      rw [go vs σ hi, List.set_set]
theorem wipe_setL : ∀ (is : List Nat) (xs : List V) (σ : L2.St) (vs : List Nat), (∀ i ∈ is, i ∈ vs) → wipe (setL σ is xs) vs = wipe σ vs
  | [], _, _, _, _ => rfl
  | _ :: _, [], _, _, _ => rfl
  | i :: is, x :: xs, σ, vs, h => by
    show wipe (setL (σ.set i (some x)) is xs) vs = _
    rw [wipe_setL is xs _ vs fun j hj => h j (List.mem_cons_of_mem _ hj), wipe_set vs σ i (h i List.mem_cons_self)]
theorem wipe_wipe (σ : L2.St) (vs : List Nat) : ∀ us : List Nat, (∀ i ∈ us, i ∈ vs) → wipe (wipe σ us) vs = wipe σ vs
  | [], _ => rfl
  | u :: us, h => by
    show wipe ((wipe σ us).set u none) vs = _
    rw [wipe_set vs _ u (h u List.mem_cons_self), wipe_wipe σ vs us fun j hj => h j (List.mem_cons_of_mem _ hj)]
structure DTs (Γ : Gam) (N : List Str) (sc : Scope) (es : List Expr) (F : Env → Option Bool) : Prop where
  ex : ∃ t, (∀ X, Good Γ N sc X → PTs X es t) ∧ SemT Γ t F
def tyes : Env → Option Bool := fun _ => some true
theorem ts_nil : DTs Γ N sc [] tyes := ⟨tYes, fun X _ => pts_nil, fun H0 ρ σ G H Q c s E e q => by cases e; exact q G H (Grow.refl s)⟩
theorem ts_one {e : Expr} {a : Env → Option Bool} (h : DT Γ N sc e a) : DTs Γ N sc [e] a := let ⟨t, p, s⟩ := h.ex; ⟨t, fun X g => pts_one (p X g), s⟩
def lcGo (p : Pat) (T : Env → Option Bool) (E : Env → Option D) (ρ : Env) : List D → Option (List D)
  | [] => some []
  | x :: xs => (bindP p x ρ).bind fun ρ1 => (T ρ1).bind fun c => if c then (E ρ1).bind fun y => (lcGo p T E ρ xs).bind fun ys => some (y :: ys) else lcGo p T E ρ xs
def lcF (vs : List Nat) (I : Env → Option (List D)) (p : Pat) (T : Env → Option Bool) (E : Env → Option D) : Env → Option D := fun ρ => (I ρ).bind fun items => (lcGo p T E (wipeE ρ vs) items).bind fun out => if items.length < big then some (.lst out) else none
theorem Grow.updH {a : Addr} {o : HO} (g : Grow G H G' H') (g0 : G' a = none) (h0 : H a = none) : Grow G H G' (upd H' a o) := by
  refine ⟨g.g, fun b w e => ?_, fun b w e => ?_, g.n, fun b w h1 h2 => ?_⟩
  · rw [upd_ne (ne_of_none e h0)]; exact g.h b w e
  · rw [upd_ne (ne_of_none e g0)]; exact g.s b w e
  · rw [upd_ne (ne_of_none h2 h0)]; exact g.x b w h1 h2
theorem Grow.keep {a : Addr} {vs : List V} (g : Grow G H G' H') (h : H a = some (.lst vs)) (h0 : G a = none) : G' a = none := by
  by_cases q : G' a = none
  · exact q
  · rcases g.n a h0 q with e | ⟨ws, e⟩
    · rw [h] at e; cases e
    · rw [h] at e; cases e
structure DL (Γ : Gam) (N : List Str) (sc : Scope) (e : Expr) (F : Env → Option D) : Prop where
  ex : ∃ t, (∀ X, Good Γ N sc X → PE X e t ∧ ∀ (i : Nat) (y : Str) (py : Pos) (spos : Pos), N[i]? = some y → X.env.scope.names.lookup y = some .local → swapsWith e (some (.Name y py)) spos.line X.env = pure true → PS X (.Assign [.Name y py] e spos) (tAsg t (gName i))) ∧ SemV Γ .f t F
theorem DL.f {e : Expr} {F : Env → Option D} (h : DL Γ N sc e F) : DV Γ N sc .f e F := let ⟨t, p, s⟩ := h.ex; ⟨t, fun X g => (p X g).1, s⟩
theorem sem_lc {wi : TI} {I : Env → Option (List D)} {g : TG} {p : Pat} {tt : TT} {T : Env → Option Bool} {te : TE} {E : Env → Option D} {vs : List Nat} (si : SemI Γ wi I) (sg : SemG Γ g p) (hp : ∀ i ∈ p.is, i ∈ vs) (st : SemT Γ tt T) (se : SemV Γ .e te E) :
    SemV Γ .f (tLc wi g tt te vs) (lcF vs I p T E) := fun H0 ρ σ G H Q d s Ev e q => by
  unfold lcF at e
  cases ei : I ρ with
  | none => rw [ei] at e; cases e
  | some items =>
    simp only [ei, Option.bind_some] at e
    cases eo : lcGo p T E (wipeE ρ vs) items with
    | none => rw [eo] at e; cases e
    | some out =>
      simp only [eo, Option.bind_some] at e
      split at e
      · rename_i hbig
        cases e
        refine si H0 ρ σ G H _ items s Ev ei fun J Gp Y G1 H1 g1 wk hGp hY => fun Dl hD => ?_
        have hDH : H Dl = none := g1.h.free hD
        refine lc_it wk (fun i H' => ∃ G' acc o1 o2, lcGo p T E (wipeE ρ vs) (items.drop i) = some o2 ∧ o1 ++ o2 = out ∧ o1.length ≤ i ∧ Grow G H G' H' ∧ SL G1 G' ∧ G' Dl = none ∧ H' Dl = some (.lst acc) ∧ RepL Γ.K Γ.C G' acc o1)
          ⟨G1, [], [], out, by rw [List.drop_zero]; exact eo, rfl, Nat.zero_le _, g1.updH (g1.s.free hD) hDH, SL.refl _, g1.s.free hD, upd_same, .nil⟩ (fun i H' _ h => ?_) (fun i x H2 H3 hi h y => ?_) fun H' h => ?_
        · obtain ⟨G', acc, o1, o2, _, _, _, g2, s1, _⟩ := h
          exact hGp G' H' s1 g2.s
        · obtain ⟨G2, acc, o1, o2, h1, h2, h3, g2, s2, hG2, hH2, r2⟩ := h
          obtain ⟨G3, d, hd, g3, r3⟩ := hY i H2 x H3 G2 hi s2 g2.s y
          have hG3 : G3 Dl = none := g3.keep hH2 hG2
          have hH3 : H3 Dl = some (.lst acc) := g3.x _ _ hG2 hH2
          have g23 := g2.trans g3
          have hdrop : items.drop i = d :: items.drop (i + 1) := by
            obtain ⟨hl, e1⟩ := List.getElem?_eq_some_iff.mp hd
            rw [List.drop_eq_getElem_cons hl, e1]
          rw [hdrop] at h1
          have h1 : ((bindP p d (wipeE ρ vs)).bind fun ρ1 => (T ρ1).bind fun c => if c then (E ρ1).bind fun y => (lcGo p T E (wipeE ρ vs) (items.drop (i + 1))).bind fun ys => some (y :: ys) else lcGo p T E (wipeE ρ vs) (items.drop (i + 1))) = some o2 := h1
          cases eb : bindP p d (wipeE ρ vs) with
          | none => rw [eb] at h1; cases h1
          | some ρ1 =>
            simp only [eb, Option.bind_some] at h1
            cases et : T ρ1 with
            | none => rw [et] at h1; cases h1
            | some c =>
              simp only [et, Option.bind_some] at h1
              refine sg H0 _ ρ1 (wipe σ vs) G3 H3 x d _ g3.s ((Ev.wipe vs).grow g23) eb r3 fun xs E1 => ⟨?_, ?_⟩
              · rw [wipe_setL _ _ _ _ hp, wipe_wipe σ vs vs fun _ h => h]
              · refine st H0 ρ1 _ G3 H3 _ c g3.s E1 et fun G4 H4 g4 => ?_
                have hG4 : G4 Dl = none := g4.keep hH3 hG3
                have hH4 : H4 Dl = some (.lst acc) := g4.x _ _ hG3 hH3
                cases c with
                | false =>
                  rw [if_neg Bool.false_ne_true]
                  exact ⟨G4, acc, o1, o2, h1, h2, Nat.le_succ_of_le h3, g23.trans g4, s2.trans (g3.g.trans g4.g), hG4, hH4, r2.mono (g3.g.trans g4.g)⟩
                | true =>
                  rw [if_pos rfl]
                  rw [if_pos rfl] at h1
                  cases ey : E ρ1 with
                  | none => rw [ey] at h1; cases h1
                  | some y =>
                    simp only [ey, Option.bind_some] at h1
                    cases er : lcGo p T E (wipeE ρ vs) (items.drop (i + 1)) with
                    | none => rw [er] at h1; cases h1
                    | some ys =>
                      rw [er] at h1
                      cases h1
                      refine se H0 ρ1 _ G4 H4 _ y g4.s (E1.grow g4) ey fun G5 H5 yv g5 o5 => ?_
                      have hG5 : G5 Dl = none := g5.keep hH4 hG4
                      have hH5 : H5 Dl = some (.lst acc) := g5.x _ _ hG4 hH4
                      have s25 : SL G2 G5 := (g3.g.trans g4.g).trans g5.g
                      refine ⟨acc, hH5, ?_, G5, acc ++ [yv], o1 ++ [y], ys, rfl, by rw [← h2, List.append_assoc]; rfl, by rw [List.length_append]; show o1.length + 1 ≤ i + 1; omega, ((g23.trans g4).trans g5).updH hG5 hDH, s2.trans s25, hG5, upd_same, (r2.mono s25).app (.cons o5 .nil)⟩
                      rw [r2.length]
                      exact big_lt (by omega)
        · obtain ⟨G2, acc, o1, o2, h1, h2, h3, g2, s2, hG2, hH2, r2⟩ := h
          rw [List.drop_length] at h1
          cases h1
          rw [List.append_nil] at h2
          subst h2
          exact q G2 H' _ g2 ⟨Dl, rfl, hDH, hG2, acc, hH2, r2⟩
      · cases e
theorem d_lc {own : List (Str × Nat)} {elt tg iter : Expr} {ifs : List Expr} {scope : Scope} {pos : Pos} {I : Env → Option (List D)} {p : Pat} {T : Env → Option Bool} {E : Env → Option D} (nd : N.Nodup) (ok : blkC N sc scope own = true) (hi : DI Γ N sc tg iter I)
    (hg : DG Γ N (relS scope sc) false tg p) (hp : p.is.all (fun i => (own.map (·.2)).contains i) = true) (ht : DTs Γ N (relS scope sc) ifs T) (he : DV Γ N (relS scope sc) .e elt E) (hs : ∀ (env : PySem.Env) x, foldedSetIterable iter env x = pure x := by exact fun _ _ => rfl) :
    DL Γ N sc (.ListComp elt [⟨tg, iter, ifs, 0⟩] scope pos) (lcF (own.map (·.2)) I p T E) := by
  obtain ⟨wi, pi, si⟩ := hi.ex
  obtain ⟨g, pg, sg⟩ := hg.ex
  obtain ⟨tt, pt, st⟩ := ht.ex
  obtain ⟨te, pe, se⟩ := he.ex
  have hp' : ∀ i ∈ p.is, i ∈ own.map (·.2) := fun i h => by
    have := List.all_eq_true.mp hp i h
    simpa using this
  refine ⟨tLc wi g tt te (own.map (·.2)), fun X gX => ?_, sem_lc si sg hp' st se⟩
  have ok' : BlkOk X.N X.env.scope scope own := by rw [gX.N, gX.sc]; exact blkOk_by ok
  have gB : ∀ (s : Shared) (H : Hp) (C : Addr) (cl : List (Str × Addr)) (fp : List Addr), Good Γ N (relS scope sc) (X.blk s H scope (compEnvC scope cl C X.env) fp) := fun s H C cl fp =>
    ⟨gX.prog, gX.w, gX.K, gX.mg, gX.base, gX.calm, rfl, gX.room, gX.N, by rw [← gX.sc]; rfl⟩
  have nd' : X.N.Nodup := by rw [gX.N]; exact nd
  have hg' := fun s H C cl fp => pg _ (gB s H C cl fp) (fun z => nomatch z)
  have ht' := fun s H C cl fp => pt _ (gB s H C cl fp)
  have he' := fun s H C cl fp => pe _ (gB s H C cl fp)
  exact ⟨pe_lc gX.calm nd' (pi X gX) ok' hg' ht' he' (hs _), fun i y py spos hy hyl hsw => ps_setLc gX.calm nd' (by rw [gX.N]; exact hy) hyl hsw (pi X gX) ok' hg' ht' he' (hs _)⟩
end
end Pv
set_option Elab.async false
set_option linter.all false
set_option maxRecDepth 100000
set_option maxHeartbeats 4000000
set_option autoImplicit false
namespace Pv
open PySem PySem.Spec PyProof.Rows L2
inductive Res where
  | nx (ρ : Env)
  | rt (d : D)
def SemS (Γ : Gam) (t : TS) (F : Env → Option Res) : Prop := ∀ (G0 H0 : Hp) (ρ : Env) (σ : L2.St) (G H : Hp) (De : Ends) (r : Res), Grow G0 H0 G H → EnvOk Γ H0 G H ρ σ → F ρ = some r →
  (∀ (ρ' : Env) (G' H' : Hp) (σ' : L2.St), r = .nx ρ' → Grow G0 H0 G' H' → SL G G' → EnvOk Γ H0 G' H' ρ' σ' → De.nx σ' H') →
  (∀ (d : D) (G' H' : Hp) (v : V), r = .rt d → Grow G0 H0 G' H' → Rep Γ.K Γ.C G' v d → De.rt v H') → t De σ H
structure DS (Γ : Gam) (N : List Str) (sc : Scope) (st : Stmt) (F : Env → Option Res) : Prop where
  ex : ∃ t, (∀ X, Good Γ N sc X → (∀ x, X.fn x = true) → PS X st t) ∧ SemS Γ t F
structure DSs (Γ : Gam) (N : List Str) (sc : Scope) (sts : List Stmt) (F : Env → Option Res) : Prop where
  ex : ∃ t, (∀ X, Good Γ N sc X → (∀ x, X.fn x = true) → PSs X sts t) ∧ SemS Γ t F
def snx : Env → Option Res := fun ρ => some (.nx ρ)
def sseq (f g : Env → Option Res) : Env → Option Res := fun ρ => (f ρ).bind fun r => match r with
  | .nx ρ' => g ρ'
  | .rt d => some (.rt d)
def frzE (i : Nat) (ρ : Env) : Option Env := match ρ[i]? with
  | some (.ow d) => some (ρ.set i (.sh d))
  | some (.sh _) => some ρ
  | _ => none
def sfrz (i : Nat) (f : Env → Option Res) : Env → Option Res := fun ρ => (frzE i ρ).bind f
def sset (i : Nat) (a : Env → Option D) : Env → Option Res := fun ρ => (a ρ).bind fun d => some (.nx (ρ.set i (.sh d)))
def sown (i : Nat) (a : Env → Option D) : Env → Option Res := fun ρ => (a ρ).bind fun d => some (.nx (ρ.set i (.ow d)))
def sbind (p : Pat) (a : Env → Option D) : Env → Option Res := fun ρ => (a ρ).bind fun d => (bindP p d ρ).bind fun ρ' => some (.nx ρ')
def spar (i j : Nat) (a b : Env → Option D) : Env → Option Res := fun ρ => (a ρ).bind fun x => (b ρ).bind fun y => some (.nx ((ρ.set i (.sh x)).set j (.sh y)))
def sif (c : Env → Option Bool) (a b : Env → Option Res) : Env → Option Res := fun ρ => (c ρ).bind fun k => if k then a ρ else b ρ
def sret (a : Env → Option D) : Env → Option Res := fun ρ => (a ρ).bind fun d => some (.rt d)
def sdrop (a : Env → Option D) : Env → Option Res := fun ρ => (a ρ).bind fun _ => some (.nx ρ)
def forD (p : Pat) (b : Env → Option Res) : List D → Env → Option Res
  | [], ρ => some (.nx ρ)
  | x :: xs, ρ => (bindP p x ρ).bind fun ρ1 => (b ρ1).bind fun r => match r with
    | .nx ρ' => forD p b xs ρ'
    | .rt d => some (.rt d)
def sfor (I : Env → Option (List D)) (p : Pat) (b : Env → Option Res) : Env → Option Res := fun ρ => (I ρ).bind fun items => forD p b items ρ
def whileD (c : Env → Option Bool) (b : Env → Option Res) : Nat → Env → Option Res
  | 0, _ => none
  | n + 1, ρ => (c ρ).bind fun k => if k then (b ρ).bind fun r => match r with
    | .nx ρ' => whileD c b n ρ'
    | .rt d => some (.rt d)
    else some (.nx ρ)
def fuel : Nat := 1000000000
def swhile (c : Env → Option Bool) (b : Env → Option Res) : Env → Option Res := fun ρ => whileD c b fuel ρ
def sapp (i : Nat) (a : Env → Option D) : Env → Option Res := fun ρ => (a ρ).bind fun d => match ρ[i]? with
  | some (.ow (.lst ds)) => if ds.length < big then some (.nx (ρ.set i (.ow (.lst (ds ++ [d]))))) else none
  | _ => none
def sext (i : Nat) (a : Env → Option D) : Env → Option Res := fun ρ => (a ρ).bind fun d => match ρ[i]?, d with
  | some (.ow (.lst ds)), .lst es => if ds.length + es.length < big then some (.nx (ρ.set i (.ow (.lst (ds ++ es))))) else none
  | _, _ => none
def sput (i : Nat) (k a : Env → Option D) : Env → Option Res := fun ρ => (a ρ).bind fun d => (k ρ).bind fun kd => match ρ[i]?, kd with
  | some (.ow (.lst ds)), .int n => (ixN ds.length n).bind fun j => some (.nx (ρ.set i (.ow (.lst (ds.set j d)))))
  | some (.ow (.dct kds)), .tup ks => (asInts ks).bind fun ns => if kds.length < big then some (.nx (ρ.set i (.ow (.dct (putD kds ns d))))) else none
  | _, _ => none
section
variable {Γ : Gam} {N : List Str} {sc : Scope} {κ κ1 κ2 κ3 : Kd} {G H G' H' G1 H1 : Hp} {v : V} {d : D}
theorem ss_nil : DSs Γ N sc [] snx := ⟨tNext, fun X _ _ => pss_nil, fun G0 H0 ρ σ G H De r g E e q1 q2 => by cases e; exact q1 ρ G H σ rfl g (SL.refl _) E⟩
theorem ss_one {st : Stmt} {F : Env → Option Res} (h : DS Γ N sc st F) : DSs Γ N sc [st] F := let ⟨t, p, s⟩ := h.ex; ⟨t, fun X g f => pss_one (p X g f), s⟩
theorem ss_cons {st : Stmt} {rest : List Stmt} {F K : Env → Option Res} (h1 : DS Γ N sc st F) (h2 : DSs Γ N sc rest K) : DSs Γ N sc (st :: rest) (sseq F K) := by
  obtain ⟨t1, p1, s1⟩ := h1.ex
  obtain ⟨t2, p2, s2⟩ := h2.ex
  refine ⟨tSeq t1 t2, fun X g f => pss_cons (p1 X g f) (p2 X g f), fun G0 H0 ρ σ G H De r g E e q1 q2 => ?_⟩
  unfold sseq at e
  cases ef : F ρ with
  | none => rw [ef] at e; cases e
  | some r1 =>
    rw [ef] at e
    refine s1 G0 H0 ρ σ G H _ r1 g E ef (fun ρ' G' H' σ' er g' sl E' => ?_) fun d G' H' v er g' rr => ?_
    · subst er
      exact s2 G0 H0 ρ' σ' G' H' De r g' E' e (fun ρ2 G2 H2 σ2 e2 g2 sl2 E2 => q1 ρ2 G2 H2 σ2 e2 g2 (sl.trans sl2) E2) q2
    · subst er
      cases e
      exact q2 d G' H' v rfl g' rr
/-- from here on the i-th is shared -/
theorem ss_frz (i : Nat) {sts : List Stmt} {F : Env → Option Res} (h : DSs Γ N sc sts F) : DSs Γ N sc sts (sfrz i F) := by
  obtain ⟨t, p, s1⟩ := h.ex
  refine ⟨t, p, fun G0 H0 ρ σ G H De r g E e q1 q2 => ?_⟩
  unfold sfrz frzE at e
  cases ei : ρ[i]? with
  | none => rw [ei] at e; cases e
  | some sl =>
    rw [ei] at e
    cases sl with
    | no => cases e
    | sh d => exact s1 G0 H0 ρ σ G H De r g E e q1 q2
    | ow d =>
      obtain ⟨a, h1, h2, h3, h4⟩ := E.sl i _ ei
      obtain ⟨o, h5, h6⟩ := h4.shared h3
      have g' : Grow G0 H0 (upd G a o) H := g.share g.s h5 h3 h2
      exact s1 G0 H0 _ σ _ H De r g' (E.share ei h1 h5 h3 h6) e (fun ρ2 G2 H2 σ2 e2 g2 sl2 E2 => q1 ρ2 G2 H2 σ2 e2 g2 ((SL.new h3).trans sl2) E2) q2
/-- a value that is stored takes no swap of places -/
abbrev NoSw (e : Expr) (x : Str) (px : Pos) (l : Nat) : Prop := ∀ env : PySem.Env, swapsWith e (some (.Name x px)) l env = pure false
theorem sem_set {t : TE} {i : Nat} {a : Env → Option D} (sa : SemV Γ .e t a) : SemS Γ (tAsg t (gName i)) (sset i a) := fun G0 H0 ρ σ G H De r g E e q1 q2 => by
  unfold sset at e
  cases ea : a ρ with
  | none => rw [ea] at e; cases e
  | some d =>
    rw [ea] at e
    cases e
    exact sa H0 ρ σ G H _ d g.s E ea fun G1 H1 v g1 o1 => q1 _ G1 H1 _ rfl (g.trans g1) g1.g ((E.grow g1).setSh o1)
theorem sem_own {t : TE} {i : Nat} {a : Env → Option D} (sa : SemV Γ .f t a) : SemS Γ (tAsg t (gName i)) (sown i a) := fun G0 H0 ρ σ G H De r g E e q1 q2 => by
  unfold sown at e
  cases ea : a ρ with
  | none => rw [ea] at e; cases e
  | some d =>
    rw [ea] at e
    cases e
    refine sa H0 ρ σ G H _ d g.s E ea fun G1 H1 v g1 o1 => ?_
    obtain ⟨b, rfl, h1, h2, h3⟩ := o1
    refine q1 _ G1 H1 _ rfl (g.trans g1) g1.g ((E.grow g1).setOw (g.h.free h1) h2 h3 fun j f hj h4 h5 => ?_)
    obtain ⟨c, h6, _, _, h7⟩ := E.sl j _ h4
    rw [h5] at h6
    cases h6
    obtain ⟨o, h8, _⟩ := h7.there
    rw [h1] at h8; cases h8
theorem s_set {i : Nat} {x : Str} {px pos : Pos} {e : Expr} {a : Env → Option D} (nd : N.Nodup) (hN : N[i]? = some x) (hb : bndB sc true x = true) (he : DV Γ N sc .e e a) (hs : NoSw e x px pos.line := by exact fun _ => rfl) : DS Γ N sc (.Assign [.Name x px] e pos) (sset i a) := by
  obtain ⟨t, p, sa⟩ := he.ex
  have hb : locB sc x = true := hb
  exact ⟨_, fun X g f => ps_set (by rw [g.N]; exact nd) (by rw [g.N]; exact hN) (by rw [g.sc]; exact loc_of hb) (p X g) (hs _) (.inl (f x)), sem_set sa⟩
theorem s_own {i : Nat} {x : Str} {px pos : Pos} {e : Expr} {a : Env → Option D} (nd : N.Nodup) (hN : N[i]? = some x) (hb : bndB sc true x = true) (he : DV Γ N sc .f e a) (hs : NoSw e x px pos.line := by exact fun _ => rfl) : DS Γ N sc (.Assign [.Name x px] e pos) (sown i a) := by
  obtain ⟨t, p, sa⟩ := he.ex
  have hb : locB sc x = true := hb
  exact ⟨_, fun X g f => ps_set (by rw [g.N]; exact nd) (by rw [g.N]; exact hN) (by rw [g.sc]; exact loc_of hb) (p X g) (hs _) (.inl (f x)), sem_own sa⟩
/-- x = [..]: the comprehension -/
def swC (sc scope : Scope) (x : Str) (px pe : Pos) : Bool := (match sc.names.lookup x with | some .local => true | _ => false) && (px.line == pe.line) && !(scope.names.any fun (n, k) => n == x && (k == .local || k == .cell))
theorem sw_eq {X : Cx} {scope : Scope} {x : Str} {px pe : Pos} {l : Nat} {elt : Expr} {gs : List Comprehension} (h : X.env.scope.kind = .function) : swapsWith (.ListComp elt gs scope pe) (some (.Name x px)) l X.env = pure (swC X.env.scope scope x px pe) := by
  have hb : X.env.blockKind = .function := by unfold Env.blockKind; rw [h]; rfl
  unfold swapsWith swC
  simp only [hb, Expr.pos]
  have hk : X.env.kindOf x = X.env.scope.names.lookup x := rfl
  rw [hk]
  cases X.env.scope.names.lookup x with
  | none => rfl
  | some k => cases k <;> rfl
theorem lc_ps {i : Nat} {x : Str} {px pos pe : Pos} {elt : Expr} {gs : List Comprehension} {scope : Scope} {t : TE} {X : Cx} (g : Good Γ N sc X) (f : ∀ x, X.fn x = true) (nd : N.Nodup) (hk : sc.kind = .function) (hN : N[i]? = some x) (hb : bndB sc true x = true)
    (p : PE X (.ListComp elt gs scope pe) t ∧ ∀ (i : Nat) (y : Str) (py : Pos) (spos : Pos), N[i]? = some y → X.env.scope.names.lookup y = some .local → swapsWith (.ListComp elt gs scope pe) (some (.Name y py)) spos.line X.env = pure true → PS X (.Assign [.Name y py] (.ListComp elt gs scope pe) spos) (tAsg t (gName i))) :
    PS X (.Assign [.Name x px] (.ListComp elt gs scope pe) pos) (tAsg t (gName i)) := by
  have hb : locB sc x = true := hb
  have e := sw_eq (X := X) (scope := scope) (x := x) (px := px) (pe := pe) (l := pos.line) (elt := elt) (gs := gs) (by rw [g.sc]; exact hk)
  cases hc : swC X.env.scope scope x px pe with
  | true =>
    rw [hc] at e
    refine p.2 i x px pos hN ?_ e
    unfold swC at hc
    simp only [Bool.and_eq_true] at hc
    have := hc.1.1
    split at this
    · assumption
    · cases this
  | false =>
    rw [hc] at e
    exact ps_set (by rw [g.N]; exact nd) (by rw [g.N]; exact hN) (by rw [g.sc]; exact loc_of hb) p.1 e (.inl (f x))
theorem s_setL {i : Nat} {x : Str} {px pos pe : Pos} {elt : Expr} {gs : List Comprehension} {scope : Scope} {a : Env → Option D} (nd : N.Nodup) (hk : sc.kind = .function) (hN : N[i]? = some x) (hb : bndB sc true x = true) (he : DL Γ N sc (.ListComp elt gs scope pe) a) :
    DS Γ N sc (.Assign [.Name x px] (.ListComp elt gs scope pe) pos) (sset i a) := by
  obtain ⟨t, p, sa⟩ := he.ex
  exact ⟨_, fun X g f => lc_ps g f nd hk hN hb (p X g), sem_set sa.toE⟩
theorem s_ownL {i : Nat} {x : Str} {px pos pe : Pos} {elt : Expr} {gs : List Comprehension} {scope : Scope} {a : Env → Option D} (nd : N.Nodup) (hk : sc.kind = .function) (hN : N[i]? = some x) (hb : bndB sc true x = true) (he : DL Γ N sc (.ListComp elt gs scope pe) a) :
    DS Γ N sc (.Assign [.Name x px] (.ListComp elt gs scope pe) pos) (sown i a) := by
  obtain ⟨t, p, sa⟩ := he.ex
  exact ⟨_, fun X g f => lc_ps g f nd hk hN hb (p X g), sem_own sa⟩
/-- a, b, .. = a tuple -/
theorem s_bind {tg e : Expr} {pos : Pos} {p : Pat} {a : Env → Option D} (he : DV Γ N sc .e e a) (hg : DG Γ N sc true tg p) (hs : ∀ env : PySem.Env, swapsWithSole [tg] e pos.line env = pure false := by exact fun _ => rfl) (hw : ∀ env : PySem.Env, swappedStores [tg] e env = pure none := by exact fun _ => rfl)
    (h1 : ∀ env : PySem.Env, (assignEach [tg] env).map (·.2) = [assign tg env] := by exact fun _ => rfl) : DS Γ N sc (.Assign [tg] e pos) (sbind p a) := by
  obtain ⟨t, pe, sa⟩ := he.ex
  obtain ⟨g, pg, sg⟩ := hg.ex
  refine ⟨_, fun X gX f => ps_asg (pe X gX) (pg X gX fun _ => f) (hs _) (hw _) (h1 _), fun G0 H0 ρ σ G H De r gr E e q1 q2 => ?_⟩
  unfold sbind at e
  cases ea : a ρ with
  | none => rw [ea] at e; cases e
  | some d =>
    simp only [ea, Option.bind_some] at e
    cases eb : bindP p d ρ with
    | none => rw [eb] at e; cases e
    | some ρ' =>
      rw [eb] at e
      cases e
      refine sa H0 ρ σ G H _ d gr.s E ea fun G1 H1 v g1 o1 => ?_
      exact sg H0 ρ ρ' σ G1 H1 v d _ g1.s (E.grow g1) eb o1 fun vs E' => q1 ρ' G1 H1 _ rfl (gr.trans g1) g1.g E'
/-- a, b = x, y -/
theorem s_par {i j : Nat} {x y : Str} {ea eb : Expr} {px py pt pos : Pos} {kt k2 : Nat} {pt2 : Pos} {a b : Env → Option D} (nd : N.Nodup) (hi : N[i]? = some x) (hj : N[j]? = some y) (hij : i ≠ j) (hx : lclB sc x = true) (hy : lclB sc y = true) (ha : DV Γ N sc .e ea a) (hb : DV Γ N sc .e eb b)
    (hw : ∀ env : PySem.Env, env.scope = sc → swappedStores [.Tuple [.Name x px, .Name y py] kt pt] (.Tuple [ea, eb] k2 pt2) env = pure (some [x, y]))
    (h1 : Pl1 ea [eb] := by exact fun _ => rfl) (h2 : Pl1 eb [] := by exact fun _ => rfl)
    (hs : ∀ env : PySem.Env, swapsWithSole [.Tuple [.Name x px, .Name y py] kt pt] (.Tuple [ea, eb] k2 pt2) pos.line env = pure false := by exact fun _ => rfl) :
    DS Γ N sc (.Assign [.Tuple [.Name x px, .Name y py] kt pt] (.Tuple [ea, eb] k2 pt2) pos) (spar i j a b) := by
  obtain ⟨ta, pa, sa⟩ := ha.ex
  obtain ⟨tb, pb, sb⟩ := hb.ex
  refine ⟨_, fun X g f => ps_par g.calm (by rw [g.N]; exact nd) (by rw [g.N]; exact hi) (by rw [g.N]; exact hj) hij (by rw [g.sc]; exact lcl_of hx) (by rw [g.sc]; exact lcl_of hy) (pa_cons (pa X g) (pa_cons (pb X g) pa_nil (h2 _)) (h1 _)) (hw _ g.sc) (hs _), fun G0 H0 ρ σ G H De r g E e q1 q2 => ?_⟩
  unfold spar at e
  cases ea : a ρ with
  | none => rw [ea] at e; cases e
  | some d1 =>
    cases eb : b ρ with
    | none => simp only [ea, eb, Option.bind_some] at e; cases e
    | some d2 =>
      simp only [ea, eb, Option.bind_some] at e
      cases e
      refine sa H0 ρ σ G H _ d1 g.s E ea fun G1 H1 v g1 o1 => ?_
      refine sb H0 ρ σ G1 H1 _ d2 g1.s (E.grow g1) eb fun G2 H2 w g2 o2 => ?_
      have g12 := g1.trans g2
      exact ⟨v, w, rfl, q1 _ G2 H2 _ rfl (g.trans g12) g12.g (((E.grow g12).setSh (Rep.mono g2.g o1)).setSh o2)⟩
theorem s_if {c : Expr} {a b : List Stmt} {pos : Pos} {fc : Env → Option Bool} {fa fb : Env → Option Res} (hc : DT Γ N sc c fc) (ha : DSs Γ N sc a fa) (hb : DSs Γ N sc b fb) : DS Γ N sc (.If c a b pos) (sif fc fa fb) := by
  obtain ⟨tc, pc, sc1⟩ := hc.ex
  obtain ⟨ta, pa, sa⟩ := ha.ex
  obtain ⟨tb, pb, sb⟩ := hb.ex
  refine ⟨_, fun X g f => ps_if (pc X g) (pa X g f) (pb X g f), fun G0 H0 ρ σ G H De r g E e q1 q2 => ?_⟩
  unfold sif at e
  cases ec : fc ρ with
  | none => rw [ec] at e; cases e
  | some k =>
    rw [ec] at e
    refine sc1 H0 ρ σ G H _ k g.s E ec fun G1 H1 g1 => ?_
    cases k with
    | true => rw [if_pos rfl]; exact sa G0 H0 ρ σ G1 H1 De r (g.trans g1) (E.grow g1) e (fun ρ2 G2 H2 σ2 e2 g2 sl2 E2 => q1 ρ2 G2 H2 σ2 e2 g2 (g1.g.trans sl2) E2) q2
    | false => rw [if_neg Bool.false_ne_true]; exact sb G0 H0 ρ σ G1 H1 De r (g.trans g1) (E.grow g1) e (fun ρ2 G2 H2 σ2 e2 g2 sl2 E2 => q1 ρ2 G2 H2 σ2 e2 g2 (g1.g.trans sl2) E2) q2
theorem s_ret {e : Expr} {pos : Pos} {a : Env → Option D} (he : DV Γ N sc .e e a) : DS Γ N sc (.Return (some e) pos) (sret a) := by
  obtain ⟨t, p, sa⟩ := he.ex
  refine ⟨_, fun X g f => ps_ret (p X g), fun G0 H0 ρ σ G H De r g E e q1 q2 => ?_⟩
  unfold sret at e
  cases ea : a ρ with
  | none => rw [ea] at e; cases e
  | some d =>
    rw [ea] at e
    cases e
    exact sa H0 ρ σ G H _ d g.s E ea fun G1 H1 v g1 o1 => q2 d G1 H1 v rfl (g.trans g1) o1
theorem s_drop {e : Expr} {pos : Pos} {a : Env → Option D} (he : DV Γ N sc κ e a) (hs : ∀ env : PySem.Env, swapsWith e none pos.line env = pure false := by exact fun _ => rfl) : DS Γ N sc (.Expr e pos) (sdrop a) := by
  obtain ⟨t, p, sa⟩ := he.ex
  refine ⟨_, fun X g f => ps_expr (p X g) (hs _), fun G0 H0 ρ σ G H De r g E e q1 q2 => ?_⟩
  unfold sdrop at e
  cases ea : a ρ with
  | none => rw [ea] at e; cases e
  | some d =>
    rw [ea] at e
    cases e
    exact sa H0 ρ σ G H _ d g.s E ea fun G1 H1 v g1 o1 => q1 ρ G1 H1 σ rfl (g.trans g1) g1.g (E.grow g1)
theorem s_for {tg it : Expr} {body : List Stmt} {pos : Pos} {I : Env → Option (List D)} {p : Pat} {b : Env → Option Res} (hi : DI Γ N sc tg it I) (hg : DG Γ N sc true tg p) (hb : DSs Γ N sc body b) (hs : ∀ (env : PySem.Env) x, foldedSetIterable it env x = pure x := by exact fun _ _ => rfl) :
    DS Γ N sc (.For tg it body [] pos) (sfor I p b) := by
  obtain ⟨wi, pi, si⟩ := hi.ex
  obtain ⟨gt, pg, sg⟩ := hg.ex
  obtain ⟨tb, pb, sb⟩ := hb.ex
  refine ⟨_, fun X g f => ps_for (by rw [g.xe]; exact PassesOwn.never) g.calm (pi X g) (pg X g fun _ => f) (pb X g f) (hs _), fun G0 H0 ρ σ G H De r g E e q1 q2 => ?_⟩
  unfold sfor at e
  cases ei : I ρ with
  | none => rw [ei] at e; cases e
  | some items =>
    rw [ei] at e
    have e : forD p b items ρ = some r := e
    refine si H0 ρ σ G H _ items g.s E ei fun J Gp Y G1 H1 g1 wk hGp hY => ?_
    refine for_it wk (fun i σ' H' => ∃ G' ρ', Grow G0 H0 G' H' ∧ SL G1 G' ∧ EnvOk Γ H0 G' H' ρ' σ' ∧ forD p b (items.drop i) ρ' = some r) ⟨G1, ρ, g.trans g1, SL.refl _, E.grow g1, by rw [List.drop_zero]; exact e⟩ (fun i σ' H' _ h => ?_) (fun i x σ2 H2 H3 hlt h y => ?_) fun σ' H' h => ?_
    · obtain ⟨G', ρ', g2, s1, _⟩ := h
      exact hGp G' H' s1 g2.s
    · obtain ⟨G2, ρ2, g2, s2, E2, h2⟩ := h
      obtain ⟨G3, d, hd, g3, r3⟩ := hY i H2 x H3 G2 hlt s2 g2.s y
      have hdrop : items.drop i = d :: items.drop (i + 1) := by
        obtain ⟨hl, e1⟩ := List.getElem?_eq_some_iff.mp hd
        rw [List.drop_eq_getElem_cons hl, e1]
      rw [hdrop] at h2
      have h2 : ((bindP p d ρ2).bind fun ρ1 => (b ρ1).bind fun r => match r with
        | .nx ρ' => forD p b (items.drop (i + 1)) ρ'
        | .rt d => some (.rt d)) = some r := h2
      cases eb : bindP p d ρ2 with
      | none => rw [eb] at h2; cases h2
      | some ρ3 =>
        simp only [eb, Option.bind_some] at h2
        cases er : b ρ3 with
        | none => rw [er] at h2; cases h2
        | some r3' =>
          simp only [er, Option.bind_some] at h2
          refine sg H0 ρ2 ρ3 σ2 G3 H3 x d _ g3.s (E2.grow g3) eb r3 fun vs E3 => ?_
          refine sb G0 H0 ρ3 _ G3 H3 _ r3' (g2.trans g3) E3 er (fun ρ4 G4 H4 σ4 e4 g4 s4 E4 => ?_) fun d' G4 H4 v4 e4 g4 r4 => ?_
          · subst e4
            exact ⟨G4, ρ4, g4, (s2.trans g3.g).trans s4, E4, h2⟩
          · subst e4
            cases h2
            exact q2 d' G4 H4 v4 rfl g4 r4
    · obtain ⟨G2, ρ2, g2, s2, E2, h2⟩ := h
      rw [List.drop_length] at h2
      cases h2
      exact q1 ρ2 G2 H' σ' rfl g2 (g1.g.trans s2) E2
theorem s_while {c : Expr} {body : List Stmt} {pos : Pos} {fc : Env → Option Bool} {b : Env → Option Res} (hc : DT Γ N sc c fc) (hb : DSs Γ N sc body b) : DS Γ N sc (.While c body [] pos) (swhile fc b) := by
  obtain ⟨tc, pc, sc1⟩ := hc.ex
  obtain ⟨tb, pb, sb⟩ := hb.ex
  refine ⟨_, fun X g f => ps_while (by rw [g.xe]; exact PassesOwn.never) (pc X g) (pb X g f), fun G0 H0 ρ σ G H De r g E e q1 q2 => ?_⟩
  have e : whileD fc b fuel ρ = some r := e
  refine ⟨fun n σ' H' => ∃ G' ρ', Grow G0 H0 G' H' ∧ SL G G' ∧ EnvOk Γ H0 G' H' ρ' σ' ∧ whileD fc b n ρ' = some r, ⟨fuel, G, ρ, g, SL.refl _, E, e⟩, fun n σ1 H1 h => ?_⟩
  obtain ⟨G1, ρ1, g1, s1, E1, h1⟩ := h
  cases n with
  | zero => cases h1
  | succ n =>
    have h1 : ((fc ρ1).bind fun k => if k then (b ρ1).bind fun r => match r with
      | .nx ρ' => whileD fc b n ρ'
      | .rt d => some (.rt d)
      else some (.nx ρ1)) = some r := h1
    cases ec : fc ρ1 with
    | none => rw [ec] at h1; cases h1
    | some k =>
      simp only [ec, Option.bind_some] at h1
      refine sc1 H0 ρ1 σ1 G1 H1 _ k g1.s E1 ec fun G2 H2 g2 => ?_
      cases k with
      | true =>
        rw [if_pos rfl]
        rw [if_pos rfl] at h1
        cases eb : b ρ1 with
        | none => rw [eb] at h1; cases h1
        | some rb =>
          simp only [eb, Option.bind_some] at h1
          refine ⟨_, fun σ' H' hN => ⟨n, Nat.lt_succ_self n, hN⟩, ?_⟩
          refine sb G0 H0 ρ1 σ1 G2 H2 _ rb (g1.trans g2) (E1.grow g2) eb (fun ρ4 G4 H4 σ4 e4 g4 s4 E4 => ?_) fun d' G4 H4 v4 e4 g4 r4 => ?_
          · subst e4
            exact ⟨G4, ρ4, g4, (s1.trans g2.g).trans s4, E4, h1⟩
          · subst e4
            cases h1
            exact q2 d' G4 H4 v4 rfl g4 r4
      | false =>
        rw [if_neg Bool.false_ne_true]
        rw [if_neg Bool.false_ne_true] at h1
        cases h1
        exact q1 ρ1 G2 H2 σ1 rfl (g1.trans g2) (s1.trans g2.g) (E1.grow g2)
/-- x.append(e) -/
theorem Own.upd_lst {H0 : Hp} {ρ : Env} {σ : L2.St} {i : Nat} {ds es : List D} {vs : List V} {a : Addr} (E : EnvOk Γ H0 G H ρ σ) (hi : ρ[i]? = some (.ow (.lst ds))) (hσ : σ[i]? = some (some (.ref a))) (h0 : H0 a = none) (g : G a = none) (r : RepL Γ.K Γ.C G vs es) :
    EnvOk Γ H0 G (L2.upd H a (.lst vs)) (ρ.set i (.ow (.lst es))) σ := E.upd hi hσ h0 g ⟨vs, upd_same, r⟩
theorem s_app {i : Nat} {x : Str} {px apos cpos pos : Pos} {e : Expr} {a : Env → Option D} (hN : N[i]? = some x) (hv : visB sc x = true) (hd : (x == ("__debug__" : Str)) = false) (hcd : (x == ("__classdict__" : Str)) = false) (ha : DV Γ N sc .e e a)
    (hbase : ∀ env : PySem.Env, attributeBase (.Name x px) "append" env (eval (.Name x px) env) = eval (.Name x px) env := by exact fun _ => rfl)
    (hfew : ∀ env : PySem.Env, ((backTo cpos (starEach [e] env)).all (fun x => !x.1) && (backToKw cpos (keywordEach [] env)).all (fun x => x.1.isSome)
      && decide (([e] : List Expr).length + ([] : List Keyword).length + (if ([] : List Keyword).isEmpty then 0 else 1) < 30)) = true := by exact fun _ => rfl)
    (hline : (apos.endLine == cpos.line) = true := by rfl) (hs : Pl1 e [] := by exact fun _ => rfl) :
    DS Γ N sc (.Expr (.Call (.Attribute (.Name x px) "append" apos) [e] [] cpos) pos) (sapp i a) := by
  obtain ⟨t, p, sa⟩ := ha.ex
  refine ⟨tDrop (tBM Γ.K "list" rAppend (tVar i) (tCons t tNil)), fun X g f => g.K ▸ ps_expr (pe_bm F.plainAttrs_list F.slot_list_append F.type_list_append mt_append (pe_var (by rw [g.N]; exact hN) (by rw [g.sc]; exact vis_of hv) hd hcd) (pa_cons (p X g) pa_nil (hs _)) (hbase _) (hfew _) hline (hs _) rfl) rfl, fun G0 H0 ρ σ G H De r g E e q1 q2 => ?_⟩
  unfold sapp at e
  cases ea : a ρ with
  | none => rw [ea] at e; cases e
  | some d =>
    simp only [ea, Option.bind_some] at e
    split at e
    · rename_i ds hi
      split at e
      · rename_i hl
        cases e
        obtain ⟨b, h1, h2, h3, vs, h4, h5⟩ := E.sl i _ hi
        refine ⟨.ref b, h1, .inl ⟨rfl, vs, SqL.of h4⟩, sa H0 ρ σ G H _ d g.s E ea fun G1 H1 v g1 o1 => ?_⟩
        have h4' : H1 b = some (.lst vs) := g1.x _ _ h3 h4
        have h3' : G1 b = none := g1.keep h4 h3
        have g01 := g.trans g1
        refine ⟨b, vs, v, rfl, rfl, h4', by rw [h5.length]; exact big_lt hl, ?_⟩
        exact q1 _ G1 _ σ rfl (g01.updH h3' h2) g1.g (Own.upd_lst (E.grow g1) hi h1 h2 h3' ((h5.mono g1.g).app (.cons o1 .nil)))
      · cases e
    · cases e
theorem s_ext {i : Nat} {x : Str} {px apos cpos pos : Pos} {e : Expr} {a : Env → Option D} (hN : N[i]? = some x) (hv : visB sc x = true) (hd : (x == ("__debug__" : Str)) = false) (hcd : (x == ("__classdict__" : Str)) = false) (ha : DV Γ N sc .e e a)
    (hbase : ∀ env : PySem.Env, attributeBase (.Name x px) "extend" env (eval (.Name x px) env) = eval (.Name x px) env := by exact fun _ => rfl)
    (hfew : ∀ env : PySem.Env, ((backTo cpos (starEach [e] env)).all (fun x => !x.1) && (backToKw cpos (keywordEach [] env)).all (fun x => x.1.isSome)
      && decide (([e] : List Expr).length + ([] : List Keyword).length + (if ([] : List Keyword).isEmpty then 0 else 1) < 30)) = true := by exact fun _ => rfl)
    (hline : (apos.endLine == cpos.line) = true := by rfl) (hs : Pl1 e [] := by exact fun _ => rfl) :
    DS Γ N sc (.Expr (.Call (.Attribute (.Name x px) "extend" apos) [e] [] cpos) pos) (sext i a) := by
  obtain ⟨t, p, sa⟩ := ha.ex
  refine ⟨tDrop (tBM Γ.K "list" rExtend (tVar i) (tCons t tNil)), fun X g f => g.K ▸ ps_expr (pe_bm F.plainAttrs_list F.slot_list_extend F.type_list_extend mt_extend (pe_var (by rw [g.N]; exact hN) (by rw [g.sc]; exact vis_of hv) hd hcd) (pa_cons (p X g) pa_nil (hs _)) (hbase _) (hfew _) hline (hs _) rfl) rfl, fun G0 H0 ρ σ G H De r g E e q1 q2 => ?_⟩
  unfold sext at e
  cases ea : a ρ with
  | none => rw [ea] at e; cases e
  | some d =>
    simp only [ea, Option.bind_some] at e
    split at e
    · rename_i ds es hi
      split at e
      · rename_i hl
        cases e
        obtain ⟨b, h1, h2, h3, vs, h4, h5⟩ := E.sl i _ hi
        refine ⟨.ref b, h1, .inl ⟨rfl, vs, SqL.of h4⟩, sa H0 ρ σ G H _ _ g.s E ea fun G1 H1 v g1 o1 => ?_⟩
        have o1 : Rep Γ.K Γ.C G1 v (.lst es) := o1
        cases o1 with
        | lst h6 h7 =>
          have h4' : H1 b = some (.lst vs) := g1.x _ _ h3 h4
          have h3' : G1 b = none := g1.keep h4 h3
          have g01 := g.trans g1
          refine ⟨b, _, vs, _, rfl, rfl, h4', g1.s.lst h6, by rw [h5.length, h7.length]; exact Nat.le_of_lt (big_lt hl), ?_⟩
          exact q1 _ G1 _ σ rfl (g01.updH h3' h2) g1.g (Own.upd_lst (E.grow g1) hi h1 h2 h3' ((h5.mono g1.g).app h7))
      · cases e
    · cases e
/-- x[k] = e: a list's place, a dict's key -/
theorem PS.or {X : Cx} {st : Stmt} {t t' : TS} (h : PS X st t) (h' : PS X st t') : PS X st (fun De σ H => t De σ H ∨ t' De σ H) :=
  ⟨fun pins s σ H De I q => q.elim (h.run pins s σ H De I) (h'.run pins s σ H De I)⟩
theorem putK_map {kvs : List (List Key × V)} {kds : List (List Int × D)} {ns : List Int} {v : V} {d : D} (e : kvs.map Prod.fst = kds.map fun p => kk p.1) (r : RepL Γ.K Γ.C G (kvs.map Prod.snd) (kds.map Prod.snd)) (rv : Rep Γ.K Γ.C G v d) :
    (putK kvs (kk ns) v).map Prod.fst = (putD kds ns d).map (fun p => kk p.1) ∧ RepL Γ.K Γ.C G ((putK kvs (kk ns) v).map Prod.snd) ((putD kds ns d).map Prod.snd) := by
  have hany : ∀ {kvs : List (List Key × V)} {kds : List (List Int × D)}, kvs.map Prod.fst = kds.map (fun p => kk p.1) → kvs.any (fun p => decide (p.1 = kk ns)) = kds.any fun p => decide (p.1 = ns) := by
    intro kvs
    induction kvs with
    | nil => intro kds e; cases kds with
      | nil => rfl
      | cons _ _ => cases e
    | cons p kvs ih =>
      intro kds e
      cases kds with
      | nil => cases e
      | cons q kds =>
        have e1 : p.1 = kk q.1 := (List.cons.inj e).1
        rw [List.any_cons, List.any_cons, ih (List.cons.inj e).2]
        have : decide (p.1 = kk ns) = decide (q.1 = ns) := by
          rw [e1]
          by_cases h : q.1 = ns
          · rw [h, decide_eq_true rfl, decide_eq_true rfl]
          · rw [decide_eq_false h, decide_eq_false fun z => h (kk_inj _ _ z)]
        rw [this]
  unfold putK putD
  rw [hany e]
  by_cases hc : (kds.any fun p => decide (p.1 = ns)) = true
  · rw [if_pos hc, if_pos hc]
    have go : ∀ {kvs : List (List Key × V)} {kds : List (List Int × D)}, kvs.map Prod.fst = kds.map (fun p => kk p.1) → RepL Γ.K Γ.C G (kvs.map Prod.snd) (kds.map Prod.snd) →
        (kvs.map fun kv => if kv.1 = kk ns then (kv.1, v) else kv).map Prod.fst = (kds.map fun p => if p.1 = ns then (ns, d) else p).map (fun p => kk p.1) ∧ RepL Γ.K Γ.C G ((kvs.map fun kv => if kv.1 = kk ns then (kv.1, v) else kv).map Prod.snd) ((kds.map fun p => if p.1 = ns then (ns, d) else p).map Prod.snd) := by
      intro kvs
      induction kvs with
      | nil => intro kds e r; cases kds with
        | nil => exact ⟨rfl, .nil⟩
        | cons _ _ => cases e
      | cons p kvs ih =>
        intro kds e r
        cases kds with
        | nil => cases e
        | cons q kds =>
          have e1 : p.1 = kk q.1 := (List.cons.inj e).1
          cases r with
          | cons r1 r2 =>
            obtain ⟨i1, i2⟩ := ih (List.cons.inj e).2 r2
            by_cases h : q.1 = ns
            · have h' : p.1 = kk ns := by rw [e1, h]
              simp only [List.map_cons, if_pos h, if_pos h']
              exact ⟨by rw [h', i1], .cons rv i2⟩
            · have h' : ¬ p.1 = kk ns := fun z => h (kk_inj _ _ (e1.symm.trans z))
              simp only [List.map_cons, if_neg h, if_neg h']
              refine ⟨?_, .cons r1 i2⟩
              rw [e1]
              exact congrArg _ i1
    exact go e r
  · rw [if_neg hc, if_neg hc, List.map_append, List.map_append, List.map_append, List.map_append, e]
    exact ⟨rfl, r.app (.cons rv .nil)⟩
theorem s_put {i : Nat} {x : Str} {px sp pos : Pos} {ek e : Expr} {k a : Env → Option D} (hN : N[i]? = some x) (hv : visB sc x = true) (hd : (x == ("__debug__" : Str)) = false) (hcd : (x == ("__classdict__" : Str)) = false) (hk : DV Γ N sc .e ek k) (ha : DV Γ N sc .e e a)
    (hs1 : ∀ env : PySem.Env, swapsWith e (some (.Subscript (.Name x px) ek sp)) pos.line env = pure false := by exact fun _ => rfl)
    (hs : ∀ env : PySem.Env, swapsWithSole [.Subscript (.Name x px) ek sp] e pos.line env = pure false := by exact fun _ => rfl) (hw : ∀ env : PySem.Env, swappedStores [.Subscript (.Name x px) ek sp] e env = pure none := by exact fun _ => rfl)
    (h1 : ∀ env : PySem.Env, (assignEach [.Subscript (.Name x px) ek sp] env).map (·.2) = [assign (.Subscript (.Name x px) ek sp) env] := by exact fun _ => rfl)
    (h2 : ∀ (env : PySem.Env) v, assign (.Subscript (.Name x px) ek sp) env v = (do
      let ov ← holding [v] (eval (.Name x px) env)
      let iv ← holding [v, ov] (eval ek env)
      standAt sp
      holding [v, ov, iv] (setItem ov iv v)
      release [v, ov, iv] []) := by exact fun _ _ => rfl) :
    DS Γ N sc (.Assign [.Subscript (.Name x px) ek sp] e pos) (sput i k a) := by
  obtain ⟨tk, pk, sk⟩ := hk.ex
  obtain ⟨ta, pa, sa⟩ := ha.ex
  refine ⟨fun De σ H => tAsg ta (gSub (tVar i) tk rSetL) De σ H ∨ sDPut (tVar i) tk ta De σ H, fun X g f => ?_, fun G0 H0 ρ σ G H De r g E e q1 q2 => ?_⟩
  · have pv : PE X (.Name x px) (tVar i) := pe_var (by rw [g.N]; exact hN) (by rw [g.sc]; exact vis_of hv) hd hcd
    exact PS.or (ps_asg (pa X g) (pg_sub pv (pk X g) set_list (h2 _)) (hs _) (hw _) (h1 _)) (ps_dput (hu_of g.room) pv (pk X g) (pa X g) (hs1 _))
  · unfold sput at e
    cases ea : a ρ with
    | none => rw [ea] at e; cases e
    | some d =>
      cases ek' : k ρ with
      | none => simp only [ea, ek', Option.bind_some] at e; cases e
      | some kd =>
        simp only [ea, ek', Option.bind_some] at e
        split at e
        · rename_i ds n hi
          cases ej : ixN ds.length n with
          | none => rw [ej] at e; cases e
          | some j =>
            rw [ej] at e
            cases e
            obtain ⟨b, h1, h2, h3, vs, h4, h5⟩ := E.sl i _ hi
            refine .inl (sa H0 ρ σ G H _ d g.s E ea fun G1 H1 v g1 o1 => ⟨.ref b, h1, sk H0 ρ σ G1 H1 _ _ g1.s (E.grow g1) ek' fun G2 H2 w g2 o2 => ?_⟩)
            have o2 : Rep Γ.K Γ.C G2 w (.int n) := o2
            cases o2
            have g12 := g1.trans g2
            have h4' : H2 b = some (.lst vs) := g12.x _ _ h3 h4
            have h3' : G2 b = none := g12.keep h4 h3
            refine ⟨b, vs, n, j, rfl, rfl, h4', by rw [h5.length]; exact ej, ?_⟩
            exact q1 _ G2 _ σ rfl ((g.trans g12).updH h3' h2) g12.g (Own.upd_lst (E.grow g12) hi h1 h2 h3' (RepL.set (Rep.mono g2.g o1) j (h5.mono g12.g)))
        · rename_i kds ks hi
          cases en : asInts ks with
          | none => rw [en] at e; cases e
          | some ns =>
            simp only [en, Option.bind_some] at e
            split at e
            · rename_i hl
              cases e
              obtain ⟨b, h1, h2, h3, kvs, h4, h5, h6⟩ := E.sl i _ hi
              refine .inr (sa H0 ρ σ G H _ d g.s E ea fun G1 H1 v g1 o1 => ⟨.ref b, h1, sk H0 ρ σ G1 H1 _ _ g1.s (E.grow g1) ek' fun G2 H2 w g2 o2 => ?_⟩)
              have o2 : Rep Γ.K Γ.C G2 w (.tup ks) := o2
              cases o2 with
              | tup h7 h8 =>
                rw [asInts_eq en] at h8
                have e8 := kk_tup h8
                subst e8
                have g12 := g1.trans g2
                have h4' : H2 b = some (.dT kvs) := g12.x _ _ h3 h4
                have h3' : G2 b = none := by
                  by_cases q : G2 b = none
                  · exact q
                  · rcases g12.n b h3 q with e | ⟨ws, e⟩
                    · rw [h4] at e; cases e
                    · rw [h4] at e; cases e
                have hlen : kvs.length = kds.length := by
                  have := congrArg List.length h5
                  simpa using this
                obtain ⟨m1, m2⟩ := putK_map (ns := ns) h5 (h6.mono g12.g) (Rep.mono g2.g o1)
                refine ⟨b, _, rfl, .inr ⟨kvs, kk ns, _, h4', rfl, g2.s.tup h7, by rw [hlen]; exact big_lt hl, rfl⟩, ?_⟩
                exact q1 _ G2 _ σ rfl ((g.trans g12).updH h3' h2) g12.g ((E.grow g12).upd hi h1 h2 h3' ⟨_, upd_same, m1, m2⟩)
            · cases e
        · cases e
/-- {} whose keys are tuples -/
theorem d_dnew {pos : Pos} : DV Γ N sc .f (.Dict [] [] pos) (kc (.dct [])) := by
  refine ⟨tDNewT, fun X g => pe_dnewT, fun H0 ρ σ G H Q d s E e q => ?_⟩
  cases e
  exact fun p hp => q _ _ _ (Grow.newH s hp) ⟨p, rfl, hp, s.free hp, [], upd_same, rfl, .nil⟩
/-! ### a def -/
def startE (N : List Str) (ds : List D) : Env := ds.map Sl.sh ++ List.replicate (N.length - ds.length) Sl.no
def callD (N : List Str) (n : Nat) (F : Env → Option Res) (ds : List D) : Option D := if ds.length = n then (match F (startE N ds) with
  | some (.rt d) => some d
  | some (.nx _) => some .non
  | none => none) else none
theorem env_start {H0 : Hp} {vs : List V} {ds : List D} (N : List Str) (r : RepL Γ.K Γ.C G vs ds) : EnvOk Γ H0 G H (startE N ds) (L2.start N vs) := by
  have hl := r.length
  unfold startE L2.start
  refine ⟨by simp [hl], fun i s h => ?_, fun i j d e a hij h1 h2 _ => ?_⟩
  · by_cases hi : i < ds.length
    · rw [List.getElem?_append_left (by simpa using hi), List.getElem?_map] at h
      rw [List.getElem?_append_left (by simp; omega), List.getElem?_map]
      obtain ⟨d, hd⟩ : ∃ d, ds[i]? = some d := ⟨ds[i], List.getElem?_eq_getElem hi⟩
      rw [hd] at h
      cases h
      obtain ⟨v, hv, rv⟩ := r.get hd
      exact ⟨v, by rw [hv]; rfl, rv⟩
    · rw [List.getElem?_append_right (by simp; omega), List.getElem?_replicate] at h
      split at h
      · cases h; trivial
      · cases h
  · have no : ∀ k f, (ds.map Sl.sh ++ List.replicate (N.length - ds.length) Sl.no)[k]? ≠ some (Sl.ow f) := fun k f h => by
      by_cases hk : k < ds.length
      · rw [List.getElem?_append_left (by simpa using hk), List.getElem?_map, List.getElem?_eq_getElem hk] at h
        cases h
      · rw [List.getElem?_append_right (by simp; omega), List.getElem?_replicate] at h
        split at h <;> cases h
    exact absurd h1 (no i d)
theorem fnD {x qual : Str} {st : Stmt} {f : Addr} {fd : FuncData} {ps : List Str} {k : Nat} {F : Env → Option Res} (Fn : Fun Γ.K x qual st f fd) (S : FnScope N ps (defScope st)) (h : DSs (Γ.at k) N (defScope st) (defBody st) F) : FnOk Γ.P Γ.w Γ.K Γ.mg Γ.base CX0 (k + 1) f fd ps (spD Γ.K Γ.C (callD N ps.length F)) := by
  refine Fn.ok S (fun vs H Q E h => ?_) (fun cdv A outer s H vs Q E hr hsp => ?_)
  · obtain ⟨G, ds, d, _, r, e, _⟩ := h
    unfold callD at e
    split at e
    · rename_i hl; rw [r.length]; exact hl
    · cases e
  · obtain ⟨G, ds, d, s1, r, e, q⟩ := hsp
    obtain ⟨t, p, sm⟩ := h.ex
    refine ⟨t, p _ ⟨rfl, rfl, rfl, rfl, rfl, rfl, rfl, hr, rfl, rfl⟩ (fun _ => rfl), ?_⟩
    unfold callD at e
    split at e
    · split at e
      · rename_i d' eF
        cases e
        exact sm G H (startE N ds) (L2.start N vs) G H _ _ (Grow.refl s1) (env_start N r) eF (fun ρ' G' H' σ' er => by cases er) fun d2 G' H' v er g' rr => by cases er; exact q G' H' v g' rr
      · rename_i ρ' eF
        cases e
        exact sm G H (startE N ds) (L2.start N vs) G H _ _ (Grow.refl s1) (env_start N r) eF (fun ρ2 G' H' σ' er g' _ _ => q G' H' .non g' .non) fun d2 G' H' v er => by cases er
      · cases e
    · cases e
theorem hasD {x qual : Str} {st : Stmt} {f : Addr} {fd : FuncData} {ps : List Str} {k : Nat} {F : Env → Option Res} (Fn : Fun Γ.K x qual st f fd) (hm : Γ.mg x = some (.ref f)) (hb : Binds Γ.K fd ps []) (S : FnScope N ps (defScope st)) (h : DSs (Γ.at k) N (defScope st) (defBody st) F) : HasD (Γ.at (k + 1)) x (callD N ps.length F) :=
  ⟨k + 1, f, fd, ps, Nat.le_refl _, hm, Fn.kp, hb, fnD Fn S h⟩
end
end Pv
set_option Elab.async false
set_option linter.all false
set_option maxRecDepth 100000
set_option maxHeartbeats 4000000
set_option autoImplicit false
namespace Pv
open PySem PySem.Spec PyProof.Rows L2
/-! ### evaluating what the defs do: rows for simp -/
theorem mulD_l {i j : Int} (h : i.natAbs < 2 ^ 64) : mulD (.int i) (.int j) = some (.int (i * j)) := if_pos (.inl h)
theorem mulD_r {i j : Int} (h : j.natAbs < 2 ^ 64) : mulD (.int i) (.int j) = some (.int (i * j)) := if_pos (.inr h)
theorem addD_i {i j : Int} : addD (.int i) (.int j) = some (.int (i + j)) := (rfl)
theorem addD_t {xs ys : List D} (h : xs.length + ys.length < big) : addD (.tup xs) (.tup ys) = some (.tup (xs ++ ys)) := if_pos h
theorem addD_l {xs ys : List D} (h : xs.length + ys.length < big) : addD (.lst xs) (.lst ys) = some (.lst (xs ++ ys)) := if_pos h
theorem subD_i {i j : Int} : subD (.int i) (.int j) = some (.int (i - j)) := (rfl)
theorem negD_i {i : Int} : negD (.int i) = some (.int (-i)) := (rfl)
theorem absD_i {i : Int} : absD (.int i) = some (.int (if i < 0 then -i else i)) := (rfl)
theorem ltD_i {i j : Int} : ltD (.int i) (.int j) = some (.bl (decide (i < j))) := (rfl)
theorem leD_i {i j : Int} : leD (.int i) (.int j) = some (.bl (decide (i ≤ j))) := (rfl)
theorem gtD_i {i j : Int} : gtD (.int i) (.int j) = some (.bl (decide (j < i))) := (rfl)
theorem geD_i {i j : Int} : geD (.int i) (.int j) = some (.bl (decide (j ≤ i))) := (rfl)
theorem eqD_i {i j : Int} : eqD (.int i) (.int j) = some (.bl (i == j)) := (rfl)
theorem neD_i {i j : Int} : neD (.int i) (.int j) = some (.bl (!(i == j))) := (rfl)
theorem eqD_b {i j : Bool} : eqD (.bl i) (.bl j) = some (.bl (i == j)) := (rfl)
theorem neD_b {i j : Bool} : neD (.bl i) (.bl j) = some (.bl (!(i == j))) := (rfl)
theorem isD_b {i j : Bool} : isD (.bl i) (.bl j) = some (.bl (decide (i = j))) := (rfl)
theorem isntD_b {i j : Bool} : isntD (.bl i) (.bl j) = some (.bl (!decide (i = j))) := (rfl)
theorem modD_i {i j : Int} (h : 0 < j) : modD (.int i) (.int j) = some (.int (i % j)) := if_pos h
theorem fdivD_i {i j : Int} (h : 0 < j) (h2 : j < 2 ^ 64) : fdivD (.int i) (.int j) = some (.int (i / j)) := if_pos ⟨h, h2⟩
theorem ixT0 {x : D} {xs : List D} : ixD (.tup (x :: xs)) (.int 0) = some x := atI_nat (xs := x :: xs) (j := 0) rfl
theorem ixT1 {x y : D} {xs : List D} : ixD (.tup (x :: y :: xs)) (.int 1) = some y := atI_nat (xs := x :: y :: xs) (j := 1) rfl
theorem ixT2 {x y z : D} {xs : List D} : ixD (.tup (x :: y :: z :: xs)) (.int 2) = some z := atI_nat (xs := x :: y :: z :: xs) (j := 2) rfl
theorem ixT3 {x y z u : D} {xs : List D} : ixD (.tup (x :: y :: z :: u :: xs)) (.int 3) = some u := atI_nat (xs := x :: y :: z :: u :: xs) (j := 3) rfl
theorem tupD_s {xs : List D} (h : xs.length < big) : tupD xs = some (.tup xs) := if_pos h
theorem lstD_s {xs : List D} (h : xs.length < big) : lstD xs = some (.lst xs) := if_pos h
theorem tup0 : tupD [] = some (.tup []) := (rfl)
theorem tup1 {a : D} : tupD [a] = some (.tup [a]) := (rfl)
theorem tup2 {a b : D} : tupD [a, b] = some (.tup [a, b]) := (rfl)
theorem tup3 {a b c : D} : tupD [a, b, c] = some (.tup [a, b, c]) := (rfl)
theorem tup4 {a b c d : D} : tupD [a, b, c, d] = some (.tup [a, b, c, d]) := (rfl)
theorem lst0 : lstD [] = some (.lst []) := (rfl)
theorem lst1 {a : D} : lstD [a] = some (.lst [a]) := (rfl)
theorem lst2 {a b : D} : lstD [a, b] = some (.lst [a, b]) := (rfl)
theorem lst3 {a b c : D} : lstD [a, b, c] = some (.lst [a, b, c]) := (rfl)
theorem lst4 {a b c d : D} : lstD [a, b, c, d] = some (.lst [a, b, c, d]) := (rfl)
theorem lst5 {a b c d e : D} : lstD [a, b, c, d, e] = some (.lst [a, b, c, d, e]) := (rfl)
theorem lst7 {a b c d e f g : D} : lstD [a, b, c, d, e, f, g] = some (.lst [a, b, c, d, e, f, g]) := (rfl)
theorem lst8 {a b c d e f g h : D} : lstD [a, b, c, d, e, f, g, h] = some (.lst [a, b, c, d, e, f, g, h]) := (rfl)
theorem bindT1 {i : Nat} {a : D} {ρ : Env} : bindP (.tup [i]) (.tup [a]) ρ = some (ρ.set i (.sh a)) := (rfl)
theorem bindT2 {i j : Nat} {a b : D} {ρ : Env} : bindP (.tup [i, j]) (.tup [a, b]) ρ = some ((ρ.set i (.sh a)).set j (.sh b)) := (rfl)
theorem bindT3 {i j k : Nat} {a b c : D} {ρ : Env} : bindP (.tup [i, j, k]) (.tup [a, b, c]) ρ = some (((ρ.set i (.sh a)).set j (.sh b)).set k (.sh c)) := (rfl)
theorem bindT4 {i j k l : Nat} {a b c d : D} {ρ : Env} : bindP (.tup [i, j, k, l]) (.tup [a, b, c, d]) ρ = some ((((ρ.set i (.sh a)).set j (.sh b)).set k (.sh c)).set l (.sh d)) := (rfl)
theorem isiD_i {i : Int} : isiD "int" (.int i) = some (.bl true) := (rfl)
theorem isiD_ib {i : Bool} : isiD "int" (.bl i) = some (.bl true) := (rfl)
theorem isiD_is {i : Str} : isiD "int" (.str i) = some (.bl false) := (rfl)
theorem isiD_in : isiD "int" .non = some (.bl false) := (rfl)
theorem isiD_it {i : List D} : isiD "int" (.tup i) = some (.bl false) := (rfl)
theorem isiD_il {i : List D} : isiD "int" (.lst i) = some (.bl false) := (rfl)
theorem isiB_i {i : Int} : isiD "bool" (.int i) = some (.bl false) := (rfl)
theorem isiB_b {i : Bool} : isiD "bool" (.bl i) = some (.bl true) := (rfl)
theorem isiB_s {i : Str} : isiD "bool" (.str i) = some (.bl false) := (rfl)
theorem isiT_i {i : Int} : isiD "tuple" (.int i) = some (.bl false) := (rfl)
theorem isiT_b {i : Bool} : isiD "tuple" (.bl i) = some (.bl false) := (rfl)
theorem isiT_s {i : Str} : isiD "tuple" (.str i) = some (.bl false) := (rfl)
theorem isiT_n : isiD "tuple" .non = some (.bl false) := (rfl)
theorem isiT_t {i : List D} : isiD "tuple" (.tup i) = some (.bl true) := (rfl)
theorem isiT_l {i : List D} : isiD "tuple" (.lst i) = some (.bl false) := (rfl)
theorem truD_b {b : Bool} : truD (.bl b) = some b := (rfl)
theorem truD_t {xs : List D} : truD (.tup xs) = some (!xs.isEmpty) := (rfl)
theorem truD_l {xs : List D} : truD (.lst xs) = some (!xs.isEmpty) := (rfl)
theorem lenD_t {xs : List D} : lenD (.tup xs) = some (.int xs.length) := (rfl)
theorem lenD_l {xs : List D} : lenD (.lst xs) = some (.int xs.length) := (rfl)
theorem notD_b {b : Bool} : notD (.bl b) = some (.bl (!b)) := (rfl)
theorem tupleD_l {xs : List D} : tupleD (.lst xs) = some (.tup xs) := (rfl)
theorem tupleD_t {xs : List D} : tupleD (.tup xs) = some (.tup xs) := (rfl)
theorem allD_b (bs : List Bool) : allD (.lst (bs.map D.bl)) = some (.bl (bs.all id)) := by
  show (asBls (bs.map D.bl)).bind _ = _
  rw [asBls_map]; rfl
theorem anyD_b (bs : List Bool) : anyD (.lst (bs.map D.bl)) = some (.bl (bs.any id)) := by
  show (asBls (bs.map D.bl)).bind _ = _
  rw [asBls_map]; rfl
theorem sumD_i (ns : List Int) : sumD (.lst (ns.map D.int)) = some (.int ns.sum) := by
  show (asInts (ns.map D.int)).bind _ = _
  rw [asInts_map]; rfl
theorem sumD_t (ns : List Int) : sumD (.tup (ns.map D.int)) = some (.int ns.sum) := by
  show (asInts (ns.map D.int)).bind _ = _
  rw [asInts_map]; rfl
theorem bindP1 {i : Nat} {d : D} {ρ : Env} : bindP (.one i) d ρ = some (ρ.set i (.sh d)) := (rfl)
theorem bindPt {is : List Nat} {ds : List D} {ρ : Env} (h : ds.length = is.length) : bindP (.tup is) (.tup ds) ρ = some (setE ρ is ds) := if_pos h
theorem nm_at {i : Nat} {ρ : Env} {d : D} (h : ρ[i]? = some (.sh d)) : nm i ρ = some d := by unfold nm; rw [h]
theorem nb_at {i : Nat} {ρ : Env} {d : D} (h : ρ[i]? = some (.sh d)) : nb i ρ = some d := by unfold nb; rw [h]
theorem nb_ow {i : Nat} {ρ : Env} {d : D} (h : ρ[i]? = some (.ow d)) : nb i ρ = some d := by unfold nb; rw [h]
theorem nm_0 {d : D} {ρ : Env} : nm 0 (.sh d :: ρ) = some d := (rfl)
theorem nb_0 {d : D} {ρ : Env} : nb 0 (.sh d :: ρ) = some d := (rfl)
theorem nbo_0 {d : D} {ρ : Env} : nb 0 (.ow d :: ρ) = some d := (rfl)
theorem nm_s {i : Nat} {s : Sl} {ρ : Env} : nm (i + 1) (s :: ρ) = nm i ρ := by unfold nm; rw [List.getElem?_cons_succ]
theorem nb_s {i : Nat} {s : Sl} {ρ : Env} : nb (i + 1) (s :: ρ) = nb i ρ := by unfold nb; rw [List.getElem?_cons_succ]
/-- a def's end -/
def endD : Option Res → Option D
  | some (.rt d) => some d
  | some (.nx _) => some .non
  | none => none
theorem callD_eq {N : List Str} {n : Nat} {F : Env → Option Res} {ds : List D} (h : ds.length = n) : callD N n F ds = endD (F (startE N ds)) := by
  unfold callD
  rw [if_pos h]
  cases F (startE N ds) with
  | none => rfl
  | some r => cases r <;> rfl
theorem endD_ret {x : Option D} : endD (x.bind fun d => some (.rt d)) = x := by cases x <;> rfl
theorem endD_rt {d : D} : endD (some (.rt d)) = some d := (rfl)
def seqR (r : Option Res) (g : Env → Option Res) : Option Res := r.bind fun r => match r with
  | .nx ρ' => g ρ'
  | .rt d => some (.rt d)
theorem sseq_eq {f g : Env → Option Res} {ρ : Env} : sseq f g ρ = seqR (f ρ) g := (rfl)
theorem seqR_nx {ρ : Env} {g : Env → Option Res} : seqR (some (.nx ρ)) g = g ρ := (rfl)
theorem seqR_rt {d : D} {g : Env → Option Res} : seqR (some (.rt d)) g = some (.rt d) := (rfl)
theorem seqR_ite {c : Prop} [Decidable c] {a b : Option Res} {g : Env → Option Res} : seqR (if c then a else b) g = if c then seqR a g else seqR b g := by split <;> rfl
theorem endD_ite {c : Prop} [Decidable c] {a b : Option Res} : endD (if c then a else b) = if c then endD a else endD b := by split <;> rfl
theorem bind_ite {α β : Type} {c : Prop} [Decidable c] {a b : Option α} {g : α → Option β} : (if c then a else b).bind g = if c then a.bind g else b.bind g := by split <;> rfl
theorem ite_some {α : Type} {c : Prop} [Decidable c] {a b : α} : (if c then some a else some b) = some (if c then a else b) := by split <;> rfl
theorem mulD_lit {n : Nat} {j : Int} (h : (OfNat.ofNat n : Int).natAbs < 2 ^ 64) : mulD (.int (OfNat.ofNat n)) (.int j) = some (.int (OfNat.ofNat n * j)) := mulD_l h
theorem sret_eq {a : Env → Option D} {ρ : Env} : sret a ρ = (a ρ).bind fun d => some (.rt d) := (rfl)
theorem sset_eq {i : Nat} {a : Env → Option D} {ρ : Env} : sset i a ρ = (a ρ).bind fun d => some (.nx (ρ.set i (.sh d))) := (rfl)
theorem sown_eq {i : Nat} {a : Env → Option D} {ρ : Env} : sown i a ρ = (a ρ).bind fun d => some (.nx (ρ.set i (.ow d))) := (rfl)
theorem sbind_eq {p : Pat} {a : Env → Option D} {ρ : Env} : sbind p a ρ = (a ρ).bind fun d => (bindP p d ρ).bind fun ρ' => some (.nx ρ') := (rfl)
theorem snx_eq {ρ : Env} : snx ρ = some (.nx ρ) := (rfl)
theorem sif_eq {c : Env → Option Bool} {a b : Env → Option Res} {ρ : Env} : sif c a b ρ = (c ρ).bind fun k => if k = true then a ρ else b ρ := (rfl)
theorem f1_eq {g : D → Option D} {a : Env → Option D} {ρ : Env} : f1 g a ρ = (a ρ).bind g := (rfl)
theorem f2_eq {g : D → D → Option D} {a b : Env → Option D} {ρ : Env} : f2 g a b ρ = (a ρ).bind fun x => (b ρ).bind fun y => g x y := (rfl)
theorem fN_eq {g : List D → Option D} {a : Env → Option (List D)} {ρ : Env} : fN g a ρ = (a ρ).bind g := (rfl)
theorem fcons_eq {a : Env → Option D} {r : Env → Option (List D)} {ρ : Env} : fcons a r ρ = (a ρ).bind fun x => (r ρ).bind fun xs => some (x :: xs) := (rfl)
theorem fnil_eq {ρ : Env} : fnil ρ = some [] := (rfl)
theorem kc_eq {d : D} {ρ : Env} : kc d ρ = some d := (rfl)
theorem tv_eq {a : Env → Option D} {ρ : Env} : tv a ρ = (a ρ).bind truD := (rfl)
def boolD : D → Option Bool
  | .bl c => some c
  | _ => none
theorem boolD_b {b : Bool} : boolD (.bl b) = some b := (rfl)
theorem tb_eq {a : Env → Option D} {ρ : Env} : tb a ρ = (a ρ).bind boolD := by
  unfold tb boolD
  cases a ρ with
  | none => rfl
  | some d => cases d <;> rfl
theorem tor_eq {a b : Env → Option Bool} {ρ : Env} : tor a b ρ = (a ρ).bind fun c => if c = true then some true else b ρ := (rfl)
theorem tand_eq {a b : Env → Option Bool} {ρ : Env} : tand a b ρ = (a ρ).bind fun c => if c = true then b ρ else some false := (rfl)
theorem tnot_eq {a : Env → Option Bool} {ρ : Env} : tnot a ρ = (a ρ).bind fun c => some (!c) := (rfl)
theorem vand_eq {a b : Env → Option D} {ρ : Env} : vand a b ρ = (a ρ).bind fun x => (truD x).bind fun c => if c = true then b ρ else some x := (rfl)
theorem vor_eq {a b : Env → Option D} {ρ : Env} : vor a b ρ = (a ρ).bind fun x => (truD x).bind fun c => if c = true then some x else b ρ := (rfl)
theorem spar_eq {i j : Nat} {a b : Env → Option D} {ρ : Env} : spar i j a b ρ = (a ρ).bind fun x => (b ρ).bind fun y => some (.nx ((ρ.set i (.sh x)).set j (.sh y))) := (rfl)
theorem sfor_eq {I : Env → Option (List D)} {p : Pat} {b : Env → Option Res} {ρ : Env} : sfor I p b ρ = (I ρ).bind fun items => forD p b items ρ := (rfl)
theorem iseq_eq {a : Env → Option D} {ρ : Env} : iseq a ρ = (a ρ).bind seqD := (rfl)
theorem seqD_l {xs : List D} : seqD (.lst xs) = some xs := (rfl)
theorem seqD_t {xs : List D} : seqD (.tup xs) = some xs := (rfl)
theorem ienum_eq {a : Env → Option D} {ρ : Env} : ienum a ρ = (a ρ).bind enumD := (rfl)
theorem enumD_l {xs : List D} : enumD (.lst xs) = some (numL xs 0) := (rfl)
theorem enumD_t {xs : List D} : enumD (.tup xs) = some (numL xs 0) := (rfl)
def inR (j : Int) : Prop := -(2 ^ 40) ≤ j ∧ j < 2 ^ 40
noncomputable def gdR {α : Type} (p : Prop) (x : α) : Option α := @ite _ p (Classical.propDecidable p) (some x) none
theorem gdR_t {α : Type} {p : Prop} {x : α} (h : p) : gdR p x = some x := if_pos h
theorem gdR_e {α : Type} {p : Prop} [Decidable p] {x : α} : (if p then some x else none) = gdR p x := by
  by_cases h : p
  · rw [if_pos h, gdR_t h]
  · rw [if_neg h]; exact (if_neg h).symm
noncomputable def rng1D : D → Option (List D)
  | .int j => gdR (-(2 ^ 40) ≤ j ∧ j < 2 ^ 40) (rangeL 0 j)
  | _ => none
theorem rng1D_i {j : Int} (h : -(2 ^ 40) ≤ j ∧ j < 2 ^ 40) : rng1D (.int j) = some (rangeL 0 j) := gdR_t h
theorem irange1_eq {a : Env → Option D} {ρ : Env} : irange1 a ρ = (a ρ).bind rng1D := by
  unfold irange1
  cases a ρ with
  | none => rfl
  | some d => cases d <;> first | rfl | exact gdR_e
noncomputable def rng2D : D → D → Option (List D)
  | .int i, .int j => gdR (-(2 ^ 40) ≤ i ∧ i < 2 ^ 40 ∧ -(2 ^ 40) ≤ j ∧ j < 2 ^ 40) (rangeL i j)
  | _, _ => none
theorem rng2D_i {i j : Int} (h : -(2 ^ 40) ≤ i ∧ i < 2 ^ 40 ∧ -(2 ^ 40) ≤ j ∧ j < 2 ^ 40) : rng2D (.int i) (.int j) = some (rangeL i j) := gdR_t h
theorem irange2_eq {a b : Env → Option D} {ρ : Env} : irange2 a b ρ = (a ρ).bind fun x => (b ρ).bind fun y => rng2D x y := by
  unfold irange2
  cases a ρ with
  | none => rfl
  | some d => cases b ρ with
    | none => cases d <;> rfl
    | some e => cases d <;> cases e <;> first | rfl | exact gdR_e
theorem lcF_eq {vs : List Nat} {I : Env → Option (List D)} {p : Pat} {T : Env → Option Bool} {E : Env → Option D} {ρ : Env} : lcF vs I p T E ρ = (I ρ).bind fun items => (lcGo p T E (wipeE ρ vs) items).bind fun out => if items.length < big then some (.lst out) else none := (rfl)
def chL (g' : D → D → Option D) (y : D) (c : Option D) : D → Option D
  | .bl true => c.bind fun w => g' y w
  | .bl false => some (.bl false)
  | _ => none
theorem chL_t {g' : D → D → Option D} {y : D} {c : Option D} : chL g' y c (.bl true) = c.bind fun w => g' y w := (rfl)
theorem chL_f {g' : D → D → Option D} {y : D} {c : Option D} : chL g' y c (.bl false) = some (.bl false) := (rfl)
theorem fch_eq {g g' : D → D → Option D} {a b c : Env → Option D} {ρ : Env} : fch g g' a b c ρ = (a ρ).bind fun x => (b ρ).bind fun y => (g x y).bind (chL g' y (c ρ)) := by
  unfold fch
  have e : ∀ (y z : D), (match z with
    | .bl true => (c ρ).bind fun w => g' y w
    | .bl false => some (.bl false)
    | _ => none) = chL g' y (c ρ) z := fun y z => by
      cases z <;> first | rfl | (rename_i b; cases b <;> rfl)
  cases a ρ with
  | none => rfl
  | some x =>
    cases b ρ with
    | none => rfl
    | some y =>
      show (g x y).bind _ = (g x y).bind _
      cases g x y with
      | none => rfl
      | some z => exact e y z
theorem onone_eq {ρ : Env} : onone ρ = some none := (rfl)
def intO : D → Option (Option Int)
  | .int i => some (some i)
  | _ => none
theorem intO_i {i : Int} : intO (.int i) = some (some i) := (rfl)
theorem osome_eq {a : Env → Option D} {ρ : Env} : osome a ρ = (a ρ).bind intO := by
  unfold osome intO
  cases a ρ with
  | none => rfl
  | some d => cases d <;> rfl
theorem fsl_eq {a : Env → Option D} {l h : Env → Option (Option Int)} {ρ : Env} : fsl a l h ρ = (a ρ).bind fun x => (l ρ).bind fun lo => (h ρ).bind fun hi => slD x lo hi := (rfl)
theorem sdrop_eq {a : Env → Option D} {ρ : Env} : sdrop a ρ = (a ρ).bind fun _ => some (.nx ρ) := (rfl)
/-! ### loops and comprehensions over data -/
theorem lcGo_map {α : Type} {p : Pat} {T : Env → Option Bool} {E : Env → Option D} {ρ : Env} (enc : α → D) (t : α → Bool) (g : α → D) : ∀ (xs : List α), (∀ x ∈ xs, ∃ ρ1, bindP p (enc x) ρ = some ρ1 ∧ T ρ1 = some (t x) ∧ (t x = true → E ρ1 = some (g x))) → lcGo p T E ρ (xs.map enc) = some ((xs.filter t).map g)
  | [], _ => rfl
  | x :: xs, h => by
    obtain ⟨ρ1, h1, h2, h3⟩ := h x List.mem_cons_self
    have ih := lcGo_map enc t g xs fun y hy => h y (List.mem_cons_of_mem _ hy)
    rw [List.map_cons]
    unfold lcGo
    rw [h1, Option.bind_some, h2, Option.bind_some, ih]
    cases ht : t x with
    | true => rw [if_pos rfl, h3 ht, List.filter_cons_of_pos ht]; rfl
    | false => rw [if_neg Bool.false_ne_true, List.filter_cons_of_neg (by rw [ht]; exact Bool.false_ne_true)]
theorem lcGo_all {α : Type} {p : Pat} {E : Env → Option D} {ρ : Env} (enc : α → D) (g : α → D) (xs : List α) (h : ∀ x ∈ xs, ∃ ρ1, bindP p (enc x) ρ = some ρ1 ∧ E ρ1 = some (g x)) : lcGo p tyes E ρ (xs.map enc) = some (xs.map g) := by
  rw [lcGo_map enc (fun _ => true) g xs fun x hx => ?_]
  · rw [List.filter_eq_self.mpr fun _ _ => rfl]
  · obtain ⟨ρ1, h1, h2⟩ := h x hx
    exact ⟨ρ1, h1, rfl, fun _ => h2⟩
theorem forD_nx {α : Type} {p : Pat} {b : Env → Option Res} (enc : α → D) (I : Env → Prop) : ∀ (xs : List α), (∀ x ∈ xs, ∀ ρ, I ρ → ∃ ρ1 ρ2, bindP p (enc x) ρ = some ρ1 ∧ b ρ1 = some (.nx ρ2) ∧ I ρ2) → ∀ ρ, I ρ → ∃ ρ', forD p b (xs.map enc) ρ = some (.nx ρ') ∧ I ρ'
  | [], _, ρ, h0 => ⟨ρ, rfl, h0⟩
  | x :: xs, h, ρ, h0 => by
    obtain ⟨ρ1, ρ2, h1, h2, h3⟩ := h x List.mem_cons_self ρ h0
    obtain ⟨ρ', h4, h5⟩ := forD_nx enc I xs (fun y hy => h y (List.mem_cons_of_mem _ hy)) ρ2 h3
    refine ⟨ρ', ?_, h5⟩
    rw [List.map_cons]
    unfold forD
    rw [h1, Option.bind_some, h2, Option.bind_some]
    exact h4
/-- a loop that carries a state: st is told by the turn's items so far -/
theorem forD_fold {α β : Type} {p : Pat} {b : Env → Option Res} (enc : α → D) (f : β → α → β) (I : β → Env → Prop) : ∀ (xs : List α) (s : β), (∀ x ∈ xs, ∀ s ρ, I s ρ → ∃ ρ1 ρ2, bindP p (enc x) ρ = some ρ1 ∧ b ρ1 = some (.nx ρ2) ∧ I (f s x) ρ2) → ∀ ρ, I s ρ → ∃ ρ', forD p b (xs.map enc) ρ = some (.nx ρ') ∧ I (xs.foldl f s) ρ'
  | [], s, _, ρ, h0 => ⟨ρ, rfl, h0⟩
  | x :: xs, s, h, ρ, h0 => by
    obtain ⟨ρ1, ρ2, h1, h2, h3⟩ := h x List.mem_cons_self s ρ h0
    obtain ⟨ρ', h4, h5⟩ := forD_fold enc f I xs (f s x) (fun y hy => h y (List.mem_cons_of_mem _ hy)) ρ2 h3
    refine ⟨ρ', ?_, h5⟩
    rw [List.map_cons]
    unfold forD
    rw [h1, Option.bind_some, h2, Option.bind_some]
    exact h4
theorem numL_map {α : Type} (enc : α → D) : ∀ (xs : List α) (k : Nat), numL (xs.map enc) k = (xs.zipIdx k).map fun p => D.tup [.int (p.2 : Int), enc p.1]
  | [], _ => rfl
  | x :: xs, k => by
    rw [List.map_cons, List.zipIdx_cons, List.map_cons]
    show _ :: numL (xs.map enc) (k + 1) = _
    rw [numL_map enc xs (k + 1)]
theorem whileD_t {c : Env → Option Bool} {b : Env → Option Res} {n : Nat} {ρ ρ' : Env} (hc : c ρ = some true) (hb : b ρ = some (.nx ρ')) : whileD c b (n + 1) ρ = whileD c b n ρ' := by
  show (c ρ).bind _ = _
  rw [hc, Option.bind_some, if_pos rfl, hb]; rfl
theorem whileD_f {c : Env → Option Bool} {b : Env → Option Res} {n : Nat} {ρ : Env} (hc : c ρ = some false) : whileD c b (n + 1) ρ = some (.nx ρ) := by
  show (c ρ).bind _ = _
  rw [hc, Option.bind_some, if_neg Bool.false_ne_true]
end Pv
set_option Elab.async false
set_option linter.all false
set_option maxRecDepth 100000
set_option maxHeartbeats 4000000
set_option autoImplicit false
namespace Pv
open PySem PySem.Spec PyProof.Rows L2
/-! ### slices, wipes, loops: more rows -/
theorem cutL_take {α : Type} (xs : List α) (k : Nat) : cutL xs none (some (k : Int)) = xs.take k := by
  unfold cutL
  rw [HT.sIx_none, HT.sIx_nat, List.drop_zero, Nat.sub_zero]
  by_cases h : k ≤ xs.length
  · rw [Nat.min_eq_left h]
  · rw [Nat.min_eq_right (by omega), List.take_length, List.take_of_length_le (by omega)]
theorem slT {xs : List D} {k : Nat} : slD (.tup xs) none (some (OfNat.ofNat k)) = some (.tup (xs.take k)) := congrArg (fun z : List D => some (D.tup z)) (cutL_take xs k)
theorem slL {xs : List D} {k : Nat} : slD (.lst xs) none (some (OfNat.ofNat k)) = some (.lst (xs.take k)) := congrArg (fun z : List D => some (D.lst z)) (cutL_take xs k)
theorem slS {xs : List Int} {k : Nat} : slD (.scr xs) none (some (OfNat.ofNat k)) = some (.lst ((xs.take k).map D.int)) := congrArg (fun z : List Int => some (D.lst (z.map D.int))) (cutL_take xs k)
theorem slT_1 {xs : List D} : slD (.tup xs) none (some 1) = some (.tup (xs.take 1)) := slT
theorem slL_1 {xs : List D} : slD (.lst xs) none (some 1) = some (.lst (xs.take 1)) := slL
theorem slS_1 {xs : List Int} : slD (.scr xs) none (some 1) = some (.lst ((xs.take 1).map D.int)) := slS
theorem slT_2 {xs : List D} : slD (.tup xs) none (some 2) = some (.tup (xs.take 2)) := slT
theorem slL_2 {xs : List D} : slD (.lst xs) none (some 2) = some (.lst (xs.take 2)) := slL
theorem slS_2 {xs : List Int} : slD (.scr xs) none (some 2) = some (.lst ((xs.take 2).map D.int)) := slS
theorem slT_3 {xs : List D} : slD (.tup xs) none (some 3) = some (.tup (xs.take 3)) := slT
theorem slL_3 {xs : List D} : slD (.lst xs) none (some 3) = some (.lst (xs.take 3)) := slL
theorem slS_3 {xs : List Int} : slD (.scr xs) none (some 3) = some (.lst ((xs.take 3).map D.int)) := slS
theorem slT_4 {xs : List D} : slD (.tup xs) none (some 4) = some (.tup (xs.take 4)) := slT
theorem slL_4 {xs : List D} : slD (.lst xs) none (some 4) = some (.lst (xs.take 4)) := slL
theorem slS_4 {xs : List Int} : slD (.scr xs) none (some 4) = some (.lst ((xs.take 4).map D.int)) := slS
theorem slT_5 {xs : List D} : slD (.tup xs) none (some 5) = some (.tup (xs.take 5)) := slT
theorem slL_5 {xs : List D} : slD (.lst xs) none (some 5) = some (.lst (xs.take 5)) := slL
theorem slS_5 {xs : List Int} : slD (.scr xs) none (some 5) = some (.lst ((xs.take 5).map D.int)) := slS
theorem slT_6 {xs : List D} : slD (.tup xs) none (some 6) = some (.tup (xs.take 6)) := slT
theorem slL_6 {xs : List D} : slD (.lst xs) none (some 6) = some (.lst (xs.take 6)) := slL
theorem slS_6 {xs : List Int} : slD (.scr xs) none (some 6) = some (.lst ((xs.take 6).map D.int)) := slS
theorem slT_7 {xs : List D} : slD (.tup xs) none (some 7) = some (.tup (xs.take 7)) := slT
theorem slL_7 {xs : List D} : slD (.lst xs) none (some 7) = some (.lst (xs.take 7)) := slL
theorem slS_7 {xs : List Int} : slD (.scr xs) none (some 7) = some (.lst ((xs.take 7).map D.int)) := slS
theorem slT_8 {xs : List D} : slD (.tup xs) none (some 8) = some (.tup (xs.take 8)) := slT
theorem slL_8 {xs : List D} : slD (.lst xs) none (some 8) = some (.lst (xs.take 8)) := slL
theorem slS_8 {xs : List Int} : slD (.scr xs) none (some 8) = some (.lst ((xs.take 8).map D.int)) := slS
theorem slT_9 {xs : List D} : slD (.tup xs) none (some 9) = some (.tup (xs.take 9)) := slT
theorem slL_9 {xs : List D} : slD (.lst xs) none (some 9) = some (.lst (xs.take 9)) := slL
theorem slS_9 {xs : List Int} : slD (.scr xs) none (some 9) = some (.lst ((xs.take 9).map D.int)) := slS
theorem slT_10 {xs : List D} : slD (.tup xs) none (some 10) = some (.tup (xs.take 10)) := slT
theorem slL_10 {xs : List D} : slD (.lst xs) none (some 10) = some (.lst (xs.take 10)) := slL
theorem slS_10 {xs : List Int} : slD (.scr xs) none (some 10) = some (.lst ((xs.take 10).map D.int)) := slS
theorem slT_12 {xs : List D} : slD (.tup xs) none (some 12) = some (.tup (xs.take 12)) := slT
theorem slL_12 {xs : List D} : slD (.lst xs) none (some 12) = some (.lst (xs.take 12)) := slL
theorem slS_12 {xs : List Int} : slD (.scr xs) none (some 12) = some (.lst ((xs.take 12).map D.int)) := slS
theorem slT_16 {xs : List D} : slD (.tup xs) none (some 16) = some (.tup (xs.take 16)) := slT
theorem slL_16 {xs : List D} : slD (.lst xs) none (some 16) = some (.lst (xs.take 16)) := slL
theorem slS_16 {xs : List Int} : slD (.scr xs) none (some 16) = some (.lst ((xs.take 16).map D.int)) := slS
theorem addD_L {xs ys : List D} (n : Nat) (h : xs.length + ys.length = n) (h2 : n < big) : addD (.lst xs) (.lst ys) = some (.lst (xs ++ ys)) := addD_l (by omega)
theorem addD_T {xs ys : List D} (n : Nat) (h : xs.length + ys.length = n) (h2 : n < big) : addD (.tup xs) (.tup ys) = some (.tup (xs ++ ys)) := addD_t (by omega)
theorem lstD_n {xs : List D} (n : Nat) (h : xs.length = n) (h2 : n < big) : lstD xs = some (.lst xs) := lstD_s (by omega)
theorem tupD_n {xs : List D} (n : Nat) (h : xs.length = n) (h2 : n < big) : tupD xs = some (.tup xs) := tupD_s (by omega)
theorem obs {α β : Type} {a : α} {f : α → Option β} : (some a).bind f = f a := (rfl)
theorem obn {α β : Type} {f : α → Option β} : (none : Option α).bind f = none := (rfl)
theorem ls0 {α : Type} {x y : α} {xs : List α} : (x :: xs).set 0 y = y :: xs := (rfl)
theorem lsS {α : Type} {x y : α} {n : Nat} {xs : List α} : (x :: xs).set (n + 1) y = x :: xs.set n y := (rfl)
theorem wipe_nil {ρ : Env} : wipeE ρ [] = ρ := (rfl)
theorem wipe_cons {ρ : Env} {v : Nat} {vs : List Nat} : wipeE ρ (v :: vs) = (wipeE ρ vs).set v .no := (rfl)
theorem swhile_eq {c : Env → Option Bool} {b : Env → Option Res} {ρ : Env} : swhile c b ρ = whileD c b fuel ρ := (rfl)
/-- it ends with a state that keeps I -/
def nxP (r : Option Res) (I : Env → Prop) : Prop := ∃ ρ', r = some (.nx ρ') ∧ I ρ'
theorem nxP_nx {I : Env → Prop} {ρ : Env} (h : I ρ) : nxP (some (.nx ρ)) I := ⟨ρ, rfl, h⟩
theorem nxP_seq {I J : Env → Prop} {r : Option Res} {g : Env → Option Res} (h : nxP r I) (hg : ∀ ρ, I ρ → nxP (g ρ) J) : nxP (seqR r g) J := by
  obtain ⟨ρ, rfl, h1⟩ := h
  exact hg ρ h1
theorem nxP_mono {I J : Env → Prop} {r : Option Res} (h : nxP r I) (hg : ∀ ρ, I ρ → J ρ) : nxP r J := by
  obtain ⟨ρ, rfl, h1⟩ := h
  exact ⟨ρ, rfl, hg ρ h1⟩
theorem endP_seq {I : Env → Prop} {r : Option Res} {g : Env → Option Res} {d : Option D} (h : nxP r I) (hg : ∀ ρ, I ρ → endD (g ρ) = d) : endD (seqR r g) = d := by
  obtain ⟨ρ, rfl, h1⟩ := h
  exact hg ρ h1
theorem nxP_for {α : Type} {p : Pat} {b : Env → Option Res} (enc : α → D) {I : Env → Prop} (xs : List α) (h : ∀ x ∈ xs, ∀ ρ, I ρ → ∃ ρ1, bindP p (enc x) ρ = some ρ1 ∧ nxP (b ρ1) I) {ρ : Env} (h0 : I ρ) : nxP (forD p b (xs.map enc) ρ) I := by
  obtain ⟨ρ', h1, h2⟩ := forD_nx enc I xs (fun x hx ρ hρ => by
    obtain ⟨ρ1, e1, ρ2, e2, i2⟩ := h x hx ρ hρ
    exact ⟨ρ1, ρ2, e1, e2, i2⟩) ρ h0
  exact ⟨ρ', h1, h2⟩
theorem nxP_forI {p : Pat} {b : Env → Option Res} {I : Env → Prop} (xs : List D) (h : ∀ x ∈ xs, ∀ ρ, I ρ → ∃ ρ1, bindP p x ρ = some ρ1 ∧ nxP (b ρ1) I) {ρ : Env} (h0 : I ρ) : nxP (forD p b xs ρ) I := by
  have := nxP_for (p := p) (b := b) (id : D → D) xs h h0
  rwa [List.map_id] at this
theorem nxP_fold {α β : Type} {p : Pat} {b : Env → Option Res} (enc : α → D) (f : β → α → β) (I : β → Env → Prop) (xs : List α) (s : β) (h : ∀ x ∈ xs, ∀ s ρ, I s ρ → ∃ ρ1, bindP p (enc x) ρ = some ρ1 ∧ nxP (b ρ1) (I (f s x))) {ρ : Env} (h0 : I s ρ) : nxP (forD p b (xs.map enc) ρ) (I (xs.foldl f s)) := by
  obtain ⟨ρ', h1, h2⟩ := forD_fold enc f I xs s (fun x hx s ρ hρ => by
    obtain ⟨ρ1, e1, ρ2, e2, i2⟩ := h x hx s ρ hρ
    exact ⟨ρ1, ρ2, e1, e2, i2⟩) ρ h0
  exact ⟨ρ', h1, h2⟩
theorem lcF_map {α : Type} {vs : List Nat} {Is : Env → Option (List D)} {p : Pat} {T : Env → Option Bool} {E : Env → Option D} {ρ : Env} (enc : α → D) (t : α → Bool) (g : α → D) (xs : List α) (hI : Is ρ = some (xs.map enc)) (hl : xs.length < big) (h : ∀ x ∈ xs, ∃ ρ1, bindP p (enc x) (wipeE ρ vs) = some ρ1 ∧ T ρ1 = some (t x) ∧ (t x = true → E ρ1 = some (g x))) : lcF vs Is p T E ρ = some (.lst ((xs.filter t).map g)) := by
  rw [lcF_eq, hI, Option.bind_some, lcGo_map enc t g xs h, Option.bind_some, List.length_map, if_pos hl]
theorem lcF_all {α : Type} {vs : List Nat} {Is : Env → Option (List D)} {p : Pat} {E : Env → Option D} {ρ : Env} (enc : α → D) (g : α → D) (xs : List α) (hI : Is ρ = some (xs.map enc)) (hl : xs.length < big) (h : ∀ x ∈ xs, ∃ ρ1, bindP p (enc x) (wipeE ρ vs) = some ρ1 ∧ E ρ1 = some (g x)) : lcF vs Is p tyes E ρ = some (.lst (xs.map g)) := by
  rw [lcF_eq, hI, Option.bind_some, lcGo_all enc g xs h, Option.bind_some, List.length_map, if_pos hl]
theorem rangeL_nat (n : Nat) : rangeL 0 (n : Int) = (List.range n).map fun i => D.int (i : Nat) := by
  unfold rangeL
  rw [Int.sub_zero, Int.toNat_natCast]
  exact List.map_congr_left fun i _ => by rw [Int.zero_add]
theorem Int.ex_nat {a : Int} (h : 0 ≤ a) : ∃ n : Nat, a = (n : Int) := ⟨a.toNat, (Int.toNat_of_nonneg h).symm⟩
theorem k24 : (24 : Int).natAbs < 2 ^ 64 := by decide
theorem k1 : (1 : Int).natAbs < 2 ^ 64 := by decide
/-- a while loop that a measure ends -/
theorem whileD_ind {c : Env → Option Bool} {b : Env → Option Res} {α : Type} (st : α → Env) (ok : α → Prop) (go : α → Bool) (nx : α → α) (m : α → Nat) (hc : ∀ a, ok a → c (st a) = some (go a)) (hb : ∀ a, ok a → go a = true → b (st a) = some (.nx (st (nx a))) ∧ ok (nx a) ∧ m (nx a) < m a) (J : α → Prop) (hJ : ∀ a, ok a → go a = true → J a → J (nx a)) : ∀ (n : Nat) (a : α), ok a → J a → m a < n → ∃ z, whileD c b n (st a) = some (.nx (st z)) ∧ ok z ∧ go z = false ∧ J z
  | 0, _, _, _, h => absurd h (Nat.not_lt_zero _)
  | n + 1, a, h1, hj, h => by
    cases g : go a with
    | false => exact ⟨a, whileD_f (by rw [hc a h1, g]), h1, g, hj⟩
    | true =>
      obtain ⟨e1, e2, e3⟩ := hb a h1 g
      rw [whileD_t (by rw [hc a h1, g]) e1]
      exact whileD_ind st ok go nx m hc hb J hJ n (nx a) e2 (hJ a h1 g hj) (by omega)
theorem listD_t {xs : List D} : listD (.tup xs) = some (.lst xs) := (rfl)
theorem listD_l {xs : List D} : listD (.lst xs) = some (.lst xs) := (rfl)
theorem eqL_refl {f : D → D → Bool} : ∀ (xs : List D), (∀ x ∈ xs, f x x = true) → eqL f xs xs = true
  | [], _ => rfl
  | x :: xs, h => by
    show (f x x && eqL f xs xs) = true
    rw [h x List.mem_cons_self, eqL_refl xs fun y hy => h y (List.mem_cons_of_mem _ hy)]; rfl
theorem eqN_refl : ∀ (n : Nat) (d : D), okD n d = true → eqN n d d = true
  | 0, _, h => by cases h
  | n + 1, d, h => by
    cases d <;> first | rfl | cases h | skip
    · exact beq_self_eq_true _
    · exact beq_self_eq_true _
    · exact eqL_refl _ fun x hx => eqN_refl n x (List.all_eq_true.mp h x hx)
    · exact eqL_refl _ fun x hx => eqN_refl n x (List.all_eq_true.mp h x hx)
theorem okD_ints (n : Nat) (ns : List Int) : okD (n + 2) (.tup (ns.map D.int)) = true := by
  show (ns.map D.int).all (okD (n + 1)) = true
  rw [List.all_map]
  exact List.all_eq_true.mpr fun _ _ => rfl
end Pv
set_option Elab.async false
set_option linter.all false
set_option maxRecDepth 100000
set_option maxHeartbeats 4000000
set_option autoImplicit false
namespace Pv
open PySem PySem.Spec PyProof.Rows L2
/-! ### sorted(set(xs)), xs a list of whole numbers -/
abbrev ob0 (w : World) : Obj := { cls := .type "set", dict := none, data := .set #[] 0 (.fresh 0 0 (!w.params.followText "set-order")) }
section
variable {P : Program} {w : World} {A : Around} {E : Value → Shared → Prop} {s : Shared}
abbrev GotS (w : World) (h0 h' : Heap) (ns : List Int) (c : Nat) : Prop := SetR w h' h0.objs.size (fun j => decide (j ∈ ns)) c ∧ c ≤ ns.length ∧ ∀ b o, h0.get? b = some o → h'.get? b = some o
set_option maxHeartbeats 3200000 in
theorem set_of_list {l : Addr} {its : Array Value} (ns : List Int) {Q : Value → Shared → Prop} (hh : A.handled = none) (hl : s.heap.IsList l its) (hi : IntsAre its.toList ns) (hb : ns.length + 1 < scanBound)
    (q : ∀ (h' : Heap) (tk c : Nat), GotS w s.heap h' ns c → Q (.ref s.heap.objs.size) { s with heap := h', toks := tk }) : wpAny (model P w) A (call (.type "set") [.ref l]) Q E s := by
  have hn : its.size = ns.length := by
    have z := hi.length
    rwa [Array.length_toList] at z
  have k1 := F.called_set.made
  have k2 := F.called_set.sub
  obtain ⟨c0, tl0, k3⟩ := F.called_set.mro
  refine wpAny_call (codeAny_of_tree (show wpAny _ _ (callAny (.type "set") _) _ _ _ from ?_))
  refine wpAny_pure ⟨Code.quiet_builtin _ (by decide +kernel), codeAny_builtin F.entry_type_call (by
    rw [Around.under_plain (weight_type_call_type "set" [.ref l] []) rfl]
    have k4 := F.called_set.canCreate
    have k5 := F.called_set.notType
    have k6 := F.typeCall_set_1 (.ref l)
    repeat (any_goals (first | assumption | wp_step))
    refine codeAny_mono (code_set_led1 (.ref l) (E := E) (Q₁ := fun x s1 => x = .ref s.heap.objs.size ∧ s1 = { s with heap := s.heap.push (ob0 w) }) ⟨rfl, rfl⟩) fun r s1 hr => ?_
    cases r with
    | error _ => exact hr
    | ok fl =>
      cases fl with
      | ret x =>
        obtain ⟨rfl, rfl⟩ := hr
        have u1 : (s.heap.push (ob0 w)).get? s.heap.objs.size = some (ob0 w) := Heap.get?_push_size _ rfl
        have u2 : Shared.TypeIs { s with heap := s.heap.push (ob0 w) } (.ref s.heap.objs.size) "set" := ⟨_, u1, rfl⟩
        have u3 := F.called_set.init.bind (.ref s.heap.objs.size)
        have u4 := F.called_set.init.lookup
        repeat (any_goals (first | assumption | wp_step))
        refine codeAny_mono (codeAny_call_builtin (R := wants (fun r s2 => r = .none ∧ ∃ h' tk c, s2 = { s with heap := h', toks := tk } ∧ GotS w s.heap h' ns c) E) F.called_set.init.plain F.entry_set_init (check_set_init_1 u2 (by
          obtain ⟨ol, v1, v2, nl, v3⟩ := hl
          obtain ⟨oc, od, oa, osl⟩ := ol
          simp only at v2 v3
          subst v2 v3
          have v4 : (s.heap.push (ob0 w)).get? l = some { cls := .type "list", dict := od, data := .seq its nl, slots := osl } := Heap.get?_push_of_some _ v1
          have v5 : (s.heap.push (ob0 w)).IsList l its := ⟨_, v4, rfl, nl, rfl⟩
          have v6 : (Value.type "list" == Value.type "dict") = false := by decide
          have v7 := F.sub_list_set
          have v8 := F.sub_list_frozenset
          unfold Builtin.«set.__init__» noKeywords Builtin.Frozenset.updateFrom
          generalize hPI : pyIter = PI
          wp_walk
          subst hPI
          have v9 : l < s.heap.objs.size := Heap.lt_size v1
          refine wpAny_pyIter_list v5 (wpAny_bind (wpAny_runValue ?_))
          have vh : A.in1.in1.in1.handled = none := by simp [hh]
          have vn : l ≠ (s.heap.push (ob0 w)).objs.size := by rw [Heap.size_push]; exact Nat.ne_of_lt (Nat.lt_succ_of_lt v9)
          have vf : s.heap.objs.size ∉ [(s.heap.push (ob0 w)).objs.size, l] := fun z => by
            rw [Heap.size_push] at z
            rcases List.mem_cons.mp z with z | z
            · exact Nat.ne_of_lt (Nat.lt_succ_self _) z
            · exact Nat.ne_of_gt v9 (List.mem_singleton.mp z)
          have vv : ∀ (i : Nat) (v : Value), its[i]? = some v → ∃ k t, ns[i]? = some k ∧ v = .int k t := fun i v hv => by
            have hj : i < ns.length := hn ▸ (Array.getElem?_eq_some_iff.mp hv).1
            obtain ⟨t, e⟩ := PyProof.Rows.IntsAre.int_at hi i v (by rw [Array.getElem?_toList]; exact hv)
            rw [List.getD_eq_getElem?_getD, List.getElem?_eq_getElem hj] at e
            exact ⟨ns[i], t, List.getElem?_eq_getElem hj, e⟩
          refine set_update_ints ((Walks.list vh _ l vn its).toS) s.heap.objs.size vf ns hn hb vv (its.size - 0) 0 _ (by omega) (Nat.zero_le _) ⟨⟨_, Heap.get?_push_size _ rfl, rfl, rfl⟩, v5.push _⟩ ⟨0, Nat.le_refl 0, setR_new_at (Heap.get?_push_of_some _ u1)⟩ fun s3 c3 mv hc3 R3 => ?_
          obtain ⟨h3, g3, d3, t3, o3⟩ := s3
          obtain rfl : g3 = s.gens := mv.gens
          obtain rfl : d3 = s.drawn := mv.drawn
          obtain rfl : o3 = s.os := mv.os
          refine (show wpAny _ _ _ _ _ _ from wpAny_pure (show wpAny _ _ (ret Value.none) _ _ _ from wpAny_pure ⟨rfl, h3, t3, c3, rfl, R3, hn ▸ hc3, fun b o e => ?_⟩))
          have w0 : b < s.heap.objs.size := Heap.lt_size e
          refine mv.heap b o (fun z => ?_) (Heap.get?_push_of_some _ (Heap.get?_push_of_some _ e))
          rcases List.mem_cons.mp z with z | z
          · exact Nat.ne_of_lt w0 z
          · rw [List.mem_singleton.mp z, Heap.size_push] at w0
            exact absurd w0 (Nat.not_lt_of_le (Nat.le_succ _))))) fun r2 s2 hr2 => ?_
        cases r2 with
        | error _ => exact hr2
        | ok fl2 =>
          cases fl2 with
          | ret r =>
            obtain ⟨rfl, h', tk, c, rfl, hg⟩ := hr2
            repeat (any_goals (first | assumption | wp_step))
            exact q _ _ _ hg
          | _ => exact hr2.elim
      | _ => exact hr.elim)⟩
end
end Pv
set_option Elab.async false
set_option linter.all false
set_option maxRecDepth 100000
set_option maxHeartbeats 4000000
set_option autoImplicit false
namespace Pv
open PySem PySem.Spec PyProof.Rows L2
section
variable {X : Cx}
/-- set(xs), xs a list of ints -/
def rSetOfI (K : PySem.W.Frag) (w : World) : List V → Hp → VK → Prop := fun vs H Q => ∃ (l : Addr) (ns : List Int), vs = [V.ref l] ∧ SqL K H l (ns.map V.int) ∧ ns.length < 64 ∧
  ∀ a c, H a = none → c ≤ ns.length → Q (.ref a) (upd H a (SetO w a (fun j => decide (j ∈ ns)) c))
theorem cr_setOfI (hc : X.calm = true) : CallR X (.type "set") (rSetOfI X.K X.w) := by
  intro pins s σ H vs us Q I r ⟨l, ns, e, hl, hn, q⟩
  subst e
  rw [Vals.ref1 r]
  obtain ⟨its, rv, pl, hz⟩ := I.list hl
  refine set_of_list (P := X.prog) (w := X.w) ns (I.ok.hd hc) pl.isList (show IntsAre its.toArray.toList ns from ints_of_vals rv) (by unfold scanBound; omega) fun h' tk c ⟨R, hcn, k⟩ => ?_
  have free : H s.heap.objs.size = none := I.hok.fresh (Nat.le_refl _)
  exact ⟨.ref s.heap.objs.size, _, I.laid (t' := tk) k (Nat.le_refl _) (setO_new R), rfl, q _ c free hcn⟩
end
def insU (x : Int) : List Int → List Int
  | [] => [x]
  | y :: l => if x < y then x :: y :: l else if x = y then y :: l else y :: insU x l
def sortU : List Int → List Int
  | [] => []
  | x :: l => insU x (sortU l)
theorem mem_insU {x k : Int} : ∀ {l : List Int}, k ∈ insU x l ↔ k = x ∨ k ∈ l
  | [] => by unfold insU; simp
  | y :: l => by
    unfold insU
    split
    · simp
    · split
      · rename_i h; subst h; simp
      · rw [List.mem_cons, mem_insU (l := l), List.mem_cons]
        constructor
        · rintro (h | h | h)
          · exact .inr (.inl h)
          · exact .inl h
          · exact .inr (.inr h)
        · rintro (h | h | h)
          · exact .inr (.inl h)
          · exact .inl h
          · exact .inr (.inr h)
theorem mem_sortU {k : Int} : ∀ {l : List Int}, k ∈ sortU l ↔ k ∈ l
  | [] => Iff.rfl
  | x :: l => by
    show k ∈ insU x (sortU l) ↔ _
    rw [mem_insU, mem_sortU (l := l), List.mem_cons]
theorem insU_up {x : Int} : ∀ {l : List Int}, l.Pairwise (· < ·) → (insU x l).Pairwise (· < ·)
  | [], _ => by unfold insU; simp
  | y :: l, h => by
    obtain ⟨h1, h2⟩ := List.pairwise_cons.mp h
    unfold insU
    split
    · rename_i hx
      refine List.pairwise_cons.mpr ⟨fun z hz => ?_, h⟩
      rcases List.mem_cons.mp hz with rfl | hz
      · exact hx
      · exact Int.lt_trans hx (h1 z hz)
    · split
      · exact h
      · refine List.pairwise_cons.mpr ⟨fun z hz => ?_, insU_up h2⟩
        rcases mem_insU.mp hz with rfl | hz
        · omega
        · exact h1 z hz
theorem sortU_up : ∀ l : List Int, (sortU l).Pairwise (· < ·)
  | [] => .nil
  | _ :: l => insU_up (sortU_up l)
theorem up_eq : ∀ {l m : List Int}, l.Pairwise (· < ·) → m.Pairwise (· < ·) → (∀ k, k ∈ l ↔ k ∈ m) → l = m
  | [], [], _, _, _ => rfl
  | [], y :: m, _, _, h => absurd ((h y).mpr List.mem_cons_self) List.not_mem_nil
  | x :: l, [], _, _, h => absurd ((h x).mp List.mem_cons_self) List.not_mem_nil
  | x :: l, y :: m, hl, hm, h => by
    obtain ⟨h1, h2⟩ := List.pairwise_cons.mp hl
    obtain ⟨h3, h4⟩ := List.pairwise_cons.mp hm
    have e : x = y := by
      rcases List.mem_cons.mp ((h x).mp List.mem_cons_self) with e | e
      · exact e
      · rcases List.mem_cons.mp ((h y).mpr List.mem_cons_self) with e2 | e2
        · exact e2.symm
        · have a1 := h3 x e
          have a2 := h1 y e2
          omega
    subst e
    rw [up_eq h2 h4 fun k => ?_]
    constructor
    · intro hk
      rcases List.mem_cons.mp ((h k).mp (List.mem_cons_of_mem _ hk)) with e | e
      · have := h1 k hk; omega
      · exact e
    · intro hk
      rcases List.mem_cons.mp ((h k).mpr (List.mem_cons_of_mem _ hk)) with e | e
      · have := h3 k hk; omega
      · exact e
def ssD : D → Option D
  | .lst ds => (asInts ds).bind fun ns => if ns.length < 64 then some (.lst ((sortU ns).map D.int)) else none
  | _ => none
section
variable {Γ : Gam} {N : List Str} {sc : Scope} {κ1 : Kd}
theorem d_sortset {ea : Expr} {a : Env → Option D} {p p2 q pos : Pos} (hg : glB sc "sorted" = true) (hm : Γ.mg "sorted" = none) (hg2 : glB sc "set" = true) (hm2 : Γ.mg "set" = none) (ha : DV Γ N sc κ1 ea a)
    (hs : Pl1 ea [] := by exact fun _ => rfl) (hs2 : Pl1 (.Call (.Name "set" p2) [ea] [] q) [] := by exact fun _ => rfl) : DV Γ N sc .f (.Call (.Name "sorted" p) [.Call (.Name "set" p2) [ea] [] q] [] pos) (f1 ssD a) := by
  obtain ⟨ta, pa, sa⟩ := ha.ex
  refine ⟨tCB (rSortedSet Γ.w) (tCons (tCB (rSetOfI Γ.K Γ.w) (tCons ta tNil)) tNil), fun X gX => ?_, fun H0 ρ σ G H Q z s E e q => ?_⟩
  · refine pe_callB (by rw [← gX.w]; exact cr_sortedSet gX.calm) (gl_of gX hg) (by rw [gX.mg]; exact hm) (by decide +kernel) (pa_cons ?_ pa_nil (hs2 _)) (by decide) (by decide) (hs2 _) rfl
    exact pe_callTy (by rw [← gX.w, ← gX.K]; exact cr_setOfI gX.calm) (gl_of gX hg2) (by rw [gX.mg]; exact hm2) PyProof.Rows.boot_set (pa_cons (pa X gX) pa_nil (hs _)) (by decide) (by decide) (hs _) rfl
  · unfold f1 at e
    cases ea : a ρ with
    | none => rw [ea] at e; cases e
    | some x =>
      rw [ea] at e
      cases x <;> try cases e
      rename_i ds
      have e : ((asInts ds).bind fun ns => if ns.length < 64 then some (D.lst ((sortU ns).map D.int)) else none) = some z := e
      cases ei : asInts ds with
      | none => rw [ei] at e; cases e
      | some ns =>
        rw [ei, Option.bind_some] at e
        split at e
        · rename_i h64
          cases e
          refine sa H0 ρ σ G H _ _ s E ea fun G1 H1 v g1 o1 => ?_
          obtain ⟨l, rfl, h1⟩ := lst_ints g1.s o1.b ei
          refine ⟨l, ns, rfl, SqL.of h1, h64, fun b c hb hc => ?_⟩
          refine ⟨b, _, c, rfl, upd_same, by omega, fun ms p' hp1 hp2 hp3 hp4 => ?_⟩
          have es : ms = sortU ns := up_eq hp1 (sortU_up ns) fun k => by rw [hp2, mem_sortU]; simp
          rw [es]
          have g2 := g1.trans (Grow.newH (o := SetO Γ.w b (fun j => decide (j ∈ ns)) c) g1.s hb)
          exact q _ _ _ (g2.trans (Grow.newH g2.s hp4)) ⟨p', rfl, SL.free g2.h hp4, g2.s.free hp4, _, upd_same, RepL.ints _⟩
        · cases e
end
end Pv
set_option Elab.async false
set_option linter.all false
set_option maxRecDepth 100000
set_option maxHeartbeats 4000000
set_option autoImplicit false
namespace Pv
open PySem PySem.Spec PyProof.Rows L2
/-! ### a class's __init__ that lays a dict and fills it in two loops -/
section
variable {Γ : Gam} {N : List Str} {sc : Scope} {G H G' H' : Hp} {α : Type}
def nxE : Option Res → Option Env
  | some (.nx ρ) => some ρ
  | _ => none
theorem nxE_eq {r : Option Res} {ρ : Env} (h : nxE r = some ρ) : r = some (.nx ρ) := by
  unfold nxE at h
  split at h
  · cases h; rfl
  · cases h
def NoOw (ρ : Env) : Prop := ∀ (i : Nat) (d : D), ρ[i]? ≠ some (Sl.ow d)
def unOw : Sl → Sl
  | .ow _ => .no
  | s => s
theorem unOw_no (ρ : Env) : NoOw (ρ.map unOw) := fun i d h => by
  rw [List.getElem?_map] at h
  cases e : ρ[i]? with
  | none => rw [e] at h; cases h
  | some s => rw [e] at h; cases s <;> cases h
theorem NoOw.set {ρ : Env} (h : NoOw ρ) (i : Nat) (d : D) : NoOw (ρ.set i (.sh d)) := fun j e q => by
  by_cases hj : i = j
  · subst hj
    by_cases hl : i < ρ.length
    · rw [List.getElem?_set_self hl] at q; cases q
    · rw [List.getElem?_eq_none (by simpa using hl)] at q; cases q
  · rw [List.getElem?_set_ne hj] at q
    exact h j e q
theorem NoOw.setE : ∀ (is : List Nat) (ds : List D) {ρ : Env}, NoOw ρ → NoOw (setE ρ is ds)
  | [], _, _, h => h
  | _ :: _, [], _, h => h
  | i :: is, d :: ds, _, h => NoOw.setE is ds (h.set i d)
theorem NoOw.bind {p : Pat} {d : D} {ρ ρ' : Env} (h : NoOw ρ) (e : bindP p d ρ = some ρ') : NoOw ρ' := by
  unfold bindP at e
  split at e
  · cases e; exact h.set _ _
  · split at e
    · cases e; exact h.setE _ _
    · cases e
  · cases e
theorem EnvOk.un {H0 : Hp} {ρ : Env} {σ : L2.St} (E : EnvOk Γ H0 G H ρ σ) (s : SL G G') : EnvOk Γ H0 G' H' (ρ.map unOw) σ := by
  refine ⟨by rw [List.length_map]; exact E.len, fun i t h => ?_, fun i j d e a _ h _ _ => absurd h (unOw_no ρ i d)⟩
  rw [List.getElem?_map] at h
  cases e : ρ[i]? with
  | none => rw [e] at h; cases h
  | some u =>
    rw [e] at h
    cases h
    cases u with
    | no => trivial
    | ow d => trivial
    | sh d => obtain ⟨v, h1, h2⟩ := E.sl i _ e; exact ⟨v, h1, h2.mono s⟩
theorem EnvOk.noH {H0 : Hp} {ρ : Env} {σ : L2.St} (E : EnvOk Γ H0 G H ρ σ) (n : NoOw ρ) : EnvOk Γ H0 G H' ρ σ :=
  ⟨E.len, fun i s h => by
    have := E.sl i s h
    cases s with
    | no => trivial
    | sh d => exact this
    | ow d => exact absurd h (n i d), E.ne⟩
theorem EnvOk.at0 {H0 : Hp} {ρ : Env} {σ : L2.St} {v : V} {d : D} (E : EnvOk Γ H0 G H ρ σ) (n : NoOw ρ) (h0 : σ[0]? = some (some v)) (r : Rep Γ.K Γ.C G v d) : EnvOk Γ H0 G H (ρ.set 0 (.sh d)) σ := by
  refine ⟨by rw [List.length_set]; exact E.len, fun i s h => ?_, fun i j e f a _ h _ _ => absurd h (n.set 0 d i e)⟩
  by_cases hi : i = 0
  · subst hi
    by_cases hl : 0 < ρ.length
    · rw [List.getElem?_set_self hl] at h; cases h; exact ⟨v, h0, r⟩
    · rw [List.getElem?_eq_none (by simpa using hl)] at h; cases h
  · rw [List.getElem?_set_ne (Ne.symm hi)] at h
    exact E.sl i s h
theorem EnvOk.updX {H0 : Hp} {ρ : Env} {σ : L2.St} {x c dx : Addr} {fs : List (Str × V)} {o : HO} (E : EnvOk Γ H0 G H ρ σ) (hx : H x = some (.ins c dx fs)) : EnvOk Γ H0 G (L2.upd H x o) ρ σ := by
  refine ⟨E.len, fun i s h => ?_, E.ne⟩
  have h2 := E.sl i s h
  cases s with
  | no => trivial
  | sh d => exact h2
  | ow d =>
    obtain ⟨a, h3, h4, h5, h6⟩ := h2
    refine ⟨a, h3, h4, h5, ?_⟩
    have ne : ∀ o', H a = some o' → (∀ c dx fs, o' ≠ .ins c dx fs) → a ≠ x := fun o' e1 e2 e3 => by
      subst e3
      rw [hx] at e1
      cases e1
      exact e2 _ _ _ rfl
    cases d <;> try exact h6.elim
    · obtain ⟨vs, k1, k2⟩ := h6
      exact ⟨vs, by rw [upd_ne (ne _ k1 fun _ _ _ z => by cases z)]; exact k1, k2⟩
    · obtain ⟨kvs, k1, k2⟩ := h6
      exact ⟨kvs, by rw [upd_ne (ne _ k1 fun _ _ _ z => by cases z)]; exact k1, k2⟩
    · obtain ⟨kvs, k1, k2⟩ := h6
      exact ⟨kvs, by rw [upd_ne (ne _ k1 fun _ _ _ z => by cases z)]; exact k1, k2⟩
theorem Grow.keepO {a : Addr} {o : HO} (g : Grow G H G' H') (h : H a = some o) (h0 : G a = none) (ht : ∀ vs, o ≠ .tup vs) : G' a = none := by
  by_cases q : G' a = none
  · exact q
  · rcases g.n a h0 q with e | ⟨ws, e⟩
    · rw [h] at e; cases e
    · rw [h] at e; cases e; exact absurd rfl (ht ws)
theorem setL_0 : ∀ {is : List Nat} {vs : List V} {σ : L2.St}, 0 ∉ is → (setL σ is vs)[0]? = σ[0]?
  | [], _, _, _ => rfl
  | _ :: _, [], _, _ => rfl
  | i :: is, v :: vs, σ, h => by
    show (setL (σ.set i (some v)) is vs)[0]? = _
    rw [setL_0 fun z => h (List.mem_cons_of_mem _ z), List.getElem?_set_ne fun z => h (by rw [z]; exact List.mem_cons_self)]
def forGo (p : Pat) (step : α → Env → Option (α × Env)) : List D → α → Env → Option (α × Env)
  | [], a, ρ => some (a, ρ)
  | x :: xs, a, ρ => (bindP p x ρ).bind fun ρ1 => (step a ρ1).bind fun z => forGo p step xs z.1 z.2
def forX (I : Env → Option (List D)) (p : Pat) (step : α → Env → Option (α × Env)) : α → Env → Option (α × Env) := fun a ρ => (I ρ).bind fun items => forGo p step items a ρ
def SemX (Γ : Gam) (H0 : Hp) (vx : V) (X : α → Hp → Hp → Prop) (t : TS) (step : α → Env → Option (α × Env)) : Prop :=
  ∀ (a : α) (ρ : Env) (σ : L2.St) (G H : Hp) (De : Ends) (a' : α) (ρ' : Env), SL G H → EnvOk Γ H0 G H ρ σ → NoOw ρ → σ[0]? = some (some vx) → X a G H → step a ρ = some (a', ρ') →
    (∀ (G' H' : Hp) (σ' : L2.St), SL G' H' → SL G G' → EnvOk Γ H0 G' H' ρ' σ' → NoOw ρ' → σ'[0]? = some (some vx) → X a' G' H' → De.nx σ' H') → t De σ H
theorem sem_forX {H0 : Hp} {vx : V} {X : α → Hp → Hp → Prop} {wi : TI} {I : Env → Option (List D)} {gt : TG} {p : Pat} {tb : TS} {step : α → Env → Option (α × Env)} (hX : ∀ a G H G' H', X a G H → Grow G H G' H' → X a G' H')
    (si : SemI Γ wi I) (sg : SemG Γ gt p) (h0 : 0 ∉ p.is) (sb : SemX Γ H0 vx X tb step) : SemX Γ H0 vx X (tFor wi gt tb) (forX I p step) := by
  intro a ρ σ G H De a' ρ' s E no hσ xa e q
  unfold forX at e
  cases ei : I ρ with
  | none => rw [ei] at e; cases e
  | some items =>
    rw [ei] at e
    have e : forGo p step items a ρ = some (a', ρ') := e
    refine si H0 ρ σ G H _ items s E ei fun J Gp Y G1 H1 g1 wk hGp hY => ?_
    refine for_it wk (fun i σ' H' => ∃ G' ρ1 a1, SL G' H' ∧ SL G1 G' ∧ EnvOk Γ H0 G' H' ρ1 σ' ∧ NoOw ρ1 ∧ σ'[0]? = some (some vx) ∧ X a1 G' H' ∧ forGo p step (items.drop i) a1 ρ1 = some (a', ρ'))
      ⟨G1, ρ, a, g1.s, SL.refl _, E.grow g1, no, hσ, hX _ _ _ _ _ xa g1, by rw [List.drop_zero]; exact e⟩ (fun i σ' H' _ h => ?_) (fun i x σ2 H2 H3 hlt h y => ?_) fun σ' H' h => ?_
    · obtain ⟨G', _, _, s1, s2, _⟩ := h
      exact hGp G' H' s2 s1
    · obtain ⟨G2, ρ2, a2, s2, t2, E2, no2, hσ2, x2, h2⟩ := h
      obtain ⟨G3, d, hd, g3, r3⟩ := hY i H2 x H3 G2 hlt t2 s2 y
      have hdrop : items.drop i = d :: items.drop (i + 1) := by
        obtain ⟨hl, e1⟩ := List.getElem?_eq_some_iff.mp hd
        rw [List.drop_eq_getElem_cons hl, e1]
      rw [hdrop] at h2
      have h2 : ((bindP p d ρ2).bind fun ρ1 => (step a2 ρ1).bind fun z => forGo p step (items.drop (i + 1)) z.1 z.2) = some (a', ρ') := h2
      cases eb : bindP p d ρ2 with
      | none => rw [eb] at h2; cases h2
      | some ρ3 =>
        simp only [eb, Option.bind_some] at h2
        cases er : step a2 ρ3 with
        | none => rw [er] at h2; cases h2
        | some z =>
          simp only [er, Option.bind_some] at h2
          refine sg H0 ρ2 ρ3 σ2 G3 H3 x d _ g3.s (E2.grow g3) eb r3 fun vs E3 => ?_
          refine sb a2 ρ3 _ G3 H3 _ z.1 z.2 g3.s E3 (no2.bind eb) (by rw [setL_0 h0]; exact hσ2) (hX _ _ _ _ _ x2 g3) er fun G4 H4 σ4 s4 t4 E4 no4 hσ4 x4 => ?_
          exact ⟨G4, z.2, z.1, s4, (t2.trans g3.g).trans t4, E4, no4, hσ4, x4, h2⟩
    · obtain ⟨G2, ρ2, a2, s2, t2, E2, no2, hσ2, x2, h2⟩ := h
      rw [List.drop_length] at h2
      cases h2
      exact q G2 H' σ' s2 (g1.g.trans t2) E2 no2 hσ2 x2
def putX (K V : Env → Option D) : List (List Int × D) → Env → Option (List (List Int × D) × Env) := fun kds ρ => (V ρ).bind fun v => (K ρ).bind fun kd => match kd with
  | .tup ks => (asInts ks).bind fun ns => if kds.length < big then some (putD kds ns v, ρ) else none
  | _ => none
def NetX (Γ : Gam) (Gb Hb : Hp) (x y dx : Addr) (v1 v2 : V) : List (List Int × D) → Hp → Hp → Prop := fun kds G H => Grow Gb Hb G H ∧ G x = some (.ins Γ.C dx [("fars", v1), ("turns", v2), ("inside", .ref y)]) ∧ G y = none ∧
  ∃ kvs, H y = some (.dT kvs) ∧ kvs.map Prod.fst = kds.map (fun p => kk p.1) ∧ RepL Γ.K Γ.C G (kvs.map Prod.snd) (kds.map Prod.snd)
theorem NetX.grow {Gb Hb : Hp} {x y dx : Addr} {v1 v2 : V} (kds : List (List Int × D)) (G H G' H' : Hp) (h : NetX Γ Gb Hb x y dx v1 v2 kds G H) (g : Grow G H G' H') : NetX Γ Gb Hb x y dx v1 v2 kds G' H' := by
  obtain ⟨h1, h2, h3, kvs, h4, h5, h6⟩ := h
  exact ⟨h1.trans g, g.g.ins h2, g.keepO h4 h3 (fun _ z => by cases z), kvs, g.x _ _ h3 h4, h5, h6.mono g.g⟩
theorem sem_putX {Gb Hb H0 : Hp} {x y dx : Addr} {v1 v2 : V} (C : NetC Γ) (hy : Hb y = none) {K V : Env → Option D} {tk tv : TE} (sk : SemV Γ .e tk K) (sv : SemV Γ .e tv V) :
    SemX Γ H0 (.ref x) (NetX Γ Gb Hb x y dx v1 v2) (sDPut (tFld Γ.K (tVar 0) "inside") tk tv) (putX K V) := by
  intro kds ρ σ G H De kds' ρ' s E no hσ xa e q
  obtain ⟨h1, h2, h3, kvs, h4, h5, h6⟩ := xa
  unfold putX at e
  cases ea : V ρ with
  | none => rw [ea] at e; cases e
  | some d =>
    cases ek : K ρ with
    | none => simp only [ea, ek, Option.bind_some] at e; cases e
    | some kd =>
      simp only [ea, ek, Option.bind_some] at e
      split at e
      · rename_i ks
        cases en : asInts ks with
        | none => rw [en] at e; cases e
        | some ns =>
          simp only [en, Option.bind_some] at e
          split at e
          · rename_i hl
            cases e
            refine sv H0 ρ σ G H _ d s E ea fun G1 H1 v g1 o1 => ?_
            refine ⟨.ref x, hσ, x, Γ.C, dx, _, .ref y, rfl, g1.s.ins (g1.g.ins h2), C.cl, C.ni, look_i, ?_⟩
            refine sk H0 ρ σ G1 H1 _ _ g1.s (E.grow g1) ek fun G2 H2 w g2 o2 => ?_
            have o2 : Rep Γ.K Γ.C G2 w (.tup ks) := o2
            cases o2 with
            | tup h7 h8 =>
              rw [asInts_eq en] at h8
              have e8 := kk_tup h8
              subst e8
              have g12 := g1.trans g2
              have h4' : H2 y = some (.dT kvs) := g12.x _ _ h3 h4
              have h3' : G2 y = none := g12.keepO h4 h3 (fun _ z => by cases z)
              have hlen : kvs.length = kds.length := by simpa using congrArg List.length h5
              obtain ⟨m1, m2⟩ := putK_map (ns := ns) h5 (h6.mono g12.g) (Rep.mono g2.g o1)
              refine ⟨y, _, rfl, .inr ⟨kvs, kk ns, _, h4', rfl, g2.s.tup h7, by rw [hlen]; exact big_lt hl, rfl⟩, ?_⟩
              have gg := (h1.trans g12).updH (o := .dT (putK kvs (kk ns) v)) h3' hy
              exact q G2 _ σ gg.s g12.g ((E.grow g12).noH no) no hσ ⟨gg, g12.g.ins h2, h3', _, upd_same, m1, m2⟩
          · cases e
      · cases e
def adrB (ρ : Env) (x : Addr) : Bool := match ρ[0]? with
  | some (Sl.sh (D.adr y)) => y == x
  | _ => false
abbrev netN : List Str := ["self", "sheet", "fars", "turns", "inner", "outer", "begin", "wide", "k", "n"]
def netF (F1 F2 F3 : Env → Option Res) (Ef Et : Env → Option D) (Ik : Env → Option (List D)) (pk : Pat) (In : Env → Option (List D)) (pn : Pat) (Kf Vf : Env → Option D) (x : Addr) (d : D) : Option D :=
  (nxE (F1 [.sh (.adr x), .sh d, .no, .no, .no, .no, .no, .no, .no, .no])).bind fun ρ1 => (nxE (F2 ρ1)).bind fun ρ2 => (nxE (F3 ρ2)).bind fun ρ3 => if adrB ρ3 x = true then (Ef ρ3).bind fun f => (Et ρ3).bind fun t =>
    (forX Ik pk (forX In pn (putX Kf Vf)) [] ((ρ3.map unOw).set 0 (.sh (.net f t .non)))).bind fun z => some (.net f t (.dct z.1)) else none
/-- what does not lean on where the net lies -/
noncomputable def anyX (F : Addr → D → Option D) (d : D) : Option D := @ite _ (∀ x, F x d = F 0 d) (Classical.propDecidable _) (F 0 d) none
theorem anyX_e {F : Addr → D → Option D} {d n : D} (h : anyX F d = some n) (x : Addr) : F x d = some n := by
  unfold anyX at h
  split at h
  · rename_i k; rw [k x]; exact h
  · cases h
theorem anyX_i {F : Addr → D → Option D} {d n : D} (h : ∀ x, F x d = some n) : anyX F d = some n := by
  unfold anyX
  rw [if_pos fun x => by rw [h, h]]; exact h 0
end
end Pv
set_option Elab.async false
set_option linter.all false
set_option maxRecDepth 100000
set_option maxHeartbeats 4000000
set_option autoImplicit false
namespace Pv
open PySem PySem.Spec PyProof.Rows L2
section
variable {Γ : Gam} {G H G' H' : Hp}
theorem start_net (x : Addr) (v : V) : L2.start netN [.ref x, v] = [some (.ref x), some v, none, none, none, none, none, none, none, none] := rfl
theorem env_net {H0 : Hp} {x : Addr} {v : V} {d : D} (r : Rep Γ.K Γ.C G v d) : EnvOk Γ H0 G H [.sh (.adr x), .sh d, .no, .no, .no, .no, .no, .no, .no, .no] (L2.start netN [.ref x, v]) := by
  rw [start_net]
  refine ⟨rfl, fun i s h => ?_, fun i j e f a _ h _ _ => ?_⟩
  · match i, h with
    | 0, h => cases h; exact ⟨_, rfl, .adr x⟩
    | 1, h => cases h; exact ⟨_, rfl, r⟩
    | 2, h => cases h; trivial
    | 3, h => cases h; trivial
    | 4, h => cases h; trivial
    | 5, h => cases h; trivial
    | 6, h => cases h; trivial
    | 7, h => cases h; trivial
    | 8, h => cases h; trivial
    | 9, h => cases h; trivial
  · have := List.mem_of_getElem? h
    simp at this
theorem net_init {k : Nat} {st : Stmt} {f : Addr} {fd : FuncData} {F1 F2 F3 : Env → Option Res} {s1 s2 s3 : Stmt} {ef et ek ev tgk itk tgn itn : Expr} {Ef Et Kf Vf : Env → Option D} {Ik In : Env → Option (List D)} {pk pn : Pat} {p1 p2 p3 p4 p5 p6 p7 p8 p9 p10 q1 q2 q3 q4 q5 q6 : Pos} {fN : D → Option D}
    (hc : ∀ d n, fN d = some n → ∀ x, netF F1 F2 F3 Ef Et Ik pk In pn Kf Vf x d = some n)
    (Fn : Fun Γ.K "__init__" "Net.__init__" st f fd) (S : FnScope netN ["self", "sheet"] (defScope st)) (C : NetC (Γ.at k))
    (hbody : defBody st = [s1, s2, s3, .Assign [.Attribute (.Name "self" p1) "fars" p2] ef p3, .Assign [.Attribute (.Name "self" p4) "turns" p5] et p6, .Assign [.Attribute (.Name "self" p7) "inside" p8] (.Dict [] [] p9) p10,
      .For tgk itk [.For tgn itn [.Assign [.Subscript (.Attribute (.Name "self" q1) "inside" q2) ek q3] ev q4] [] q5] [] q6])
    (hv : visB (defScope st) "self" = true)
    (h1 : DS (Γ.at k) netN (defScope st) s1 F1) (h2 : DS (Γ.at k) netN (defScope st) s2 F2) (h3 : DS (Γ.at k) netN (defScope st) s3 F3)
    (hf : DV (Γ.at k) netN (defScope st) .e ef Ef) (ht : DV (Γ.at k) netN (defScope st) .e et Et)
    (ik : DI (Γ.at k) netN (defScope st) tgk itk Ik) (gk : DG (Γ.at k) netN (defScope st) true tgk pk) (jn : DI (Γ.at k) netN (defScope st) tgn itn In) (gn : DG (Γ.at k) netN (defScope st) true tgn pn)
    (z1 : 0 ∉ pk.is) (z2 : 0 ∉ pn.is)
    (hk : DV (Γ.at k) netN (defScope st) .e ek Kf) (hw : DV (Γ.at k) netN (defScope st) .e ev Vf)
    (w1 : ∀ env : PySem.Env, swapsWith ef (some (.Attribute (.Name "self" p1) "fars" p2)) p3.line env = pure false := by exact fun _ => rfl)
    (w2 : ∀ env : PySem.Env, swapsWith et (some (.Attribute (.Name "self" p4) "turns" p5)) p6.line env = pure false := by exact fun _ => rfl)
    (w4 : ∀ env : PySem.Env, swapsWith ev (some (.Subscript (.Attribute (.Name "self" q1) "inside" q2) ek q3)) q4.line env = pure false := by exact fun _ => rfl)
    (w5 : ∀ (env : PySem.Env) x, foldedSetIterable itk env x = pure x := by exact fun _ _ => rfl)
    (w6 : ∀ (env : PySem.Env) x, foldedSetIterable itn env x = pure x := by exact fun _ _ => rfl) :
    FnOk Γ.P Γ.w Γ.K Γ.mg Γ.base CX0 (k + 1) f fd ["self", "sheet"] (spN Γ.K Γ.C fN) := by
  obtain ⟨t1, a1, b1⟩ := h1.ex
  obtain ⟨t2, a2, b2⟩ := h2.ex
  obtain ⟨t3, a3, b3⟩ := h3.ex
  obtain ⟨tf, af, bf⟩ := hf.ex
  obtain ⟨tt, at', bt⟩ := ht.ex
  obtain ⟨wk, aik, bik⟩ := ik.ex
  obtain ⟨gk', agk, bgk⟩ := gk.ex
  obtain ⟨wn, ain, bin⟩ := jn.ex
  obtain ⟨gn', agn, bgn⟩ := gn.ex
  obtain ⟨tk, ak, bk⟩ := hk.ex
  obtain ⟨tv', av, bv⟩ := hw.ex
  refine Fn.ok S (fun vs H Q E h => ?_) (fun cdv A outer s H vs Q E hr hsp => ?_)
  · obtain ⟨_, _, _, _, _, _, _, _, _, _, _, e, _⟩ := h
    rw [e]; rfl
  · obtain ⟨G, H1, x, dx, v, d, n, s, hx, hdx, hne, e1, e2, rv, e, q⟩ := hsp
    subst e1 e2
    refine ⟨tSeq t1 (tSeq t2 (tSeq t3 (tSeq (sFld Γ.K (tVar 0) tf "fars") (tSeq (sFld Γ.K (tVar 0) tt "turns") (tSeq (sFld Γ.K (tVar 0) tDNewT "inside") (tFor wk gk' (tFor wn gn' (sDPut (tFld Γ.K (tVar 0) "inside") tk tv')))))))), ?_, ?_⟩
    · rw [hbody]
      have good : ∀ {X : Cx}, Good (Γ.at k) netN (defScope st) X → (∀ x, X.fn x = true) → PSs X [s1, s2, s3, .Assign [.Attribute (.Name "self" p1) "fars" p2] ef p3, .Assign [.Attribute (.Name "self" p4) "turns" p5] et p6, .Assign [.Attribute (.Name "self" p7) "inside" p8] (.Dict [] [] p9) p10,
          .For tgk itk [.For tgn itn [.Assign [.Subscript (.Attribute (.Name "self" q1) "inside" q2) ek q3] ev q4] [] q5] [] q6] (tSeq t1 (tSeq t2 (tSeq t3 (tSeq (sFld Γ.K (tVar 0) tf "fars") (tSeq (sFld Γ.K (tVar 0) tt "turns") (tSeq (sFld Γ.K (tVar 0) tDNewT "inside") (tFor wk gk' (tFor wn gn' (sDPut (tFld Γ.K (tVar 0) "inside") tk tv'))))))))) := fun {X} g hfn => by
        have pv : ∀ p, PE X (.Name "self" p) (tVar 0) := fun p => pe_var (by rw [g.N]; rfl) (by rw [g.sc]; exact vis_of hv) (by decide) (by decide)
        have hK : X.K = Γ.K := g.K
        refine pss_cons (a1 X g hfn) (pss_cons (a2 X g hfn) (pss_cons (a3 X g hfn) (pss_cons (hK ▸ ps_fld (pv _) (af X g) (w1 _)) (pss_cons (hK ▸ ps_fld (pv _) (at' X g) (w2 _)) (pss_cons (hK ▸ ps_fld (pv _) pe_dnewT rfl) (pss_one ?_))))))
        refine ps_for (by rw [g.xe]; exact PassesOwn.never) g.calm (aik X g) (agk X g fun _ => hfn) (pss_one (ps_for (by rw [g.xe]; exact PassesOwn.never) g.calm (ain X g) (agn X g fun _ => hfn) (pss_one ?_) (w6 _))) (w5 _)
        exact hK ▸ ps_dput (hu_of g.room) (pe_fld (pv _) rfl) (ak X g) (av X g) (w4 _)
      exact good ⟨rfl, rfl, rfl, rfl, rfl, rfl, rfl, hr, rfl, rfl⟩ (fun _ => rfl)
    · have e' := hc d n e x
      unfold netF at e'
      obtain ⟨ρ1, f1, e'⟩ := Option.bind_eq_some_iff.mp e'
      obtain ⟨ρ2, f2, e'⟩ := Option.bind_eq_some_iff.mp e'
      obtain ⟨ρ3, f3, e'⟩ := Option.bind_eq_some_iff.mp e'
      split at e'
      · rename_i hadr
        obtain ⟨df, ff, e'⟩ := Option.bind_eq_some_iff.mp e'
        obtain ⟨dt, ft, e'⟩ := Option.bind_eq_some_iff.mp e'
        obtain ⟨z, fz, e'⟩ := Option.bind_eq_some_iff.mp e'
        cases e'
        have hne' : dx ≠ x := hne
        have g0 : Grow G H1 G (L2.upd (L2.upd H1 dx (.own x)) x (.ins Γ.C dx [])) := (Grow.newH s hdx).trans (Grow.newH (Grow.newH s hdx).s (by rw [upd_ne (Ne.symm hne')]; exact hx))
        generalize hH : L2.upd (L2.upd H1 dx (.own x)) x (.ins Γ.C dx []) = H0 at *
        have hX0 : H0 x = some (.ins Γ.C dx []) := by rw [← hH]; exact upd_same
        have nx0 : G x = none := s.free hx
        have nt : ∀ fs, ∀ vs, HO.ins Γ.C dx fs ≠ .tup vs := fun _ _ z => by cases z
        refine b1 G H0 _ _ G H0 _ _ (Grow.refl g0.s) (env_net (x := x) rv) (nxE_eq f1) (fun ρ1' G1 H1' σ1 er g1 _ E1 => ?_) fun d' _ _ _ er => by cases er
        cases er
        refine b2 G H0 _ _ G1 H1' _ _ g1 E1 (nxE_eq f2) (fun ρ2' G2 H2 σ2 er g2 _ E2 => ?_) fun d' _ _ _ er => by cases er
        cases er
        refine b3 G H0 _ _ G2 H2 _ _ g2 E2 (nxE_eq f3) (fun ρ3' G3 H3 σ3 er g3 _ E3 => ?_) fun d' _ _ _ er => by cases er
        cases er
        have hσ : σ3[0]? = some (some (.ref x)) := by
          unfold adrB at hadr
          split at hadr
          · rename_i y hy
            obtain ⟨u, h4, h5⟩ := E3.sl 0 _ hy
            rw [eq_of_beq hadr] at h5
            cases h5
            exact h4
          · cases hadr
        have nx3 : G3 x = none := g3.keepO hX0 nx0 (nt _)
        have hX3 : H3 x = some (.ins Γ.C dx []) := g3.x _ _ nx0 hX0
        refine bf H0 ρ3 σ3 G3 H3 _ df g3.s E3 ff fun G4 H4 v1 g4 o1 => ?_
        have nx4 : G4 x = none := g4.keepO hX3 nx3 (nt _)
        have hX4 := g4.x _ _ nx3 hX3
        have gB := (g0.trans g3).trans g4
        refine ⟨.ref x, hσ, x, Γ.C, dx, [], rfl, hX4, C.cl, C.nf, by decide, ?_⟩
        have g5 := gB.updH (o := .ins Γ.C dx [("fars", v1)]) nx4 hx
        have E5 : EnvOk (Γ.at k) H0 G4 (L2.upd H4 x (.ins Γ.C dx [("fars", v1)])) ρ3 σ3 := (E3.grow g4).updX hX4
        refine bt H0 ρ3 σ3 G4 _ _ dt g5.s E5 ft fun G6 H6 v2 g6 o2 => ?_
        have nx6 : G6 x = none := g6.keepO upd_same nx4 (nt _)
        have hX6 := g6.x _ _ nx4 upd_same
        refine ⟨.ref x, hσ, x, Γ.C, dx, [("fars", v1)], rfl, hX6, C.cl, C.nt, (show 1 < 1000 by decide), ?_⟩
        have g7 := (g5.trans g6).updH (o := .ins Γ.C dx [("fars", v1), ("turns", v2)]) nx6 hx
        show sFld Γ.K (tVar 0) tDNewT "inside" _ σ3 (L2.upd H6 x (.ins Γ.C dx [("fars", v1), ("turns", v2)]))
        intro y hy
        have hyx : y ≠ x := fun z => by rw [z, upd_same] at hy; cases hy
        have hX8 : L2.upd (L2.upd H6 x (.ins Γ.C dx [("fars", v1), ("turns", v2)])) y (.dT []) x = some (.ins Γ.C dx [("fars", v1), ("turns", v2)]) := by rw [upd_ne (Ne.symm hyx)]; exact upd_same
        refine ⟨.ref x, hσ, x, Γ.C, dx, [("fars", v1), ("turns", v2)], rfl, hX8, C.cl, C.ni, (show 2 < 1000 by decide), ?_⟩
        have hy1 : H1 y = none := SL.free g7.h hy
        have g8 := g7.trans (Grow.newH (o := .dT []) g7.s hy)
        have g9 := g8.updH (o := .ins Γ.C dx [("fars", v1), ("turns", v2), ("inside", .ref y)]) nx6 hx
        have g10 := Grow.share g9.s upd_same nx6 hx g9
        have s10 := SL.new (o := .ins Γ.C dx [("fars", v1), ("turns", v2), ("inside", .ref y)]) nx6
        have r1 : Rep Γ.K Γ.C (L2.upd G6 x (.ins Γ.C dx [("fars", v1), ("turns", v2), ("inside", .ref y)])) v1 df := Rep.mono (g6.g.trans s10) o1
        have r2 : Rep Γ.K Γ.C (L2.upd G6 x (.ins Γ.C dx [("fars", v1), ("turns", v2), ("inside", .ref y)])) v2 dt := Rep.mono s10 o2
        have sx := sem_forX (Γ := Γ.at k) (H0 := H0) (vx := .ref x) (X := NetX (Γ.at k) G H1 x y dx v1 v2) (fun a G H G' H' => NetX.grow a G H G' H') bik bgk z1 (sem_forX (fun a G H G' H' => NetX.grow a G H G' H') bin bgn z2 (sem_putX C hy1 bk bv))
        refine sx [] _ σ3 _ _ _ z.1 z.2 g10.s (((E5.grow g6).un s10).at0 (unOw_no _) hσ (.netP upd_same r1 r2)) ((unOw_no _).set 0 _) hσ ⟨g10, upd_same, by rw [upd_ne hyx]; exact g7.s.free hy, [], by rw [upd_ne hyx]; exact upd_same, rfl, .nil⟩ fz fun G' H' σ' s' t' E' no' hσ' x' => ?_
        obtain ⟨k1, k2, k3, kvs, k4, k5, k6⟩ := x'
        have sy := SL.new (o := .dT kvs) k3
        exact q _ H' (Grow.share k1.s k4 k3 hy1 k1) (.net (sy.ins k2) (r1.mono (t'.trans sy)) (r2.mono (t'.trans sy)) (.dct (.inl upd_same) k5 (k6.mono sy)))
      · cases e'
end
end Pv
set_option Elab.async false
set_option linter.all false
set_option maxRecDepth 100000
set_option maxHeartbeats 4000000
set_option autoImplicit false
namespace Pv
open PySem PySem.Spec PyProof.Rows L2
/-! ### own things, fields, the dict: rows -/
theorem sown_at {i : Nat} {a : Env → Option D} {ρ : Env} : sown i a ρ = (a ρ).bind fun d => some (.nx (ρ.set i (.ow d))) := (rfl)
def extAt (i : Nat) (d : D) (ρ : Env) : Option Res := match ρ[i]?, d with
  | some (.ow (.lst ds)), .lst es => if ds.length + es.length < big then some (.nx (ρ.set i (.ow (.lst (ds ++ es))))) else none
  | _, _ => none
def appAt (i : Nat) (d : D) (ρ : Env) : Option Res := match ρ[i]? with
  | some (.ow (.lst ds)) => if ds.length < big then some (.nx (ρ.set i (.ow (.lst (ds ++ [d]))))) else none
  | _ => none
def putAt (i : Nat) (d kd : D) (ρ : Env) : Option Res := match ρ[i]?, kd with
  | some (.ow (.lst ds)), .int n => (ixN ds.length n).bind fun j => some (.nx (ρ.set i (.ow (.lst (ds.set j d)))))
  | some (.ow (.dct kds)), .tup ks => (asInts ks).bind fun ns => if kds.length < big then some (.nx (ρ.set i (.ow (.dct (putD kds ns d))))) else none
  | _, _ => none
theorem sext_eq {i : Nat} {a : Env → Option D} {ρ : Env} : sext i a ρ = (a ρ).bind fun d => extAt i d ρ := (rfl)
theorem sapp_eq {i : Nat} {a : Env → Option D} {ρ : Env} : sapp i a ρ = (a ρ).bind fun d => appAt i d ρ := (rfl)
theorem sput_eq {i : Nat} {k a : Env → Option D} {ρ : Env} : sput i k a ρ = (a ρ).bind fun d => (k ρ).bind fun kd => putAt i d kd ρ := (rfl)
theorem extAt_l {i : Nat} {ρ : Env} {ds es : List D} (h : ρ[i]? = some (.ow (.lst ds))) (hl : ds.length + es.length < big) : extAt i (.lst es) ρ = some (.nx (ρ.set i (.ow (.lst (ds ++ es))))) := by
  unfold extAt
  rw [h]
  exact if_pos hl
theorem appAt_l {i : Nat} {ρ : Env} {ds : List D} {d : D} (h : ρ[i]? = some (.ow (.lst ds))) (hl : ds.length < big) : appAt i d ρ = some (.nx (ρ.set i (.ow (.lst (ds ++ [d]))))) := by
  unfold appAt
  rw [h]
  exact if_pos hl
theorem ixN_nat {n j : Nat} (h : j < n) : ixN n (j : Int) = some j := by unfold ixN; simp; omega
theorem putAt_l {i : Nat} {ρ : Env} {ds : List D} {d : D} {z : Int} (j : Nat) (h : ρ[i]? = some (.ow (.lst ds))) (hz : z = (j : Int)) (hj : j < ds.length) : putAt i d (.int z) ρ = some (.nx (ρ.set i (.ow (.lst (ds.set j d))))) := by
  subst hz
  unfold putAt
  rw [h]
  show ((ixN ds.length (j : Int)).bind _) = _
  rw [ixN_nat hj]
  rfl
theorem putAt_d {i : Nat} {ρ : Env} {kds : List (List Int × D)} {d : D} {ks : List D} {ns : List Int} (h : ρ[i]? = some (.ow (.dct kds))) (hk : ks = ns.map D.int) (hl : kds.length < big) : putAt i d (.tup ks) ρ = some (.nx (ρ.set i (.ow (.dct (putD kds ns d))))) := by
  subst hk
  unfold putAt
  rw [h]
  show ((asInts (ns.map D.int)).bind _) = _
  rw [asInts_map, Option.bind_some]
  exact if_pos hl
theorem nxE_nx {ρ : Env} : nxE (some (.nx ρ)) = some ρ := (rfl)
theorem nxP_pre {α : Type} {p : Pat} {b : Env → Option Res} (enc : α → D) (I : List α → Env → Prop) (xs : List α) (h : ∀ pre x post, xs = pre ++ x :: post → ∀ ρ, I pre ρ → ∃ ρ1, bindP p (enc x) ρ = some ρ1 ∧ nxP (b ρ1) (I (pre ++ [x]))) {ρ : Env} (h0 : I [] ρ) : nxP (forD p b (xs.map enc) ρ) (I xs) := by
  have go : ∀ (post pre : List α), xs = pre ++ post → ∀ ρ, I pre ρ → nxP (forD p b (post.map enc) ρ) (I xs) := by
    intro post
    induction post with
    | nil => intro pre hp ρ h1; rw [List.append_nil] at hp; subst hp; exact ⟨ρ, rfl, h1⟩
    | cons x post ih =>
      intro pre hp ρ h1
      obtain ⟨ρ1, e1, ρ2, e2, h2⟩ := h pre x post hp ρ h1
      obtain ⟨ρ3, e3, h3⟩ := ih (pre ++ [x]) (by rw [hp, List.append_assoc]; rfl) ρ2 h2
      refine ⟨ρ3, ?_, h3⟩
      rw [List.map_cons]
      unfold forD
      rw [e1, Option.bind_some, e2, Option.bind_some]
      exact e3
  exact go xs [] rfl ρ h0
theorem sfrz_ow {i : Nat} {f : Env → Option Res} {ρ : Env} {d : D} (h : ρ[i]? = some (.ow d)) : sfrz i f ρ = f (ρ.set i (.sh d)) := by
  unfold sfrz frzE
  rw [h]; rfl
theorem sfrz_sh {i : Nat} {f : Env → Option Res} {ρ : Env} {d : D} (h : ρ[i]? = some (.sh d)) : sfrz i f ρ = f ρ := by
  unfold sfrz frzE
  rw [h]; rfl
theorem farsD_n {f t i : D} : farsD (.net f t i) = some f := (rfl)
theorem turnsD_n {f t i : D} : turnsD (.net f t i) = some t := (rfl)
theorem insideD_n {f t : D} {kds : List (List Int × D)} : insideD (.net f t (.dct kds)) = some (.dct kds) := (rfl)
theorem fM_eq {f : List D → Option D} {o : Env → Option D} {a : Env → Option (List D)} {ρ : Env} : fM f o a ρ = (o ρ).bind fun x => (a ρ).bind fun ds => if netB x = true then f (x :: ds) else none := (rfl)
theorem netB_n {f t i : D} : netB (.net f t i) = true := (rfl)
theorem ssD_i {ns : List Int} (h : ns.length < 64) : ssD (.lst (ns.map D.int)) = some (.lst ((sortU ns).map D.int)) := by
  show (asInts (ns.map D.int)).bind _ = _
  rw [asInts_map, Option.bind_some]
  exact if_pos h
theorem ixI {ns : List Int} {k : Nat} {j : Int} (hj : j = (k : Int)) (h : k < ns.length) : ixD (.lst (ns.map D.int)) (.int j) = some (.int (ns.getD k 0)) := by
  subst hj
  refine atI_nat (xs := ns.map D.int) (j := k) ?_
  rw [List.getElem?_map, List.getElem?_eq_getElem h, List.getD_eq_getElem?_getD, List.getElem?_eq_getElem h]; rfl
theorem seqD_d {kds : List (List Int × D)} : seqD (.dct kds) = some (kds.map fun p => .tup (p.1.map D.int)) := (rfl)
theorem getK_mem {kds : List (List Int × D)} {k : List Int} {d : D} (h : ∃ p ∈ kds, p.1 = k) (h2 : ∀ p ∈ kds, p.1 = k → p.2 = d) : getK kds k = some d := by
  unfold getK
  cases e : kds.find? fun p => decide (p.1 = k) with
  | none =>
    obtain ⟨p, hp, hk⟩ := h
    have := List.find?_eq_none.mp e p hp
    simp [hk] at this
  | some p =>
    have h3 := List.find?_some e
    have h4 := List.mem_of_find?_eq_some e
    rw [Option.map_some, h2 p h4 (of_decide_eq_true h3)]
theorem putD_new {kds : List (List Int × D)} {k : List Int} {d : D} (h : ∀ p ∈ kds, p.1 ≠ k) : putD kds k d = kds ++ [(k, d)] := by
  unfold putD
  rw [if_neg]
  intro z
  first | (obtain ⟨p, hp, hk⟩ := List.any_eq_true.mp z; exact h p hp (of_decide_eq_true hk)) | (obtain ⟨p, hp⟩ := Option.isSome_iff_exists.mp z; have h3 := List.find?_some hp; exact h p (List.mem_of_find?_eq_some hp) (of_decide_eq_true h3))
theorem nxP_range {p : Pat} {b : Env → Option Res} (I : Nat → Env → Prop) (n : Nat) (h : ∀ j, j < n → ∀ ρ, I j ρ → ∃ ρ1, bindP p (.int (j : Int)) ρ = some ρ1 ∧ nxP (b ρ1) (I (j + 1))) {ρ : Env} (h0 : I 0 ρ) : nxP (forD p b ((List.range n).map fun j : Nat => .int (j : Int)) ρ) (I n) := by
  have go : ∀ (m i : Nat), i + m = n → ∀ ρ, I i ρ → nxP (forD p b ((List.range' i m).map fun j : Nat => .int (j : Int)) ρ) (I n) := by
    intro m
    induction m with
    | zero => intro i hi ρ h1; rw [Nat.add_zero] at hi; subst hi; exact ⟨ρ, rfl, h1⟩
    | succ m ih =>
      intro i hi ρ h1
      obtain ⟨ρ1, e1, ρ2, e2, h2⟩ := h i (by omega) ρ h1
      obtain ⟨ρ3, e3, h3⟩ := ih (i + 1) (by omega) ρ2 h2
      refine ⟨ρ3, ?_, h3⟩
      rw [List.range'_succ, List.map_cons]
      unfold forD
      rw [e1, Option.bind_some, e2, Option.bind_some]
      exact e3
  have := go n 0 (by omega) ρ h0
  rwa [← List.range_eq_range'] at this
theorem forGo_range {α : Type} {p : Pat} {step : α → Env → Option (α × Env)} (I : Nat → α → Env → Prop) (n : Nat) (h : ∀ j, j < n → ∀ a ρ, I j a ρ → ∃ ρ1 z, bindP p (.int (j : Int)) ρ = some ρ1 ∧ step a ρ1 = some z ∧ I (j + 1) z.1 z.2) {a : α} {ρ : Env} (h0 : I 0 a ρ) : ∃ z, forGo p step ((List.range n).map fun j : Nat => .int (j : Int)) a ρ = some z ∧ I n z.1 z.2 := by
  have go : ∀ (m i : Nat), i + m = n → ∀ a ρ, I i a ρ → ∃ z, forGo p step ((List.range' i m).map fun j : Nat => .int (j : Int)) a ρ = some z ∧ I n z.1 z.2 := by
    intro m
    induction m with
    | zero => intro i hi a ρ h1; rw [Nat.add_zero] at hi; subst hi; exact ⟨(a, ρ), rfl, h1⟩
    | succ m ih =>
      intro i hi a ρ h1
      obtain ⟨ρ1, z, e1, e2, h2⟩ := h i (by omega) a ρ h1
      obtain ⟨z3, e3, h3⟩ := ih (i + 1) (by omega) z.1 z.2 h2
      refine ⟨z3, ?_, h3⟩
      rw [List.range'_succ, List.map_cons]
      unfold forGo
      rw [e1, Option.bind_some, e2, Option.bind_some]
      exact e3
  have := go n 0 (by omega) a ρ h0
  rwa [← List.range_eq_range'] at this
/-- all cells of rows and columns -/
def grid {α : Type} (a b : Nat) (f : Nat → Nat → α) : List α := (List.range a).flatMap fun k => (List.range b).map (f k)
theorem grid_s {α : Type} {a b : Nat} {f : Nat → Nat → α} : grid (a + 1) b f = grid a b f ++ (List.range b).map (f a) := by
  unfold grid
  rw [List.range_succ, List.flatMap_append]
  simp
theorem grid_len {α : Type} {a b : Nat} {f : Nat → Nat → α} : (grid a b f).length = a * b := by
  induction a with
  | zero => simp [grid]
  | succ a ih => rw [grid_s, List.length_append, ih, List.length_map, List.length_range, Nat.succ_mul]
theorem mem_grid {α : Type} {a b : Nat} {f : Nat → Nat → α} {x : α} : x ∈ grid a b f ↔ ∃ k n, k < a ∧ n < b ∧ x = f k n := by
  unfold grid
  simp only [List.mem_flatMap, List.mem_map, List.mem_range]
  constructor
  · rintro ⟨k, hk, n, hn, rfl⟩; exact ⟨k, n, hk, hn, rfl⟩
  · rintro ⟨k, n, hk, hn, rfl⟩; exact ⟨k, hk, n, hn, rfl⟩
theorem map_range_s {α : Type} {f : Nat → α} {n : Nat} : (List.range (n + 1)).map f = (List.range n).map f ++ [f n] := by
  rw [List.range_succ, List.map_append]; rfl
def kkey (k n : Nat) : List Int := [(k : Int), (n : Int)]
theorem kkey_inj {k n k' n' : Nat} (h : kkey k n = kkey k' n') : k = k' ∧ n = n' := by
  unfold kkey at h
  simp only [List.cons.injEq, and_true] at h
  omega
abbrev dgrid (a b : Nat) (f : Nat → Nat → D) : List (List Int × D) := grid a b fun k n => (kkey k n, f k n)
theorem getK_grid {a b k n : Nat} {f : Nat → Nat → D} (hk : k < a) (hn : n < b) : getK (dgrid a b f) (kkey k n) = some (f k n) :=
  getK_mem ⟨_, mem_grid.mpr ⟨k, n, hk, hn, rfl⟩, rfl⟩ fun p hp e => by
    obtain ⟨k', n', _, _, rfl⟩ := mem_grid.mp hp
    obtain ⟨rfl, rfl⟩ := kkey_inj e
    rfl
theorem put_grid {a b n : Nat} {f : Nat → Nat → D} (hn : n < b) : putD (dgrid a b f ++ (List.range n).map fun j => (kkey a j, f a j)) (kkey a n) (f a n) = dgrid a b f ++ (List.range (n + 1)).map fun j => (kkey a j, f a j) := by
  rw [putD_new, map_range_s, List.append_assoc]
  intro p hp e
  rcases List.mem_append.mp hp with hp | hp
  · obtain ⟨k', n', hk, _, rfl⟩ := mem_grid.mp hp
    have := kkey_inj e
    omega
  · obtain ⟨j, hj, rfl⟩ := List.mem_map.mp hp
    have := kkey_inj e
    have := List.mem_range.mp hj
    omega
end Pv
set_option Elab.async false
set_option linter.all false
set_option maxRecDepth 100000
set_option maxHeartbeats 4000000
set_option autoImplicit false
namespace Pv
open PySem PySem.Spec PyProof.Rows L2
/-! ### a comprehension that an error may leave -/
/-- behind the block: as the kit's compPost, but the block's own env is told -/
def postX (M : Model) (A : Around) (E : Value → Shared → Prop) (Q : Value → Shared → Prop) (acc : Value) (ce : PySem.Env) : Result → Shared → Prop
  | .ok _, s' => ∃ m, s'.heap.Ns ce.locals m ∧ ∀ h', Heap.SameBut ce.locals s'.heap h' → Q acc { s' with heap := h' }
  | .error x, s' => ∃ m, s'.heap.Ns ce.locals m ∧ ∀ h', Heap.SameBut ce.locals s'.heap h' → wpAny M A (PySem.passOn "comprehension.variables-let-go" x ce : Sem Value) (fun _ _ => False) E { s' with heap := h' }
section
variable {M : Model} {A : Around} {E : Value → Shared → Prop} {s : Shared} {env : PySem.Env}
theorem comp_runX {e : Expr} {scope : Scope} {pos : Pos} {newAcc first : Sem Value} {g : Comprehension} {gs : List Comprehension} {cl : List (Str × Addr)} {Q : Value → Shared → Prop} (hcl : clausesOf e = g :: gs) (hs : ∀ x, foldedSetIterable g.iter env x = pure x) (hclos : closureFor scope env = pure cl)
    (hkind : scope.kind = .function) (hnames : ∀ x ∈ scope.names, x.2 = .local → scope.names.lookup x.1 = some .local)
    (h : wpAny M A first (fun x s₁ => wpAny M A (pyIter x) (fun it s₂ => wpAny M A newAcc (fun acc s₃ => wpAny M A (newFunctionEnv scope env.globals cl [] env.qual none .none (some env)) (fun ce s₄ =>
        codeAny M A (.compStart e 0 it acc { ce with scope := relabel scope env }) (postX M A E Q acc { ce with scope := relabel scope env }) s₄) E s₃) E s₂) E s₁) E s) : wpAny M A (comprehension e scope env pos newAcc false first none) Q E s := by
  unfold comprehension
  rw [hclos, hcl]
  have up : ∀ {α : Type} {m : Sem α} {P P' : α → Shared → Prop} {t : Shared}, wpAny M A m P E t → (∀ a t', P a t' → P' a t') → wpAny M A m P' E t := fun h k => wpAny_mono h k fun _ _ z => z
  refine wpAny_bind (up h fun x s₁ h₁ => ?_)
  refine wpAny_bind (wpAny_standAt (wpAny_bind (wpAny_of_eq (hs x) (wpAny_bind (wpAny_holding (up h₁ fun it s₂ h₂ => ?_))))))
  refine wpAny_standIf (wpAny_bind (up h₂ fun acc s₃ h₃ => ?_))
  refine wpAny_bind (wpAny_pure (wpAny_bind (up h₃ fun ce s₄ h₄ => ?_)))
  dsimp only
  have hv : ∀ x ∈ (scope.names.filter fun x => (x.2 == .local || x.2 == .cell) && x.1 != (".0" : Str)).reverse, x.2 = .local → Env.kindOf { ce with scope := relabel scope env } x.1 = some .local :=
    fun x hx hl => lookup_relabel_local (hnames x (List.mem_filter.mp (List.mem_reverse.mp hx)).1 hl)
  refine wpAny_holding (wpAny_bind (wpAny_attempt (wpAny_holding (wpAny_run (codeAny_mono h₄ fun r s' hr => ?_)))))
  cases r with
  | ok f =>
    obtain ⟨m, hn, hr⟩ := hr
    exact wpAny_bind (wpAny_holding (wpAny_comp_letGo (cenv := { ce with scope := relabel scope env }) hkind _ s' m hv hn fun h' m' _ hs' => wpAny_pure (hr h' hs')))
  | error x =>
    obtain ⟨m, hn, hr⟩ := hr
    exact wpAny_bind (wpAny_holding (wpAny_comp_letGo (cenv := { ce with scope := relabel scope env }) hkind _ s' m hv hn fun h' m' _ hs' => wpAny_mono (hr h' hs') (fun _ _ f => f.elim) fun _ _ y => y))
end
theorem note_same {e : Value} {env env' : PySem.Env} (h : env'.frame = env.frame) : noteFrame e env' = noteFrame e env := by
  unfold noteFrame PySem.frameOf
  rw [h]
theorem frames_sub {h h' base base' : Heap} : ∀ {l : List PySem.Env}, (∀ L ∈ l.filterMap (·.frame), h'.get? L = h.get? L) → (∀ a, base.get? a = none → base'.get? a = none) → h.FunFrames base l → h'.FunFrames base' l
  | [], _, _, _ => trivial
  | env :: l, k, b, ⟨h1, ⟨L, o, h2, h3, h4, h5⟩, h6⟩ => by
    have hm : L ∈ (env :: l).filterMap (·.frame) := by rw [List.filterMap_cons, h2]; exact List.mem_cons_self
    refine ⟨h1, ⟨L, o, h2, b L h3, (k L hm).trans h4, h5⟩, frames_sub (fun y hy => k y ?_) b h6⟩
    rw [List.filterMap_cons, h2]
    exact List.mem_cons_of_mem _ hy
section
variable {X : Cx}
/-- an error that a call lets out within the block -/
theorem comp_exc {E : XK} {pins pinsb : List (Addr × Obj)} {σ σb : L2.St} {H3 Hb : Hp} {s3 sb s' : Shared} {scope : Scope} {ce : PySem.Env} {fp : List Addr} {Q : Value → Shared → Prop} {acc u : Value} (hs : X.stack = X.env :: X.outer) (hf : X.env.frame = some X.env.locals) (tk : Takes X (fun cls d _ H => E cls d H))
    (I3 : Inv X pins σ H3 s3) (f3 : ∀ b ∈ fp, FpOk X pins H3 b ∧ b < s3.heap.objs.size) (cL : ce.locals = s3.heap.objs.size) (cF : ce.frame = X.env.frame) (Ib : Inv (X.blk s3 H3 scope ce fp) pinsb σb Hb sb) (c : L2.CX X.prog X.w X.stack Hb sb E u s') :
    notedBy (model X.prog X.w) X.A ce (fun e t => postX (model X.prog X.w) X.A X.xe Q acc ce (.error e) t) u s' := by
  obtain ⟨a, B, H', cls, d, rfl, fl, hok, ub, na, os, ag, hE⟩ := c
  -- the state without the error
  obtain ⟨G, g1, g2⟩ := restrict s'.heap fun b => (B.get? b).isSome || decide (b ∈ frs X.stack)
  have st : B.StaysIn s'.heap := fl.1
  have gB : ∀ b o, B.get? b = some o → G.get? b = some o := fun b o e => (g1 b (by simp [e])).trans (st b o e)
  have gF : ∀ b, b ∈ frs X.stack → G.get? b = s'.heap.get? b := fun b hb => g1 b (by simp [hb])
  have og : ∀ b o, G.get? b = some o → s'.heap.get? b = some o ∧ (b ∉ frs X.stack → B.get? b = some o) := fun b o e => by
    cases q : ((B.get? b).isSome || decide (b ∈ frs X.stack)) with
    | false => rw [g2 b q] at e; cases e
    | true =>
      rw [g1 b q] at e
      refine ⟨e, fun hb => ?_⟩
      have q' : (B.get? b).isSome = true := by simpa [hb] using q
      obtain ⟨o', q2⟩ := Option.isSome_iff_exists.mp q'
      rw [st b o' q2] at e
      cases e
      exact q2
  have Ic : Inv (X.blk s3 H3 scope ce fp) pinsb σb H' { sb with heap := G, gens := s'.gens, drawn := s'.drawn, toks := s'.toks } := by
    refine Ib.call (ch := []) ⟨fun b o e n hb _ => gB b o (ub.keep b o e n hb), fun b o e n hb _ => ?_, fun b o e n _ => ub.free b o e n, fun b o e _ => ?_, ub.tups, ub.frzs, ub.tbls⟩ (hok.kept gB) ag (fun _ z => nomatch z)
    · obtain ⟨sl, q⟩ := ub.slot b o e hb
      exact ⟨sl, (gF b hb).trans q⟩
    · by_cases hb : b ∈ frs X.stack
      · obtain ⟨sl, q⟩ := ub.slot b o e hb
        exact ⟨_, (gF b hb).trans q⟩
      · obtain ⟨o', q⟩ := ub.there b o e hb
        exact ⟨o', gB b o' q⟩
  have Io : Inv X pins σ H' { sb with heap := G, gens := s'.gens, drawn := s'.drawn, toks := s'.toks } := I3.call' (ch := fp) Ic.os Ic.base Ic.hok Ic.bare fun b hb => ⟨(f3 b hb).1.2.2.2.1, (f3 b hb).1.2.1, (f3 b hb).1.2.2.2.2.1, (f3 b hb).1.2.2.2.2.2⟩
  have hC : H' ce.locals = none := Ic.free
  have fC : FpOk X pins H' ce.locals := I3.fpOk (by rw [cL]; exact Nat.le_refl _) hC
  have nfrC : ∀ L ∈ frs X.stack, L ≠ ce.locals := fun L hL z => by
    rcases List.mem_cons.mp (I3.stkSub L hL) with e | e
    · exact fC.2.1 (by rw [← z, e])
    · exact fC.2.2.1 (by rw [← z]; exact e)
  -- it is noted
  unfold notedBy
  rw [note_same cF]
  have hfr : X.A.frames = some (X.env :: X.outer) := by rw [I3.ok.frames, hs]
  refine HandSPX.looks_onZ Zc.steady hfr hf (by rw [← hs]; exact fl) fun h1 hd1 up1 => ?_
  obtain ⟨k1, k2, k3, oe, vs, T, oT, ts, e1, z1, e2, e3, e4, e5, e6, e7, e8⟩ := hd1
  obtain ⟨m, ⟨oC, es, ep, o1, o2, o3⟩, _⟩ := Ic.loc
  have o1 : G.get? ce.locals = some oC := o1
  have hnf : ∀ vs, oC.data ≠ .fields vs := fun vs z => by rw [o2] at z; cases z
  obtain ⟨sl, o4⟩ := up1 ce.locals oC (og _ _ o1).1 hnf
  refine ⟨m, ⟨_, es, ep, o4, o2, o3⟩, fun h2 sb2 => ?_⟩
  have neA : a ≠ ce.locals := fun z => by rw [z, o4] at e1; cases e1; exact hnf _ e2
  have neT : T ≠ ce.locals := fun z => by rw [z, o4] at e6; cases e6; exact hnf _ e7
  -- the ground without the block's names
  have B2 : ∀ b o, (PySem.W.hideAll B [ce.locals]).get? b = some o → b ≠ ce.locals ∧ B.get? b = some o := fun b o e => by
    refine ⟨fun z => ?_, PySem.W.of_hideAll _ e⟩
    rw [z, PySem.W.hideAll_none _ List.mem_cons_self] at e
    cases e
  have B2n : ∀ b, B.get? b = none → (PySem.W.hideAll B [ce.locals]).get? b = none := fun b e => by
    cases q : (PySem.W.hideAll B [ce.locals]).get? b with
    | none => rfl
    | some o => rw [(B2 b o q).2] at e; cases e
  have st2 : (PySem.W.hideAll B [ce.locals]).StaysIn h2 := fun b o e => by
    obtain ⟨n, e'⟩ := B2 b o e
    exact (sb2.2 b n).trans (k1 b o e')
  have fr2 : h2.FunFrames (PySem.W.hideAll B [ce.locals]) (X.env :: X.outer) := frames_sub (fun L hL => sb2.2 L (nfrC L (by rw [hs]; exact hL))) B2n k3
  have tr2 : HandSPX.TracedZ h2 (PySem.W.hideAll B [ce.locals]) a (Zc cls d) (rawInt X.env.locals) := ⟨oe, vs, T, oT, ts, (sb2.2 a neA).trans e1, z1, e2, e3, B2n T e4, e5, (sb2.2 T neT).trans e6, e7, e8⟩
  -- the state without the error and the block's names
  have I2 : Inv X pins σ H' { sb with heap := PySem.W.hideAll G [ce.locals], gens := s'.gens, drawn := s'.drawn, toks := s'.toks } :=
    Io.turned (t' := s'.toks) (it := ce.locals) (fun b o hb e => PySem.W.hideAll_get _ e (by simpa using hb)) fC.1 fC.2.1 fC.2.2.2.1 fC.2.2.2.2.1 fC.2.2.2.2.2
  have up2 : (PySem.W.hideAll G [ce.locals]).UpToSlots h2 := fun b o e hn => by
    have n : b ≠ ce.locals := fun z => by rw [z, PySem.W.hideAll_none _ List.mem_cons_self] at e; cases e
    obtain ⟨sl, q⟩ := up1 b o (og b o (PySem.W.of_hideAll _ e)).1 hn
    exact ⟨sl, (sb2.2 b n).trans q⟩
  have nb2 : ∀ b o, (PySem.W.hideAll G [ce.locals]).get? b = some o → b ∉ frs X.stack → (PySem.W.hideAll B [ce.locals]).get? b = some o := fun b o e hb => by
    have n : b ≠ ce.locals := fun z => by rw [z, PySem.W.hideAll_none _ List.mem_cons_self] at e; cases e
    exact PySem.W.hideAll_get _ ((og b o (PySem.W.of_hideAll _ e)).2 hb) (by simpa using n)
  have fin : ∀ {α : Type} {P : α → Shared → Prop}, wpAny (model X.prog X.w) X.A (setFlight (.ref a) ce.frame) (fun _ s4 => wpAny (model X.prog X.w) X.A (throw (.ref a) : Sem α) P X.xe s4) X.xe { s' with heap := h2 } := fun {α P} => by
    rw [cF, hf]
    refine HandSPX.setFlight_anyZ (s := { s' with heap := h2 }) st2 fr2 tr2 fun h4 s4 f4 t4 u4 => wpAny_throw (tk _ _ ?_)
    exact ⟨a, _, _, pins, σ, H', cls, d, rfl, I2, nb2, up2.trans u4, .inr (.inr (by rw [hs]; exact ⟨s4, B2n a k2, f4, t4⟩)), na, os, ag, hE⟩
  unfold PySem.passOn
  refine wpAny_bind (wpAny_field ((sb2.2 a neA).trans e1) e2 e3 ?_)
  rw [if_neg (show ¬ ((Value.ref T == Value.none) = true) from by simp)]
  first
    | exact wpAny_bind (wpAny_pure (wpAny_bind fin))
    | exact wpAny_bind fin
/-- [elt for target in iter if ..], elt may let an error out (E: what is wished of it) -/
theorem pe_lcX {E : XK} {elt tg iter : Expr} {ifs : List Expr} {scope : Scope} {own : List (Str × Nat)} {pos : Pos} {wi : TI} {g : TG} {tt : TT} {te : TE} (hs : X.stack = X.env :: X.outer) (hf : X.env.frame = some X.env.locals) (tk : Takes X (fun cls d _ H => E cls d H)) (hc : X.calm = true) (hN : X.N.Nodup)
    (hi : PI X tg iter wi) (ok : BlkOk X.N X.env.scope scope own)
    (hg : ∀ (s : Shared) (H : Hp) (C : Addr) (cl : List (Str × Addr)) (fp : List Addr), PG (X.blk s H scope (compEnvC scope cl C X.env) fp) tg g) (ht : ∀ (s : Shared) (H : Hp) (C : Addr) (cl : List (Str × Addr)) (fp : List Addr), PTs (X.blk s H scope (compEnvC scope cl C X.env) fp) ifs tt)
    (he : ∀ (s : Shared) (H : Hp) (C : Addr) (cl : List (Str × Addr)) (fp : List Addr) (xe : Value → Shared → Prop), (∀ τ, PassesAt (L2.CX X.prog X.w) ((X.blk s H scope (compEnvC scope cl C X.env) fp).wish xe) τ E) → PE ((X.blk s H scope (compEnvC scope cl C X.env) fp).wish xe) elt te)
    (hfs : ∀ x, foldedSetIterable iter X.env x = pure x := by intro _; rfl) : PE X (.ListComp elt [⟨tg, iter, ifs, 0⟩] scope pos) (tLc wi g tt te (own.map (·.2))) := by
  refine ⟨fun pins s σ H Q I h => ?_⟩
  rw [eval_ListComp]
  have hfree : ∀ y ∈ scope.names, y.2 = .free → ∃ c, X.env.cells.lookup y.1 = some c := fun y hy e => (ok.free y hy e).elim (fun k => I.ok.has _ (.inl k)) fun k => I.ok.has _ (.inr k)
  refine comp_runX rfl hfs (closure_ok hfree) ok.kind (fun y hy e => by rw [ok.uniq y hy, e]) (thn (hi.run pins s σ H _ I h) fun xv s1 hx => thn hx fun itv s2 h2 => ?_)
  obtain ⟨it, fp, tn, J, H2, e, I2, T, st2, f2, q⟩ := h2
  subst e
  refine wpAny_newObj_type (newEnv_comp ?_) (by show 0 ≤ sizeLine; decide)
  generalize hD : s2.heap.objs.size = D
  have hDn : H2 D = none := I2.hok.fresh (Nat.le_of_eq hD)
  obtain ⟨W, ⟨m0, w0⟩, turn⟩ := q D hDn
  generalize hs3 : ({ s2 with heap := s2.heap.push { cls := .type "list", data := .seq ([] : List Value).toArray } } : Shared) = s3
  have I3 : Inv X pins σ (upd H2 D (.lst [])) s3 := by
    subst hs3
    refine I2.laid (t' := s2.toks) (fun b o z => Heap.get?_push_of_some _ z) (Nat.le_of_eq hD) ⟨Nat.zero_le _, [], 0, .nil, ?_⟩
    rw [← hD]; exact Heap.get?_push_size _ rfl
  have h3 : s3.heap = s2.heap.push { cls := .type "list", data := .seq ([] : List Value).toArray } := by rw [← hs3]
  have sz : ∀ b ∈ fp, b < s2.heap.objs.size := fun b hb => let ⟨o, z, _⟩ := T.obj _ _ st2 b hb; Heap.lt_size z
  have f3 : ∀ b ∈ fp, FpOk X pins (upd H2 D (.lst [])) b ∧ b < s3.heap.objs.size := fun b hb => by
    refine ⟨⟨?_, (f2 b hb).2⟩, by rw [h3, Heap.size_push]; exact Nat.lt_succ_of_lt (sz b hb)⟩
    rw [upd_ne (by rw [← hD]; exact Nat.ne_of_lt (sz b hb))]
    exact (f2 b hb).1
  have st3 : tn 0 s3.heap := T.keep _ _ _ st2 fun b _ o z => by rw [h3]; exact Heap.get?_push_of_some _ z
  have I4 := block_start I3 ok hN f3
  have pg := hg s3 (upd H2 D (.lst [])) s3.heap.objs.size (cellsFrom (s3.heap.objs.size + 1) scope.names (cloFrom X.env.cells scope.names [])) fp
  have pt := ht s3 (upd H2 D (.lst [])) s3.heap.objs.size (cellsFrom (s3.heap.objs.size + 1) scope.names (cloFrom X.env.cells scope.names [])) fp
  have pe := he s3 (upd H2 D (.lst [])) s3.heap.objs.size (cellsFrom (s3.heap.objs.size + 1) scope.names (cloFrom X.env.cells scope.names [])) fp
  have cF : (compEnvC scope (cellsFrom (s3.heap.objs.size + 1) scope.names (cloFrom X.env.cells scope.names [])) s3.heap.objs.size X.env).frame = X.env.frame := rfl
  show codeAny _ _ (.compStart (.ListComp elt [⟨tg, iter, ifs, 0⟩] scope pos) 0 (.ref it) (.ref D) (compEnvC scope (cellsFrom (s3.heap.objs.size + 1) scope.names (cloFrom X.env.cells scope.names [])) s3.heap.objs.size X.env))
    (postX (model X.prog X.w) X.A X.xe (EP X pins σ Q) (.ref D) (compEnvC scope (cellsFrom (s3.heap.objs.size + 1) scope.names (cloFrom X.env.cells scope.names [])) s3.heap.objs.size X.env)) { s3 with heap := pushCells (s3.heap.push { cls := .type "dict", data := .dict #[] }) scope.names }
  have nfp : ∀ b ∈ fp, (upd H2 D (.lst [])) b = none := fun b hb => (f3 b hb).1.1
  have cL : (compEnvC scope (cellsFrom (s3.heap.objs.size + 1) scope.names (cloFrom X.env.cells scope.names [])) s3.heap.objs.size X.env).locals = s3.heap.objs.size := rfl
  generalize hce : compEnvC scope (cellsFrom (s3.heap.objs.size + 1) scope.names (cloFrom X.env.cells scope.names [])) s3.heap.objs.size X.env = ce at I4 pg pt pe cF cL ⊢
  generalize hH3 : upd H2 D (.lst []) = H3 at I3 I4 pg pt pe w0 nfp f3
  generalize hs4 : ({ s3 with heap := pushCells (s3.heap.push { cls := .type "dict", data := .dict #[] }) scope.names } : Shared) = s4 at I4 ⊢
  have pe := pe (notedBy (model X.prog X.w) X.A ce fun e t => postX (model X.prog X.w) X.A X.xe (EP X pins σ Q) (.ref D) ce (.error e) t) fun τ pinsb Hb sb u s' Ib c => comp_exc hs hf tk I3 f3 cL cF (Inv.unwish Ib) c
  have st4 : tn 0 s4.heap := T.keep _ _ _ st3 fun b _ o z => by rw [← hs4]; exact pushCells_keeps _ _ _ _ (Heap.get?_push_of_some _ z)
  have stat : ∀ {τ : L2.St} {H' : Hp} {s' : Shared}, Inv (X.blk s3 H3 scope ce fp) [] τ H' s' → (∀ b ∈ fp, H' b = none) → ∀ b ∈ fp, FpOk (X.blk s3 H3 scope ce fp) [] H' b := fun {τ H' s'} I' hn b hb =>
    ⟨hn b hb, (I'.ok.exf b hb).1, I'.ok.exfs b hb, .inl hb, fun x c z => (I'.ok.exf b hb).2 x c z, fun p hp => absurd (show p ∈ ([] : List (Addr × Obj)) ++ [] from hp) (by simp)⟩
  refine codeAny_compStart_list ?loop (T.self X.A 0 _ _ _ st4 ?loop)
  refine compLoop_any (fun n s' => ∃ i H', Inv (X.blk s3 H3 scope ce fp) [] (wipe σ (own.map (·.2))) H' s' ∧ tn i s'.heap ∧ (∀ b ∈ fp, H' b = none) ∧ W i n H') ?_ m0 ⟨0, H3, I4, st4, nfp, w0⟩
  rintro n s5 ⟨i, H5, I5, st5, n5, w5⟩
  rcases turn i n H5 w5 with ⟨stop, qq⟩ | ⟨go, Nx, hNx, step⟩
  · refine thnF (T.done (X.blk s3 H3 scope ce fp) rfl rfl rfl hc i [] s5 _ H5 (fun _ _ => False) I5 (stat I5 n5) st5 stop) fun r s6 ⟨hr, I6⟩ => ?_
    subst hr
    have I7 : Inv X pins σ H5 s6 := I3.call' (ch := fp) I6.os I6.base I6.hok I6.bare fun b hb => let z := (f3 b hb).1; ⟨z.2.2.2.1, z.2.1, z.2.2.2.2.1, z.2.2.2.2.2⟩
    have nC : H5 ce.locals = none := I6.free
    obtain ⟨m, hn, _⟩ := I6.loc
    refine ⟨m, hn, fun h'' sb => ?_⟩
    obtain ⟨a0, a1, a2, a3, a4, a5⟩ := I3.fpOk (b := ce.locals) (by rw [cL]; exact Nat.le_refl _) nC
    exact ⟨.ref D, H5, I7.turned (t' := s6.toks) (fun b o hb z => (sb.2 b hb).trans z) a0 a1 a3 a4 a5, rfl, qq⟩
  · refine thnF (T.item (X.blk s3 H3 scope ce fp) rfl rfl rfl hc i [] s5 _ H5 (fun _ _ => False) I5 (stat I5 n5) st5 go) fun r s6 ⟨u, hr, h6⟩ => ?_
    subst hr
    refine thnF h6 fun _ s7 ⟨x, H7, I7, r7, y7, st7, n7⟩ => ?_
    refine thnF (pg.run _ s7 _ H7 x u _ (I7.pinned (stat I7 n7) (T.obj _ _ st7)) r7 (step x H7 y7)) fun _ s8 ⟨σ8, H8, I8, hw8, q8⟩ => ?_
    refine thnF (pt.run _ s8 σ8 H8 _ I8 q8) fun b s9 ⟨H9, I9, q9⟩ => ?_
    have fin : ∀ {s' : Shared} {H' : Hp}, Inv (X.blk s3 H3 scope ce fp) ([] ++ pinsAt fp s7.heap) σ8 H' s' → Nx H' → ∃ m, m < n ∧ ∃ i H', Inv (X.blk s3 H3 scope ce fp) [] (wipe σ (own.map (·.2))) H' s' ∧ tn i s'.heap ∧ (∀ b ∈ fp, H' b = none) ∧ W i m H' := fun {s' H'} I' nx => by
      obtain ⟨m', hm, w'⟩ := hNx H' nx
      have pin' : ∀ b ∈ fp, ∀ o, s7.heap.get? b = some o → s'.heap.get? b = some o ∧ H' b = none := fun b hb o z =>
        have y := I'.pin (b, o) (List.mem_append_right _ (List.mem_append_right _ (mem_pinsAt hb z)))
        ⟨y.1, y.2.1⟩
      refine ⟨m', hm, i + 1, H', (I'.unpinned (pins := [])).weak (by rw [← hw8, wipe_length]) (fun j v z => ?_), T.keep _ _ _ st7 fun b hb o z => (pin' b hb o z).1, fun b hb => ?_, w'⟩
      · rw [← hw8] at z
        exact (wipe_some z).1
      · obtain ⟨o, z, _⟩ := T.obj _ _ st7 b hb
        exact (pin' b hb o z).2
    cases b with
    | false =>
      simp only [Bool.false_eq_true, if_false] at q9 ⊢
      exact fin I9 q9
    | true =>
      simp only [if_true] at q9 ⊢
      refine wpAny_mono (pe.run _ s9 σ8 H9 _ (I9.wish _) q9) (fun z s10 ⟨yv, H10, I10, r10, acc, hD10, hz10, nx⟩ => ?_) fun _ _ z => z
      exact app_ok (X := X.blk s3 H3 scope ce fp) (Inv.unwish I10) hD10 hz10 r10 fun s11 I11 => fin I11 nx
end
end Pv
set_option Elab.async false
set_option linter.all false
set_option maxRecDepth 100000
set_option maxHeartbeats 4000000
set_option autoImplicit false
namespace Pv
open PySem PySem.Spec PyProof.Rows L2
section
variable {Γ : Gam} {N : List Str} {sc : Scope} {κ κ1 κ2 κ3 : Kd} {G H G' H' G1 H1 : Hp} {v : V} {d : D}
/-! ### texts -/
theorem log_small {n : Nat} (h : n < 2 ^ 64) : n.log2 < 1920 := by
  by_cases h0 : n = 0
  · rw [h0]; decide
  · rw [Nat.log2_lt h0]
    exact Nat.lt_of_lt_of_le h (Nat.pow_le_pow_right (by decide) (by decide))
def strI : D → Option D
  | .int i => if i.natAbs < 2 ^ 64 then some (.str (toString i)) else none
  | _ => none
theorem d_strI {ea : Expr} {a : Env → Option D} {p pos : Pos} (hg : glB sc "str" = true) (hm : Γ.mg "str" = none) (ha : DV Γ N sc κ1 ea a) (hs : Pl1 ea [] := by exact fun _ => rfl) : DV Γ N sc .e (.Call (.Name "str" p) [ea] [] pos) (f1 strI a) :=
  d_t1 (fun X g => call_str_int) (by decide +kernel) (by decide) (by decide) (fun G H x d z s rx h Q q => by
    cases d <;> try cases h
    rename_i i
    have h : (if i.natAbs < 2 ^ 64 then some (D.str (toString i)) else none) = some z := h
    split at h
    · rename_i c
      cases h
      exact ⟨i, by rw [rx.int], log_small c, q G H _ (Grow.refl s) (.str _)⟩
    · cases h) hg hm ha hs
def intS : D → Option D
  | .str z => (PySem.intText? z).bind fun n => if z.length ≤ 640 then some (.int n) else none
  | _ => none
theorem d_intS {ea : Expr} {a : Env → Option D} {p pos : Pos} (hg : glB sc "int" = true) (hm : Γ.mg "int" = none) (ha : DV Γ N sc κ1 ea a) (hs : Pl1 ea [] := by exact fun _ => rfl) : DV Γ N sc .e (.Call (.Name "int" p) [ea] [] pos) (f1 intS a) :=
  d_t1 (fun X g => call_int_str) (by decide +kernel) (by decide) (by decide) (fun G H x d z s rx h Q q => by
    cases d <;> try cases h
    rename_i y
    obtain ⟨n, e, h⟩ := Option.bind_eq_some_iff.mp h
    split at h
    · rename_i c
      cases h
      exact ⟨y, n, by rw [rx.str], e, c, q G H _ (Grow.refl s) (.int _)⟩
    · cases h) hg hm ha hs
theorem rep_strs : ∀ ys : List Str, RepL Γ.K Γ.C G (ys.map V.str) (ys.map D.str)
  | [] => .nil
  | y :: ys => .cons (.str y) (rep_strs ys)
def splitD : D → D → Option D
  | .str a, .str b => if b.length ≠ 0 ∧ a.length + 2 ≤ big then some (.lst ((Txt.split a b).map D.str)) else none
  | _, _ => none
theorem splitD_eq {x y z : D} (h : splitD x y = some z) : ∃ a b, x = .str a ∧ y = .str b ∧ b.length ≠ 0 ∧ a.length + 2 ≤ big ∧ z = .lst ((Txt.split a b).map D.str) := by
  cases x <;> try cases h
  rename_i u
  cases y <;> try cases h
  rename_i w
  have h : (if w.length ≠ 0 ∧ u.length + 2 ≤ big then some (D.lst ((Txt.split u w).map D.str)) else none) = some z := h
  split at h
  · rename_i c
    cases h
    exact ⟨u, w, rfl, rfl, c.1, c.2, rfl⟩
  · cases h
theorem d_split {o e : Expr} {a b : Env → Option D} {apos pos : Pos} (ho : DV Γ N sc κ1 o a) (he : DV Γ N sc κ2 e b) (hs : ∀ env : PySem.Env, starEach [e] env = [(false, eval e env)] := by exact fun _ => rfl)
    (hbase : ∀ env : PySem.Env, attributeBase o "split" env (eval o env) = eval o env := by exact fun _ => rfl) (hline : (apos.endLine == pos.line) = true := by rfl) : DV Γ N sc .f (.Call (.Attribute o "split" apos) [e] [] pos) (f2 splitD a b) := by
  obtain ⟨ta, pa, sa⟩ := ho.ex
  obtain ⟨tb, pb, sb⟩ := he.ex
  refine ⟨_, fun X g => pe_split (pa X g) (pb X g) (hs _) (hbase _) hline, fun H0 ρ σ G H Q z s E e q => ?_⟩
  unfold f2 at e
  obtain ⟨x, ex, e⟩ := Option.bind_eq_some_iff.mp e
  obtain ⟨y, ey, e⟩ := Option.bind_eq_some_iff.mp e
  obtain ⟨u, w, rfl, rfl, c1, c2, rfl⟩ := splitD_eq e
  refine sa H0 ρ σ G H _ _ s E ex fun G1 H1 v1 g1 o1 => ?_
  rw [o1.b.str]
  refine ⟨⟨u, rfl⟩, sb H0 ρ σ G1 H1 _ _ g1.s (E.grow g1) ey fun G2 H2 v2 g2 o2 => ?_⟩
  rw [o2.b.str]
  refine ⟨u, w, rfl, rfl, by simpa using c1, Nat.le_trans c2 big_le, fun p hp => ?_⟩
  have g12 := g1.trans g2
  exact q _ _ _ (g12.trans (Grow.newH g2.s hp)) ⟨p, rfl, g12.h.free hp, g2.s.free hp, _, upd_same, rep_strs _⟩
def joinD : D → D → Option D
  | .str a, .lst ds => (asStrs ds).bind fun ys => if (ys.map (·.length)).sum + ys.length * a.length ≤ big then some (.str (Txt.join a ys)) else none
  | _, _ => none
theorem joinD_eq {x y z : D} (h : joinD x y = some z) : ∃ a ds ys, x = .str a ∧ y = .lst ds ∧ asStrs ds = some ys ∧ (ys.map (·.length)).sum + ys.length * a.length ≤ big ∧ z = .str (Txt.join a ys) := by
  cases x <;> try cases h
  rename_i u
  cases y <;> try cases h
  rename_i ds
  have h : ((asStrs ds).bind fun ys => if (ys.map (·.length)).sum + ys.length * u.length ≤ big then some (D.str (Txt.join u ys)) else none) = some z := h
  obtain ⟨ys, eys, h⟩ := Option.bind_eq_some_iff.mp h
  split at h
  · rename_i c
    cases h
    exact ⟨u, ds, ys, rfl, rfl, eys, c, rfl⟩
  · cases h
theorem d_join {o e : Expr} {a b : Env → Option D} {apos pos : Pos} (ho : DV Γ N sc κ1 o a) (he : DV Γ N sc κ2 e b) (hs : ∀ env : PySem.Env, starEach [e] env = [(false, eval e env)] := by exact fun _ => rfl)
    (hbase : ∀ env : PySem.Env, attributeBase o "join" env (eval o env) = eval o env := by exact fun _ => rfl) (hline : (apos.endLine == pos.line) = true := by rfl) : DV Γ N sc .e (.Call (.Attribute o "join" apos) [e] [] pos) (f2 joinD a b) := by
  obtain ⟨ta, pa, sa⟩ := ho.ex
  obtain ⟨tb, pb, sb⟩ := he.ex
  refine ⟨tM1 (fun x xs H Q => ∃ a p, ∃ ys : List Str, x = .str a ∧ xs = [.ref p] ∧ (SqL Γ.K H p (ys.map V.str) ∨ SqT Γ.K H p (ys.map V.str)) ∧ (ys.map (·.length)).sum + ys.length * a.length ≤ 16777216 ∧ Q (.str (Txt.join a ys)) H) ta tb,
    fun X g => by have z := pe_join (apos := apos) (pos := pos) (pa X g) (pb X g) (hs _) (hbase _) hline; rw [g.K] at z; exact z, fun H0 ρ σ G H Q z s E e q => ?_⟩
  unfold f2 at e
  obtain ⟨x, ex, e⟩ := Option.bind_eq_some_iff.mp e
  obtain ⟨y, ey, e⟩ := Option.bind_eq_some_iff.mp e
  obtain ⟨u, ds, ys, rfl, rfl, eys, c, rfl⟩ := joinD_eq e
  refine sa H0 ρ σ G H _ _ s E ex fun G1 H1 v1 g1 o1 => ?_
  rw [o1.b.str]
  refine ⟨⟨u, rfl⟩, sb H0 ρ σ G1 H1 _ _ g1.s (E.grow g1) ey fun G2 H2 v2 g2 o2 => ?_⟩
  obtain ⟨p, vs, rfl, h1, h2⟩ := o2.b.lst g2.s
  rw [asStrs_eq eys] at h2
  rw [RepL.strs_eq ys h2] at h1
  exact ⟨u, p, ys, rfl, rfl, .inl (SqL.of h1), Nat.le_trans c (by decide), q _ _ _ (g1.trans g2) (.str _)⟩
def inS : D → D → Option D
  | .str y, .str z => match y.cps.toList with
    | [c] => some (.bl (decide (c ∈ z.cps.toList)))
    | _ => none
  | _, _ => none
theorem c_inS {ea eb : Expr} {a b : Env → Option D} {pos : Pos} (ha : DV Γ N sc κ1 ea a) (hb : DV Γ N sc κ2 eb b) (hm : behindInMarks .In eb = false) : DC Γ N sc (.Compare ea [.In] [eb] pos) (f2 inS a b) :=
  d_cmp (fun X g => op_in_sign) (fun G H x y d e z s rx ry h Q q => by
    cases d <;> try cases h
    cases e <;> try cases h
    rename_i u w
    have h : (match u.cps.toList with
      | [c] => some (D.bl (decide (c ∈ w.cps.toList)))
      | _ => none) = some z := h
    split at h
    · rename_i c hc
      cases h
      refine ⟨c, w, ?_, by rw [ry.str], q G H _ (Grow.refl s) (.bl _)⟩
      rw [rx.str]
      obtain ⟨⟨l⟩⟩ := u
      have hc : l = [c] := hc
      rw [hc]
    · cases h) ha hb hm
/-- the parts of f'..' -/
def fmtD : D → Option Str
  | .str y => some y
  | .int i => if i.natAbs < 2 ^ 64 then some (toString i) else none
  | _ => none
def lenS (ys : List Str) : Nat := (ys.map (·.length)).sum
theorem app_len (a b : Str) : (a ++ b).length = a.length + b.length := by
  show (a.cps ++ b.cps).size = _
  rw [Array.size_append]; rfl
structure DJ (Γ : Gam) (N : List Str) (sc : Scope) (es : List Expr) (F : Env → Option (List Str)) : Prop where
  ex : ∃ ts, (∀ X, Good Γ N sc X → PJ X es ts) ∧ ∀ (H0 : Hp) (ρ : Env) (σ : L2.St) (G H : Hp) (acc : Str) (Q : Str → Hp → Prop) (ys : List Str), SL G H → EnvOk Γ H0 G H ρ σ → F ρ = some ys → acc.length + lenS ys ≤ big →
    (∀ G' H', Grow G H G' H' → Q (ys.foldl (fun x y => x ++ y) acc) H') → tJs ts acc σ H Q
theorem j_nil : DJ Γ N sc [] fun _ => some [] := ⟨[], fun X _ => .nil, fun H0 ρ σ G H acc Q ys s E e hl q => by cases e; exact q G H (Grow.refl s)⟩
def jcons (a : Env → Option D) (r : Env → Option (List Str)) : Env → Option (List Str) := fun ρ => (a ρ).bind fun x => (fmtD x).bind fun y => (r ρ).bind fun ys => some (y :: ys)
theorem j_str {x : Str} {k : Nat} {p : Pos} {es : List Expr} {r : Env → Option (List Str)} (h : DJ Γ N sc es r) : DJ Γ N sc (.Constant (.str x) k p :: es) (jcons (kc (.str x)) r) := by
  obtain ⟨ts, p1, s1⟩ := h.ex
  refine ⟨tC (.str x) :: ts, fun X g => .cons pe_str (p1 X g), fun H0 ρ σ G H acc Q ys s E e hl q => ?_⟩
  obtain ⟨zs, ez, e⟩ := Option.bind_eq_some_iff.mp (show ((r ρ).bind fun ys => some (x :: ys)) = some ys from e)
  cases e
  have hl : acc.length + (x.length + lenS zs) ≤ big := hl
  refine ⟨x, rfl, ?_, s1 H0 ρ σ G H (acc ++ x) Q zs s E ez (by rw [app_len]; omega) q⟩
  rw [app_len]
  exact Nat.le_trans (by omega) big_le
theorem j_fmt {e : Expr} {p : Pos} {es : List Expr} {a : Env → Option D} {r : Env → Option (List Str)} (ha : DV Γ N sc .e e a) (h : DJ Γ N sc es r) : DJ Γ N sc (.FormattedValue e (-1) none p :: es) (jcons a r) := by
  obtain ⟨ta, pa, sa⟩ := ha.ex
  obtain ⟨ts, p1, s1⟩ := h.ex
  refine ⟨tFmt ta :: ts, fun X g => .cons (pe_fmt (pa X g)) (p1 X g), fun H0 ρ σ G H acc Q ys s E e hl q => ?_⟩
  unfold jcons at e
  obtain ⟨x, ex, e⟩ := Option.bind_eq_some_iff.mp e
  obtain ⟨y, ey, e⟩ := Option.bind_eq_some_iff.mp e
  obtain ⟨zs, ez, e⟩ := Option.bind_eq_some_iff.mp e
  cases e
  have hl : acc.length + (y.length + lenS zs) ≤ big := hl
  have hy : (acc ++ y).length ≤ sizeLine := by
    rw [app_len]
    exact Nat.le_trans (by omega) big_le
  have rest : ∀ G1 H1, Grow G H G1 H1 → tJs ts (acc ++ y) σ H1 Q := fun G1 H1 g1 => s1 H0 ρ σ G1 H1 (acc ++ y) Q zs g1.s (E.grow g1) ez (by rw [app_len]; omega) fun G2 H2 g2 => q G2 H2 (g1.trans g2)
  refine sa H0 ρ σ G H _ x s E ex fun G1 H1 v1 g1 o1 => ?_
  cases x <;> try cases ey
  · rename_i i
    have ey : (if i.natAbs < 2 ^ 64 then some (toString i : Str) else none) = some y := ey
    split at ey
    · rename_i c
      cases ey
      rw [o1.b.int]
      exact .inr ⟨i, rfl, log_small c, _, rfl, hy, rest G1 H1 g1⟩
    · cases ey
  · rw [o1.b.str]
    exact .inl ⟨_, rfl, Nat.le_trans (by omega) big_le, _, rfl, hy, rest G1 H1 g1⟩
def fstrD (r : Env → Option (List Str)) : Env → Option D := fun ρ => (r ρ).bind fun ys => if lenS ys ≤ big then some (.str (ys.foldl (fun x y => x ++ y) Str.empty)) else none
theorem d_fstr {v1 v2 : Expr} {rest : List Expr} {pos : Pos} {r : Env → Option (List Str)} (h : DJ Γ N sc (v1 :: v2 :: rest) r) : DV Γ N sc .e (.JoinedStr (v1 :: v2 :: rest) pos) (fstrD r) := by
  obtain ⟨ts, p1, s1⟩ := h.ex
  refine ⟨_, fun X g => pe_joined (p1 X g), fun H0 ρ σ G H Q z s E e q => ?_⟩
  unfold fstrD at e
  obtain ⟨ys, ey, e⟩ := Option.bind_eq_some_iff.mp e
  split at e
  · rename_i c
    cases e
    exact s1 H0 ρ σ G H Str.empty _ ys s E ey (by show 0 + lenS ys ≤ big; omega) fun G' H' g => q G' H' _ g (.str _)
  · cases e
end
end Pv
set_option Elab.async false
set_option linter.all false
set_option maxRecDepth 100000
set_option maxHeartbeats 4000000
set_option autoImplicit false
namespace Pv
open PySem PySem.Spec PyProof.Rows L2
section
variable {Γ : Gam} {N : List Str} {sc : Scope} {κ κ1 κ2 κ3 : Kd} {G H G' H' G1 H1 : Hp} {v : V} {d : D}
/-! ### defs that may refuse -/
/-- a value, or the refusal -/
abbrev RF := List D → Option (Option D)
def noText (K : PySem.W.Frag) : Value := .ref (He.ga K "NoText")
def spR (K : PySem.W.Frag) (C : Addr) (f : RF) : Sp := fun vs H Q E => ∃ G ds r, SL G H ∧ RepL K C G vs ds ∧ f ds = some r ∧ (∀ d, r = some d → ∀ G' H' v, Grow G H G' H' → Rep K C G' v d → Q v H') ∧ (r = none → ∀ G' H', Grow G H G' H' → E (noText K) none H')
structure HasR (Γ : Gam) (x : Str) (f : RF) : Prop where
  ex : ∃ (j : Nat) (a : Addr) (fd : FuncData) (ps : List Str), j ≤ Γ.k ∧ Γ.mg x = some (.ref a) ∧ PySem.W.keepIn Γ.K (.ref a) = true ∧ Binds Γ.K fd ps [] ∧ FnOk Γ.P Γ.w Γ.K Γ.mg Γ.base (L2.CX Γ.P Γ.w) j a fd ps (spR Γ.K Γ.C f)
theorem HasR.up {x : Str} {f : RF} {j k : Nat} (h : HasR (Γ.at j) x f) (hk : j ≤ k) : HasR (Γ.at k) x f := by
  obtain ⟨i, a, fd, ps, h1, h2⟩ := h.ex
  exact ⟨i, a, fd, ps, Nat.le_trans h1 hk, h2⟩
/-- where it does not refuse -/
def fNR (f : RF) (a : Env → Option (List D)) : Env → Option D := fun ρ => (a ρ).bind fun ds => (f ds).bind id
theorem d_callN {x : Str} {f : RF} {e : Expr} {es : List Expr} {a : Env → Option (List D)} {p pos : Pos} (h : HasR Γ x f) (hg : glB sc x = true) (hdb : (x == ("__debug__" : Str)) = false) (ha : DA Γ N sc (e :: es) a)
    (hs : Pl1 e es := by exact fun _ => rfl) (hpl : ∀ env : PySem.Env, (backTo pos (starEach es env)).any (·.1) = false := by exact fun _ => rfl) : DV Γ N sc .e (.Call (.Name x p) (e :: es) [] pos) (fNR f a) := by
  obtain ⟨j, fa, fd, ps, hj, hm, hk, hb, hF⟩ := h.ex
  obtain ⟨t, pa, sa⟩ := ha.ex
  refine ⟨tCall (spR Γ.K Γ.C f) [] E0 t, fun X g => ?_, fun H0 ρ σ G H Q z s Ev e q => ?_⟩
  · refine pe_call (CX := L2.CX Γ.P Γ.w) (k := j) (f := fa) (fd := fd) (ps := ps) (ds := []) (dvs := []) (by rw [g.prog, g.w, g.K, g.mg, g.base]; exact hF) (g.room.mono hj) (gl_of g hg) (by rw [g.mg]; exact hm) (by rw [g.K]; exact hk) (by rw [g.K]; exact hb) .nil (fun pins σ H s e s' I c => ?_) (pa X g) hdb (hs _) (hpl _)
    obtain ⟨_, _, _, _, _, _, _, _, _, _, _, _, z⟩ := c
    exact z.elim
  · unfold fNR at e
    obtain ⟨ds, ea, e⟩ := Option.bind_eq_some_iff.mp e
    obtain ⟨r, er, e⟩ := Option.bind_eq_some_iff.mp e
    have e : r = some z := e
    refine sa H0 ρ σ G H _ ds s Ev ea fun G1 H1 vs g1 o1 => ?_
    refine ⟨G1, ds, r, g1.s, by rw [List.append_nil]; exact o1, er, fun d hd G2 H2 v g2 o2 => ?_, fun hr => by rw [hr] at e; cases e⟩
    rw [hd] at e
    cases e
    exact q G2 H2 v (g1.trans g2) o2
/-! ### bodies that may refuse -/
structure GoodR (Γ : Gam) (N : List Str) (sc : Scope) (X : Cx) (E : XK) : Prop where
  g : Good Γ N sc X.nox
  tk : Takes X (fun cls d _ H => E cls d H)
  hs : X.stack = X.env :: X.outer
  hf : X.env.frame = some X.env.locals
  fn : ∀ y, X.fn y = true
def SemVR (Γ : Gam) (E : XK) (t : TE) (F : Env → Option (Option D)) : Prop := ∀ (H0 : Hp) (ρ : Env) (σ : L2.St) (G H : Hp) (Q : VK) (r : Option D), SL G H → EnvOk Γ H0 G H ρ σ → F ρ = some r →
  (∀ (d : D) (G' H' : Hp) (v : V), r = some d → Grow G H G' H' → Rep Γ.K Γ.C G' v d → Q v H') → (r = none → ∀ G' H', Grow G H G' H' → E (noText Γ.K) none H') → t σ H Q
def SemAR (Γ : Gam) (E : XK) (t : TA) (F : Env → Option (Option (List D))) : Prop := ∀ (H0 : Hp) (ρ : Env) (σ : L2.St) (G H : Hp) (Q : List V → Hp → Prop) (r : Option (List D)), SL G H → EnvOk Γ H0 G H ρ σ → F ρ = some r →
  (∀ (ds : List D) (G' H' : Hp) (vs : List V), r = some ds → Grow G H G' H' → RepL Γ.K Γ.C G' vs ds → Q vs H') → (r = none → ∀ G' H', Grow G H G' H' → E (noText Γ.K) none H') → t σ H Q
def SemSR (Γ : Gam) (E : XK) (t : TS) (F : Env → Option (Option Res)) : Prop := ∀ (G0 H0 : Hp) (ρ : Env) (σ : L2.St) (G H : Hp) (De : Ends) (r : Option Res), Grow G0 H0 G H → EnvOk Γ H0 G H ρ σ → F ρ = some r →
  (∀ (ρ' : Env) (G' H' : Hp) (σ' : L2.St), r = some (.nx ρ') → Grow G0 H0 G' H' → SL G G' → EnvOk Γ H0 G' H' ρ' σ' → De.nx σ' H') →
  (∀ (d : D) (G' H' : Hp) (v : V), r = some (.rt d) → Grow G0 H0 G' H' → Rep Γ.K Γ.C G' v d → De.rt v H') → (r = none → ∀ G' H', Grow G0 H0 G' H' → E (noText Γ.K) none H') → t De σ H
structure DVR (Γ : Gam) (N : List Str) (sc : Scope) (e : Expr) (F : Env → Option (Option D)) : Prop where
  ex : ∃ t : XK → TE, (∀ X E, GoodR Γ N sc X E → PE X e (t E)) ∧ ∀ E, SemVR Γ E (t E) F
structure DAR (Γ : Gam) (N : List Str) (sc : Scope) (es : List Expr) (F : Env → Option (Option (List D))) : Prop where
  ex : ∃ t : XK → TA, (∀ X E, GoodR Γ N sc X E → PA X es (t E)) ∧ ∀ E, SemAR Γ E (t E) F
structure DSR (Γ : Gam) (N : List Str) (sc : Scope) (st : Stmt) (F : Env → Option (Option Res)) : Prop where
  ex : ∃ t : XK → TS, (∀ X E, GoodR Γ N sc X E → PS X st (t E)) ∧ ∀ E, SemSR Γ E (t E) F
structure DSsR (Γ : Gam) (N : List Str) (sc : Scope) (sts : List Stmt) (F : Env → Option (Option Res)) : Prop where
  ex : ∃ t : XK → TS, (∀ X E, GoodR Γ N sc X E → PSs X sts (t E)) ∧ ∀ E, SemSR Γ E (t E) F
theorem nox_ps {X : Cx} {st : Stmt} {t : TS} (h : PS X.nox st t) : PS X st t := ⟨fun pins s σ H D I hw => wpAny_mono (h.run pins s σ H D (I.wish _) hw) (fun _ _ q => q.unwish) fun _ _ z => False.elim z⟩
theorem nox_pa {X : Cx} {es : List Expr} {t : TA} (h : PA X.nox es t) : PA X es t := ⟨fun pos pins s σ H Q I hw => wpAny_mono (h.run pos pins s σ H Q (I.wish _) hw) (fun _ _ ⟨vs, H', I', r, q⟩ => ⟨vs, H', I'.unwish, r, q⟩) fun _ _ z => False.elim z⟩
def okF {α : Type} (F : Env → Option α) : Env → Option (Option α) := fun ρ => (F ρ).map some
theorem vr_of {e : Expr} {F : Env → Option D} (h : DV Γ N sc .e e F) : DVR Γ N sc e (okF F) := by
  obtain ⟨t, p, s1⟩ := h.ex
  refine ⟨fun _ => t, fun X E g => (p _ g.g).nox, fun E H0 ρ σ G H Q r s Ev er q1 q2 => ?_⟩
  obtain ⟨d, ed, rfl⟩ := Option.map_eq_some_iff.mp er
  exact s1 H0 ρ σ G H Q d s Ev ed fun G' H' v g o => q1 d G' H' v rfl g o
theorem sr_of {st : Stmt} {F : Env → Option Res} (h : DS Γ N sc st F) : DSR Γ N sc st (okF F) := by
  obtain ⟨t, p, s1⟩ := h.ex
  refine ⟨fun _ => t, fun X E g => nox_ps (p _ g.g g.fn), fun E G0 H0 ρ σ G H De r g Ev er q1 q2 q3 => ?_⟩
  obtain ⟨d, ed, rfl⟩ := Option.map_eq_some_iff.mp er
  exact s1 G0 H0 ρ σ G H De d g Ev ed (fun ρ' G' H' σ' e g' sl E' => q1 ρ' G' H' σ' (by rw [e]) g' sl E') fun d G' H' v e g' o => q2 d G' H' v (by rw [e]) g' o
theorem ssr_nil : DSsR Γ N sc [] (okF snx) := by
  obtain ⟨t, p, s1⟩ := (ss_nil (Γ := Γ) (N := N) (sc := sc)).ex
  refine ⟨fun _ => t, fun X E g => (p _ g.g g.fn).nox, fun E G0 H0 ρ σ G H De r g Ev er q1 q2 q3 => ?_⟩
  obtain ⟨d, ed, rfl⟩ := Option.map_eq_some_iff.mp er
  exact s1 G0 H0 ρ σ G H De d g Ev ed (fun ρ' G' H' σ' e g' sl E' => q1 ρ' G' H' σ' (by rw [e]) g' sl E') fun d G' H' v e g' o => q2 d G' H' v (by rw [e]) g' o
theorem ssr_one {st : Stmt} {F : Env → Option (Option Res)} (h : DSR Γ N sc st F) : DSsR Γ N sc [st] F := let ⟨t, p, s⟩ := h.ex; ⟨t, fun X E g => pss_one (p X E g), s⟩
def rseq (f g : Env → Option (Option Res)) : Env → Option (Option Res) := fun ρ => (f ρ).bind fun r => match r with
  | some (.nx ρ') => g ρ'
  | some (.rt d) => some (some (.rt d))
  | none => some none
theorem ssr_cons {st : Stmt} {rest : List Stmt} {F K : Env → Option (Option Res)} (h1 : DSR Γ N sc st F) (h2 : DSsR Γ N sc rest K) : DSsR Γ N sc (st :: rest) (rseq F K) := by
  obtain ⟨t1, p1, s1⟩ := h1.ex
  obtain ⟨t2, p2, s2⟩ := h2.ex
  refine ⟨fun E => tSeq (t1 E) (t2 E), fun X E g => pss_cons (p1 X E g) (p2 X E g), fun E G0 H0 ρ σ G H De r g Ev e q1 q2 q3 => ?_⟩
  unfold rseq at e
  obtain ⟨r1, ef, e⟩ := Option.bind_eq_some_iff.mp e
  refine s1 E G0 H0 ρ σ G H _ r1 g Ev ef (fun ρ' G' H' σ' er g' sl E' => ?_) (fun d G' H' v er g' rr => ?_) fun er G' H' g' => ?_
  · subst er
    exact s2 E G0 H0 ρ' σ' G' H' De r g' E' e (fun ρ2 G2 H2 σ2 e2 g2 sl2 E2 => q1 ρ2 G2 H2 σ2 e2 g2 (sl.trans sl2) E2) q2 q3
  · subst er
    cases e
    exact q2 d G' H' v rfl g' rr
  · subst er
    cases e
    exact q3 rfl G' H' g'
def rif (c : Env → Option Bool) (a b : Env → Option (Option Res)) : Env → Option (Option Res) := fun ρ => (c ρ).bind fun k => if k then a ρ else b ρ
theorem r_if {c : Expr} {a b : List Stmt} {pos : Pos} {fc : Env → Option Bool} {fa fb : Env → Option (Option Res)} (hc : DT Γ N sc c fc) (ha : DSsR Γ N sc a fa) (hb : DSsR Γ N sc b fb) : DSR Γ N sc (.If c a b pos) (rif fc fa fb) := by
  obtain ⟨tc, pc, sc1⟩ := hc.ex
  obtain ⟨ta, pa, sa⟩ := ha.ex
  obtain ⟨tb, pb, sb⟩ := hb.ex
  refine ⟨fun E => tIfS tc (ta E) (tb E), fun X E g => ps_if (pc _ g.g).nox (pa X E g) (pb X E g), fun E G0 H0 ρ σ G H De r g Ev e q1 q2 q3 => ?_⟩
  unfold rif at e
  obtain ⟨k, ec, e⟩ := Option.bind_eq_some_iff.mp e
  refine sc1 H0 ρ σ G H _ k g.s Ev ec fun G1 H1 g1 => ?_
  cases k with
  | true => rw [if_pos rfl]; exact sa E G0 H0 ρ σ G1 H1 De r (g.trans g1) (Ev.grow g1) e (fun ρ2 G2 H2 σ2 e2 g2 sl2 E2 => q1 ρ2 G2 H2 σ2 e2 g2 (g1.g.trans sl2) E2) q2 q3
  | false => rw [if_neg Bool.false_ne_true]; exact sb E G0 H0 ρ σ G1 H1 De r (g.trans g1) (Ev.grow g1) e (fun ρ2 G2 H2 σ2 e2 g2 sl2 E2 => q1 ρ2 G2 H2 σ2 e2 g2 (g1.g.trans sl2) E2) q2 q3
/-- the class of the refusal -/
structure TxtC (Γ : Gam) : Prop where
  g : Γ.mg "NoText" = some (noText Γ.K)
  x : PySem.W.excIn Γ.K (He.ga Γ.K "NoText") He.veBase "ValueError.__new__" = true
  k : PySem.W.keepIn Γ.K (noText Γ.K) = true
  b : PySem.W.subIn Γ.K (noText Γ.K) (.type "BaseException") = some true
  t : PySem.W.typeIn Γ.K (noText Γ.K) = some (.type "type")
theorem r_raise {m : Str} {j : Nat} {p p2 pos pos2 : Pos} (T : TxtC Γ) (hg : glB sc "NoText" = true) : DSR Γ N sc (.Raise (some (.Call (.Name "NoText" p) [.Constant (.str m) j p2] [] pos)) none pos2) (fun _ => some none) := by
  refine ⟨fun E => fun _ _ H => E (noText Γ.K) none H, fun X E g => ?_, fun E G0 H0 ρ σ G H De r g Ev e q1 q2 q3 => ?_⟩
  · have hK : X.K = Γ.K := g.g.K
    have hm : X.mg = Γ.mg := g.g.mg
    exact ps_raise (X := X) (W := fun cls d _ H => E cls d H) (show X.calm = true from g.g.calm) g.tk (pmk_own PySem.F.excBase_ValueError (by rw [hK]; exact T.x) (by rw [hm]; exact T.g) (by rw [hK]; exact T.k) (raises_own (by rw [hK]; exact T.b) (by rw [hK]; exact T.t)) (have h : Gl X.nox "NoText" := gl_of g.g hg; h))
  · cases e
    exact q3 rfl G H g
theorem vr_call {x : Str} {f : RF} {e : Expr} {es : List Expr} {a : Env → Option (List D)} {p pos : Pos} (h : HasR Γ x f) (hg : glB sc x = true) (hdb : (x == ("__debug__" : Str)) = false) (ha : DA Γ N sc (e :: es) a)
    (hs : Pl1 e es := by exact fun _ => rfl) (hpl : ∀ env : PySem.Env, (backTo pos (starEach es env)).any (·.1) = false := by exact fun _ => rfl) : DVR Γ N sc (.Call (.Name x p) (e :: es) [] pos) (fun ρ => (a ρ).bind f) := by
  obtain ⟨j, fa, fd, ps, hj, hm, hk, hb, hF⟩ := h.ex
  obtain ⟨t, pa, sa⟩ := ha.ex
  refine ⟨fun E => tCall (spR Γ.K Γ.C f) [] E t, fun X E g => ?_, fun E H0 ρ σ G H Q r s Ev e q1 q2 => ?_⟩
  · have g' := g.g
    refine pe_call (X := X) (CX := L2.CX X.prog X.w) (k := j) (f := fa) (fd := fd) (ps := ps) (ds := []) (dvs := []) ?_ (have h : Room j X.A := g'.room.mono hj; h) (have h : Gl X.nox x := gl_of g' hg; h) ?_ ?_ ?_ .nil (passes_call g.tk fun _ _ _ _ h => h) (nox_pa (pa _ g')) hdb (hs _) (hpl _)
    · have h1 : X.prog = Γ.P := g'.prog
      have h2 : X.w = Γ.w := g'.w
      have h3 : X.K = Γ.K := g'.K
      have h4 : X.mg = Γ.mg := g'.mg
      have h5 : X.base = Γ.base := g'.base
      rw [h1, h2, h3, h4, h5]; exact hF
    · have h4 : X.mg = Γ.mg := g'.mg
      rw [h4]; exact hm
    · have h3 : X.K = Γ.K := g'.K
      rw [h3]; exact hk
    · have h3 : X.K = Γ.K := g'.K
      rw [h3]; exact hb
  · obtain ⟨ds, ea, e⟩ := Option.bind_eq_some_iff.mp e
    refine sa H0 ρ σ G H _ ds s Ev ea fun G1 H1 vs g1 o1 => ?_
    exact ⟨G1, ds, r, g1.s, by rw [List.append_nil]; exact o1, e, fun d hd G2 H2 v g2 o2 => q1 d G2 H2 v hd (g1.trans g2) o2, fun hr G2 H2 g2 => q2 hr G2 H2 (g1.trans g2)⟩
def rset (i : Nat) (a : Env → Option (Option D)) : Env → Option (Option Res) := fun ρ => (a ρ).map fun r => r.map fun d => .nx (ρ.set i (.sh d))
theorem r_set {i : Nat} {x : Str} {px pos : Pos} {e : Expr} {a : Env → Option (Option D)} (nd : N.Nodup) (hN : N[i]? = some x) (hl : locB sc x = true) (ha : DVR Γ N sc e a) (hsw : ∀ env : PySem.Env, swapsWith e (some (.Name x px)) pos.line env = pure false := by exact fun _ => rfl) : DSR Γ N sc (.Assign [.Name x px] e pos) (rset i a) := by
  obtain ⟨t, p, sa⟩ := ha.ex
  refine ⟨fun E => tAsg (t E) (gName i), fun X E g => ?_, fun E G0 H0 ρ σ G H De r g Ev e q1 q2 q3 => ?_⟩
  · have h1 : X.N = N := g.g.N
    have h2 : X.env.scope = sc := g.g.sc
    exact ps_set (by rw [h1]; exact nd) (by rw [h1]; exact hN) (by rw [h2]; exact loc_of hl) (p X E g) (hsw _) (.inl (g.fn x))
  · obtain ⟨r1, ea, rfl⟩ := Option.map_eq_some_iff.mp e
    refine sa E H0 ρ σ G H _ r1 g.s Ev ea (fun d G1 H1 v hd g1 o1 => ?_) fun hr G1 H1 g1 => q3 (by rw [hr]; rfl) G1 H1 (g.trans g1)
    subst hd
    exact q1 _ G1 H1 _ rfl (g.trans g1) g1.g ((Ev.grow g1).setSh o1)
def rret (a : Env → Option (Option D)) : Env → Option (Option Res) := fun ρ => (a ρ).map fun r => r.map .rt
theorem r_ret {e : Expr} {pos : Pos} {a : Env → Option (Option D)} (he : DVR Γ N sc e a) : DSR Γ N sc (.Return (some e) pos) (rret a) := by
  obtain ⟨t, p, sa⟩ := he.ex
  refine ⟨fun E => tRet (t E), fun X E g => ps_ret (p X E g), fun E G0 H0 ρ σ G H De r g Ev e q1 q2 q3 => ?_⟩
  obtain ⟨r1, ea, rfl⟩ := Option.map_eq_some_iff.mp e
  refine sa E H0 ρ σ G H _ r1 g.s Ev ea (fun d G1 H1 v hd g1 o1 => ?_) fun hr G1 H1 g1 => q3 (by rw [hr]; rfl) G1 H1 (g.trans g1)
  subst hd
  exact q2 d G1 H1 v rfl (g.trans g1) o1
end
end Pv
set_option Elab.async false
set_option linter.all false
set_option maxRecDepth 100000
set_option maxHeartbeats 4000000
set_option autoImplicit false
namespace Pv
open PySem PySem.Spec PyProof.Rows L2
section
variable {Γ : Gam} {N : List Str} {sc : Scope} {κ κ1 κ2 κ3 : Kd} {G H G' H' G1 H1 : Hp} {v : V} {d : D}
/-! ### refusing: a list taken apart, a tuple, a comprehension -/
theorem if_yes {c : Bool} {A B : Prop} (hc : c = true) (h : A) : if c = true then A else B := by
  rw [if_pos hc]; exact h
theorem nox_pgs {X : Cx} {ts : List Expr} {t : TGs} (h : PGs X.nox ts t) : PGs X ts t := ⟨fun pins s σ H vs us Q I r hw => wpAny_mono (h.run pins s σ H vs us Q (I.wish _) r hw) (fun _ _ ⟨σ', H', I', q⟩ => ⟨σ', H', I'.unwish, q⟩) fun _ _ z => False.elim z⟩
theorem nox_pi {X : Cx} {tg it : Expr} {wi : TI} (h : PI X.nox tg it wi) : PI X tg it wi := ⟨fun pins s σ H R I hw => wpAny_mono (h.run pins s σ H R (I.wish _) hw) (fun _ _ k => wpAny_mono k (fun _ _ ⟨a, fp, tn, J, H', e, I', T, st, f, q⟩ => ⟨a, fp, tn, J, H', e, I'.unwish, T, st, f, q⟩) fun _ _ z => False.elim z) fun _ _ z => False.elim z⟩
theorem setE_two {ρ : Env} {i j : Nat} {x y : D} : setE ρ [i, j] [x, y] = (ρ.set i (.sh x)).set j (.sh y) := rfl
def rtwo (is : List Nat) (a : Env → Option (Option D)) : Env → Option (Option Res) := fun ρ => (a ρ).bind fun r => match r with
  | none => some none
  | some (.lst ds) => if ds.length = is.length then some (some (.nx (setE ρ is ds))) else none
  | _ => none
/-- a, b = a list -/
theorem r_two {es : List Expr} {k : Nat} {tpos pos : Pos} {e : Expr} {is : List Nat} {a : Env → Option (Option D)} (he : DVR Γ N sc e a) (hg : DGs Γ N sc true es is)
    (hn : ∀ env : PySem.Env, (assignEach es env).length = is.length := by exact fun _ => rfl) (hst : ∀ env : PySem.Env, (assignEach es env).findIdx? (·.1) = none := by exact fun _ => rfl)
    (hs : ∀ env : PySem.Env, swapsWithSole [.Tuple es k tpos] e pos.line env = pure false := by exact fun _ => rfl) (hw : ∀ env : PySem.Env, swappedStores [.Tuple es k tpos] e env = pure none := by exact fun _ => rfl)
    (h1 : ∀ env : PySem.Env, (assignEach [.Tuple es k tpos] env).map (·.2) = [assign (.Tuple es k tpos) env] := by exact fun _ => rfl) : DSR Γ N sc (.Assign [.Tuple es k tpos] e pos) (rtwo is a) := by
  obtain ⟨t, pe, sa⟩ := he.ex
  obtain ⟨g, pg, sg⟩ := hg.ex
  refine ⟨fun E => tAsg (t E) (gLst Γ.K is.length g), fun X E gX => ?_, fun E G0 H0 ρ σ G H De r gr Ev e q1 q2 q3 => ?_⟩
  · have z : PG X (.Tuple es k tpos) (gLst X.K is.length g) := pg_lst (show X.calm = true from gX.g.calm) (nox_pgs (pg _ gX.g fun _ => gX.fn)) (hn _) (hst _)
    have hK : X.K = Γ.K := gX.g.K
    rw [hK] at z
    exact ps_asg (pe X E gX) z (hs _) (hw _) (h1 _)
  · unfold rtwo at e
    obtain ⟨r1, ea, e⟩ := Option.bind_eq_some_iff.mp e
    refine sa E H0 ρ σ G H _ r1 gr.s Ev ea (fun d G1 H1 v hd g1 o1 => ?_) fun hr G1 H1 g1 => ?_
    · subst hd
      cases d <;> try cases e
      rename_i ds
      have e : (if ds.length = is.length then some (some (Res.nx (setE ρ is ds))) else none) = some r := e
      split at e
      · rename_i hl
        cases e
        cases o1 with
        | lst h1 h2 => exact ⟨_, _, rfl, SqL.of (g1.s.lst h1), h2.length.trans hl, sg H0 ρ σ G1 H1 _ ds _ g1.s (Ev.grow g1) hl h2 fun E' => q1 _ G1 H1 _ rfl (gr.trans g1) g1.g E'⟩
      · cases e
    · subst hr
      cases e
      exact q3 rfl G1 H1 (gr.trans g1)
/-! items -/
def rnil : Env → Option (Option (List D)) := fun _ => some (some [])
def rcons (a : Env → Option (Option D)) (r : Env → Option (Option (List D))) : Env → Option (Option (List D)) := fun ρ => (a ρ).bind fun x => match x with
  | none => some none
  | some x => (r ρ).bind fun xs => some (xs.map (x :: ·))
theorem ar_nil : DAR Γ N sc [] rnil := ⟨fun _ => tNil, fun X E _ => pa_nil, fun E H0 ρ σ G H Q r s Ev e q1 q2 => by cases e; exact q1 [] G H [] rfl (Grow.refl s) .nil⟩
theorem ar_cons {e : Expr} {es : List Expr} {a : Env → Option (Option D)} {r : Env → Option (Option (List D))} (h1 : DVR Γ N sc e a) (h2 : DAR Γ N sc es r)
    (hs : ∀ env : PySem.Env, starEach (e :: es) env = (false, eval e env) :: starEach es env := by intro _; rfl) : DAR Γ N sc (e :: es) (rcons a r) := by
  obtain ⟨t1, p1, s1⟩ := h1.ex
  obtain ⟨t2, p2, s2⟩ := h2.ex
  refine ⟨fun E => tCons (t1 E) (t2 E), fun X E g => pa_cons (p1 X E g) (p2 X E g) (hs _), fun E H0 ρ σ G H Q r0 s Ev e q1 q2 => ?_⟩
  unfold rcons at e
  obtain ⟨x, ea, e⟩ := Option.bind_eq_some_iff.mp e
  refine s1 E H0 ρ σ G H _ x s Ev ea (fun d G1 H1 v hd g1 o1 => ?_) fun hr G1 H1 g1 => ?_
  · subst hd
    have e : ((r ρ).bind fun xs => some (xs.map (d :: ·))) = some r0 := e
    obtain ⟨xs, er, e⟩ := Option.bind_eq_some_iff.mp e
    cases e
    refine s2 E H0 ρ σ G1 H1 _ xs g1.s (Ev.grow g1) er (fun ds G2 H2 vs hds g2 o2 => ?_) fun hr G2 H2 g2 => ?_
    · subst hds
      exact q1 (d :: ds) G2 H2 (v :: vs) rfl (g1.trans g2) (.cons (o1.mono g2.g) o2)
    · subst hr
      exact q2 rfl G2 H2 (g1.trans g2)
  · subst hr
    cases e
    exact q2 rfl G1 H1 g1
def rtup (a : Env → Option (Option (List D))) : Env → Option (Option D) := fun ρ => (a ρ).bind fun r => match r with
  | none => some none
  | some ds => if ds.length < big then some (some (.tup ds)) else none
theorem vr_tup {es : List Expr} {x1 : Nat} {pos : Pos} {a : Env → Option (Option (List D))} (h : DAR Γ N sc es a) : DVR Γ N sc (.Tuple es x1 pos) (rtup a) := by
  obtain ⟨t, p, s1⟩ := h.ex
  refine ⟨fun E => tTup (t E), fun X E g => pe_tup (p X E g), fun E H0 ρ σ G H Q r s Ev e q1 q2 => ?_⟩
  unfold rtup at e
  obtain ⟨r1, ea, e⟩ := Option.bind_eq_some_iff.mp e
  refine s1 E H0 ρ σ G H _ r1 s Ev ea (fun ds G1 H1 vs hd g1 o1 => ?_) fun hr G1 H1 g1 => ?_
  · subst hd
    have e : (if ds.length < big then some (some (D.tup ds)) else none) = some r := e
    split at e
    · rename_i hl
      cases e
      refine ⟨by rw [o1.length]; exact Nat.le_of_lt (big_lt hl), fun p hp => ?_⟩
      exact q1 (.tup ds) _ _ _ rfl (g1.trans (Grow.new g1.s hp)) (.tup upd_same (o1.mono (SL.new (g1.s.free hp))))
    · cases e
  · subst hr
    cases e
    exact q2 rfl G1 H1 g1
/-! a comprehension -/
structure DPR (Γ : Gam) (N : List Str) (sc : Scope) (e : Expr) (F : Env → Option (Option D)) : Prop where
  ex : ∃ t : XK → TE, (∀ X E, Good Γ N sc X.nox → (∀ τ, PassesAt (L2.CX Γ.P Γ.w) X τ E) → PE X e (t E)) ∧ ∀ E, SemVR Γ E (t E) F
theorem pr_call {x : Str} {f : RF} {e : Expr} {es : List Expr} {a : Env → Option (List D)} {p pos : Pos} (h : HasR Γ x f) (hg : glB sc x = true) (hdb : (x == ("__debug__" : Str)) = false) (ha : DA Γ N sc (e :: es) a)
    (hs : Pl1 e es := by exact fun _ => rfl) (hpl : ∀ env : PySem.Env, (backTo pos (starEach es env)).any (·.1) = false := by exact fun _ => rfl) : DPR Γ N sc (.Call (.Name x p) (e :: es) [] pos) (fun ρ => (a ρ).bind f) := by
  obtain ⟨j, fa, fd, ps, hj, hm, hk, hb, hF⟩ := h.ex
  obtain ⟨t, pa, sa⟩ := ha.ex
  refine ⟨fun E => tCallS (spR Γ.K Γ.C f) (fun _ => E) t, fun X E g' hx => ?_, fun E H0 ρ σ G H Q r s Ev e q1 q2 => ?_⟩
  · refine pe_callS (X := X) (CX := L2.CX Γ.P Γ.w) (k := j) (f := fa) (fd := fd) (ps := ps) (E := fun _ => E) ?_ (have h : Room j X.A := g'.room.mono hj; h) (have h : Gl X.nox x := gl_of g' hg; h) ?_ ?_ ?_ hx (nox_pa (pa _ g')) hdb (hs _) (hpl _)
    · have h1 : X.prog = Γ.P := g'.prog
      have h2 : X.w = Γ.w := g'.w
      have h3 : X.K = Γ.K := g'.K
      have h4 : X.mg = Γ.mg := g'.mg
      have h5 : X.base = Γ.base := g'.base
      rw [h1, h2, h3, h4, h5]; exact hF
    · have h4 : X.mg = Γ.mg := g'.mg
      rw [h4]; exact hm
    · have h3 : X.K = Γ.K := g'.K
      rw [h3]; exact hk
    · have h3 : X.K = Γ.K := g'.K
      rw [h3]; exact hb
  · obtain ⟨ds, ea, e⟩ := Option.bind_eq_some_iff.mp e
    refine sa H0 ρ σ G H _ ds s Ev ea fun G1 H1 vs g1 o1 => ?_
    exact ⟨G1, ds, r, g1.s, o1, e, fun d hd G2 H2 v g2 o2 => q1 d G2 H2 v hd (g1.trans g2) o2, fun hr G2 H2 g2 => q2 hr G2 H2 (g1.trans g2)⟩
def lcGoR (p : Pat) (E : Env → Option (Option D)) (ρ : Env) : List D → Option (Option (List D))
  | [] => some (some [])
  | x :: xs => (bindP p x ρ).bind fun ρ1 => (E ρ1).bind fun y => match y with
    | none => some none
    | some y => (lcGoR p E ρ xs).bind fun ys => some (ys.map (y :: ·))
def lcR (vs : List Nat) (I : Env → Option (List D)) (p : Pat) (E : Env → Option (Option D)) : Env → Option (Option D) := fun ρ => (I ρ).bind fun items => (lcGoR p E (wipeE ρ vs) items).bind fun out => if items.length < big then some (out.map .tup) else none
theorem vr_tupLc {own : List (Str × Nat)} {elt tg iter : Expr} {scope : Scope} {pos p2 pos2 : Pos} {I : Env → Option (List D)} {p : Pat} {F : Env → Option (Option D)} (nd : N.Nodup) (ok : blkC N sc scope own = true) (hi : DI Γ N sc tg iter I)
    (hg : DG Γ N (relS scope sc) false tg p) (hp : p.is.all (fun i => (own.map (·.2)).contains i) = true) (he : DPR Γ N (relS scope sc) elt F) (hgl : glB sc "tuple" = true) (hm : Γ.mg "tuple" = none)
    (hs : ∀ (env : PySem.Env) x, foldedSetIterable iter env x = pure x := by exact fun _ _ => rfl) :
    DVR Γ N sc (.Call (.Name "tuple" p2) [.ListComp elt [⟨tg, iter, [], 0⟩] scope pos] [] pos2) (lcR (own.map (·.2)) I p F) := by
  obtain ⟨wi, pi, si⟩ := hi.ex
  obtain ⟨g, pg, sg⟩ := hg.ex
  obtain ⟨te, pe, se⟩ := he.ex
  generalize hvs : own.map (·.2) = vs at hp ⊢
  have hp' : ∀ i ∈ p.is, i ∈ vs := fun i h => by
    have := List.all_eq_true.mp hp i h
    simpa using this
  refine ⟨fun E => tCB (fun xs H Q => ∃ p ys, xs = [.ref p] ∧ ((SqL Γ.K H p ys ∧ ∀ l, H l = none → Q (.ref l) (upd H l (.tup ys))) ∨ (SqT Γ.K H p ys ∧ Q (.ref p) H))) (tCons (tLc wi g tYes (te E) vs) tNil), fun X E gX => ?_, fun E H0 ρ σ G H Q r s Ev e q1 q2 => ?_⟩
  · have gx := gX.g
    have hK : X.K = Γ.K := gx.K
    have hN : X.N = N := gx.N
    have hsc : X.env.scope = sc := gx.sc
    have hmg : X.mg = Γ.mg := gx.mg
    have ok' : BlkOk X.N X.env.scope scope own := by rw [hN, hsc]; exact blkOk_by ok
    have gB : ∀ (s : Shared) (H : Hp) (C : Addr) (cl : List (Str × Addr)) (fp : List Addr), Good Γ N (relS scope sc) (X.blk s H scope (compEnvC scope cl C X.env) fp) := fun s H C cl fp =>
      ⟨gx.prog, gx.w, gx.K, gx.mg, gx.base, gx.calm, rfl, gx.room, gx.N, by rw [← hsc]; rfl⟩
    have nd' : X.N.Nodup := by rw [hN]; exact nd
    have z : PE X (.ListComp elt [⟨tg, iter, [], 0⟩] scope pos) (tLc wi g tYes (te E) (own.map (·.2))) :=
      pe_lcX (E := E) gX.hs gX.hf gX.tk (show X.calm = true from gx.calm) nd' (nox_pi (pi _ gx)) ok' (fun s H C cl fp => pg _ (gB s H C cl fp) (fun z => nomatch z)) (fun s H C cl fp => pts_nil)
        (fun s H C cl fp xe hx => pe _ E (gB s H C cl fp) (by have h1 : X.prog = Γ.P := gx.prog; have h2 : X.w = Γ.w := gx.w; rw [h1, h2] at hx; exact hx)) (hs _)
    rw [hvs] at z
    have c : CallR X (.type "tuple") _ := call_tuple_of
    rw [hK] at c
    exact pe_callTy c (have h : Gl X.nox "tuple" := gl_of gx hgl; h) (by rw [hmg]; exact hm) (by decide +kernel) (pa_cons z pa_nil rfl) (by decide) (by decide) rfl rfl
  · unfold lcR at e
    obtain ⟨items, ei, e⟩ := Option.bind_eq_some_iff.mp e
    obtain ⟨out, eo, e⟩ := Option.bind_eq_some_iff.mp e
    split at e
    · rename_i hbig
      cases e
      refine si H0 ρ σ G H _ items s Ev ei fun J Gp Y G1 H1 g1 wk hGp hY => fun Dl hD => ?_
      have hDH : H Dl = none := g1.h.free hD
      refine lc_it wk (fun i H' => ∃ G' acc o1 o2, lcGoR p F (wipeE ρ vs) (items.drop i) = some o2 ∧ o2.map (o1 ++ ·) = out ∧ o1.length ≤ i ∧ Grow G H G' H' ∧ SL G1 G' ∧ G' Dl = none ∧ H' Dl = some (.lst acc) ∧ RepL Γ.K Γ.C G' acc o1)
        ⟨G1, [], [], out, by rw [List.drop_zero]; exact eo, by cases out <;> rfl, Nat.zero_le _, g1.updH (g1.s.free hD) hDH, SL.refl _, g1.s.free hD, upd_same, .nil⟩ (fun i H' _ h => ?_) (fun i x H2 H3 hi h y => ?_) fun H' h => ?_
      · obtain ⟨G', acc, o1, o2, _, _, _, g2, s1, _⟩ := h
        exact hGp G' H' s1 g2.s
      · obtain ⟨G2, acc, o1, o2, h1, h2, h3, g2, s2, hG2, hH2, r2⟩ := h
        obtain ⟨G3, d, hd, g3, r3⟩ := hY i H2 x H3 G2 hi s2 g2.s y
        have hG3 : G3 Dl = none := g3.keep hH2 hG2
        have hH3 : H3 Dl = some (.lst acc) := g3.x _ _ hG2 hH2
        have g23 := g2.trans g3
        have hdrop : items.drop i = d :: items.drop (i + 1) := by
          obtain ⟨hl, e1⟩ := List.getElem?_eq_some_iff.mp hd
          rw [List.drop_eq_getElem_cons hl, e1]
        rw [hdrop] at h1
        have h1 : ((bindP p d (wipeE ρ vs)).bind fun ρ1 => (F ρ1).bind fun y => match y with
          | none => some none
          | some y => (lcGoR p F (wipeE ρ vs) (items.drop (i + 1))).bind fun ys => some (ys.map (y :: ·))) = some o2 := h1
        obtain ⟨ρ1, eb, h1⟩ := Option.bind_eq_some_iff.mp h1
        obtain ⟨y1, ey, h1⟩ := Option.bind_eq_some_iff.mp h1
        refine sg H0 _ ρ1 (wipe σ vs) G3 H3 x d _ g3.s ((Ev.wipe vs).grow g23) eb r3 fun xs E1 => ⟨?_, ?_⟩
        · rw [wipe_setL _ _ _ _ hp', wipe_wipe σ vs vs fun _ h => h]
        · unfold tYes
          dsimp only
          rw [if_pos rfl]
          refine se E H0 ρ1 _ G3 H3 _ y1 g3.s E1 ey (fun dy G5 H5 yv hdy g5 o5 => ?_) fun hr G5 H5 g5 => ?_
          · subst hdy
            have h1 : ((lcGoR p F (wipeE ρ vs) (items.drop (i + 1))).bind fun ys => some (ys.map (dy :: ·))) = some o2 := h1
            obtain ⟨ys, er, h1⟩ := Option.bind_eq_some_iff.mp h1
            cases h1
            have hG5 : G5 Dl = none := g5.keep hH3 hG3
            have hH5 : H5 Dl = some (.lst acc) := g5.x _ _ hG3 hH3
            have s25 : SL G2 G5 := g3.g.trans g5.g
            refine ⟨acc, hH5, ?_, G5, acc ++ [yv], o1 ++ [dy], ys, er, ?_, by rw [List.length_append]; show o1.length + 1 ≤ i + 1; omega, (g23.trans g5).updH hG5 hDH, s2.trans s25, hG5, upd_same, (r2.mono s25).app (.cons o5 .nil)⟩
            · rw [r2.length]
              exact big_lt (by omega)
            · rw [← h2]
              cases ys with
              | none => rfl
              | some ys => show some (o1 ++ [dy] ++ ys) = some (o1 ++ (dy :: ys)); rw [List.append_assoc]; rfl
          · subst hr
            cases h1
            have h2 : none = out := h2
            subst h2
            exact q2 rfl G5 H5 (g23.trans g5)
      · obtain ⟨G2, acc, o1, o2, h1, h2, h3, g2, s2, hG2, hH2, r2⟩ := h
        rw [List.drop_length] at h1
        cases h1
        have h2 : some (o1 ++ []) = out := h2
        rw [List.append_nil] at h2
        subst h2
        refine ⟨Dl, acc, rfl, .inl ⟨SqL.of hH2, fun l hl => ?_⟩⟩
        exact q1 (.tup o1) _ _ _ rfl (g2.trans (Grow.new g2.s hl)) (.tup upd_same (r2.mono (SL.new (g2.s.free hl))))
    · cases e
end
end Pv
set_option Elab.async false
set_option linter.all false
set_option maxRecDepth 100000
set_option maxHeartbeats 4000000
set_option autoImplicit false
namespace Pv
open PySem PySem.Spec PyProof.Rows L2
/-! ### a whole def that may refuse -/
def endR : Option (Option Res) → Option (Option D)
  | some (some (.rt d)) => some (some d)
  | some (some (.nx _)) => some (some .non)
  | some none => some none
  | none => none
def callR (N : List Str) (n : Nat) (F : Env → Option (Option Res)) : RF := fun ds => if ds.length = n then endR (F (startE N ds)) else none
theorem callR_eq {N : List Str} {n : Nat} {F : Env → Option (Option Res)} {ds : List D} (h : ds.length = n) : callR N n F ds = endR (F (startE N ds)) := if_pos h
section
variable {Γ : Gam} {N : List Str} {G H G' H' G1 H1 : Hp} {v : V} {d : D}
theorem fnR {x qual : Str} {st : Stmt} {f : Addr} {fd : FuncData} {ps : List Str} {k : Nat} {F : Env → Option (Option Res)} (Fn : Fun Γ.K x qual st f fd) (S : FnScope N ps (defScope st)) (h : DSsR (Γ.at k) N (defScope st) (defBody st) F) : FnOk Γ.P Γ.w Γ.K Γ.mg Γ.base (L2.CX Γ.P Γ.w) (k + 1) f fd ps (spR Γ.K Γ.C (callR N ps.length F)) := by
  refine Fn.okX S (fun vs H Q E h => ?_) (fun cdv A outer s H vs Q E hr hsp => ?_)
  · obtain ⟨G, ds, r, _, rl, e, _⟩ := h
    unfold callR at e
    split at e
    · rename_i hl; rw [rl.length]; exact hl
    · cases e
  · obtain ⟨G, ds, r, s1, rl, e, q1, q2⟩ := hsp
    obtain ⟨t, p, sm⟩ := h.ex
    refine ⟨t E, p _ E ⟨⟨rfl, rfl, rfl, rfl, rfl, rfl, rfl, hr, rfl, rfl⟩, takes_of rfl rfl rfl rfl, rfl, rfl, fun _ => rfl⟩, ?_⟩
    unfold callR at e
    split at e
    · cases eF : F (startE N ds) with
      | none => rw [eF] at e; cases e
      | some o =>
        rw [eF] at e
        refine sm E G H (startE N ds) (L2.start N vs) G H _ o (Grow.refl s1) (env_start N rl) eF (fun ρ' G' H' σ' er g' _ _ => ?_) (fun d2 G' H' v er g' rr => ?_) fun er G' H' g' => ?_
        · subst er
          cases e
          exact q1 .non rfl G' H' .non g' .non
        · subst er
          cases e
          exact q1 d2 rfl G' H' v g' rr
        · subst er
          cases e
          exact q2 rfl G' H' g'
    · cases e
theorem hasR {x qual : Str} {st : Stmt} {f : Addr} {fd : FuncData} {ps : List Str} {k : Nat} {F : Env → Option (Option Res)} (Fn : Fun Γ.K x qual st f fd) (hm : Γ.mg x = some (.ref f)) (hb : Binds Γ.K fd ps []) (S : FnScope N ps (defScope st)) (h : DSsR (Γ.at k) N (defScope st) (defBody st) F) : HasR (Γ.at (k + 1)) x (callR N ps.length F) :=
  ⟨k + 1, f, fd, ps, Nat.le_refl _, hm, Fn.kp, hb, fnR Fn S h⟩
end
section
variable {X : Cx} {pos : Pos}
/-- isinstance(e, c), e the error that the suite holds -/
theorem pe_isE {a D : Addr} {oe : Obj} {cls : Value} {d : Option Addr} {pn : List (Addr × Obj)} {ea ec : Expr} {te tc : TE} {p pos : Pos} (W : ExcC X.K D) (hz : Zc cls d oe) (hf : ∃ vs, oe.data = .fields vs) (hg : Gl (X.suite a ((a, oe) :: pn)) "isinstance") (hm : (X.suite a ((a, oe) :: pn)).mg "isinstance" = none)
    (he : PE (X.suite a ((a, oe) :: pn)) ea te) (hc : PE (X.suite a ((a, oe) :: pn)) ec tc)
    (hs : starEach (ea :: [ec]) (X.suite a ((a, oe) :: pn)).env = (false, eval ea (X.suite a ((a, oe) :: pn)).env) :: starEach [ec] (X.suite a ((a, oe) :: pn)).env := by rfl)
    (hs2 : starEach (ec :: []) (X.suite a ((a, oe) :: pn)).env = (false, eval ec (X.suite a ((a, oe) :: pn)).env) :: starEach [] (X.suite a ((a, oe) :: pn)).env := by rfl)
    (hpl : (backTo pos (starEach [ec] (X.suite a ((a, oe) :: pn)).env)).any (·.1) = false := by rfl) :
    PE (X.suite a ((a, oe) :: pn)) (.Call (.Name "isinstance" p) [ea, ec] [] pos) (fun σ H Q => cls = .ref D ∧ d = none ∧ tCB (rIsE X.K D a) (tCons te (tCons tc tNil)) σ H Q) := by
  refine ⟨fun pins s σ H Q I h => ?_⟩
  obtain ⟨rfl, rfl, h⟩ := h
  exact (pe_callB (call_isE W hz hf) hg hm (by decide +kernel) (pa_cons he (pa_cons hc pa_nil hs2) hs) (by decide) (by decide) hs hpl).run pins s σ H Q I h
end
/-- the classes of the errors, at NoText -/
structure ErrT (Γ : Gam) : Prop where
  t : TxtC Γ
  gP : Γ.mg "NoPiece" = some (.ref (He.ga Γ.K "NoPiece"))
  gR : Γ.mg "RingError" = some (.ref (He.ga Γ.K "RingError"))
  eR : PySem.W.exmOne Γ.K (.ref (He.ga Γ.K "NoText")) (.ref (He.ga Γ.K "RingError")) = some true
  cT : ExcC Γ.K (He.ga Γ.K "NoText")
  oT : PySem.W.kitOne Γ.K (.ref (He.ga Γ.K "NoText")) (.ref (He.ga Γ.K "NoText")) = some true
  oP : PySem.W.kitOne Γ.K (.ref (He.ga Γ.K "NoText")) (.ref (He.ga Γ.K "NoPiece")) = some false
  oV : PySem.W.kitOne Γ.K (.ref (He.ga Γ.K "NoText")) (.type "ValueError") = some true
def fNR1 (f : RF) : List D → Option D := fun ds => (f ds).map fun r => r.getD .non
end Pv
set_option Elab.async false
set_option linter.all false
set_option maxRecDepth 100000
set_option maxHeartbeats 4000000
set_option autoImplicit false
namespace Pv
open PySem PySem.Spec PyProof.Rows L2
/-! ### what the defs do with values (printed) -/
noncomputable def F_is_number : Env → Option Res :=
  (sret (vand (f1 (isiD "int") (nb 0)) (vand (f1 notD (f1 (isiD "bool") (nb 0))) (fch leD leD (nb 1) (nb 0) (nb 2)))))
noncomputable def c_is_number : List D → Option D := callD ["thing", "least", "most"] 3 F_is_number
theorem st_is_number (x0 x1 x2 : D) : c_is_number [x0, x1, x2] = endD (F_is_number [.sh x0, .sh x1, .sh x2]) := callD_eq rfl
noncomputable def F_written : Env → Option Res :=
  (sseq (sif (tnot (tv (nb 0)))
  (sret (kc (.str "none")))
  snx)
  (sret (f2 joinD (kc (.str " ")) (lcF [1, 2, 3, 4] (iseq (nm 0)) (.tup [1, 2, 3, 4]) tyes (fstrD (jcons (nm 1) (jcons (kc (.str "-")) (jcons (nm 2) (jcons (kc (.str "@")) (jcons (nm 3) (jcons (kc (.str "+")) (jcons (nm 4) (fun _ => some [])))))))))))))
noncomputable def c_written : List D → Option D := callD ["sheet", "inner", "outer", "begin", "wide"] 1 F_written
theorem st_written (x0 : D) : c_written [x0] = endD (F_written [.sh x0, .no, .no, .no, .no]) := callD_eq rfl
noncomputable def F_whole_of : Env → Option (Option Res) :=
  (rseq (rif (tor (tnot (tb (fch leD leD (kc (.int 1)) (f1 lenD (nb 0)) (kc (.int 3))))) (tnot (tv (f1 allD (lcF [1] (iseq (nm 0)) (.one 1) tyes (f2 inS (nb 1) (kc (.str "0123456789"))))))))
  (fun _ => some none)
  (okF snx))
  (okF (sret (f1 intS (nb 0)))))
noncomputable def c_whole_of : RF := callR ["word", "sign"] 1 F_whole_of
theorem st_whole_of (x0 : D) : c_whole_of [x0] = endR (F_whole_of [.sh x0, .no]) := callR_eq rfl
noncomputable def F_halves : Env → Option (Option Res) :=
  (rseq (okF (sset 2 (f2 splitD (nb 0) (nb 1))))
  (rseq (rif (tb (f2 neD (f1 lenD (nb 2)) (kc (.int 2))))
  (fun _ => some none)
  (okF snx))
  (okF (sret (nm 2)))))
noncomputable def c_halves : RF := callR ["word", "sign", "found"] 2 F_halves
theorem st_halves (x0 x1 : D) : c_halves [x0, x1] = endR (F_halves [.sh x0, .sh x1, .no]) := callR_eq rfl
noncomputable def F__law_mix : Env → Option Res :=
  (sret (f2 modD (f2 modD (f2 mulD (nb 0) (kc (.int 48271))) (nb 1)) (nb 2)))
noncomputable def c__law_mix : List D → Option D := callD ["_law_cell_here", "_law_prime", "_law_many"] 3 F__law_mix
theorem st__law_mix (x0 x1 x2 : D) : c__law_mix [x0, x1, x2] = endD (F__law_mix [.sh x0, .sh x1, .sh x2]) := callD_eq rfl
noncomputable def F__law_text : Env → Option Res :=
  (sseq (sown 1 (fN lstD fnil))
  (sseq (sfor (iseq (nm 0)) (.tup [2, 3, 4, 5])
  (sapp 1 (f2 addD (f2 addD (f2 addD (f2 addD (f2 addD (f2 addD (f1 strI (nb 2)) (kc (.str "-"))) (f1 strI (nb 3))) (kc (.str "@"))) (f1 strI (nb 4))) (kc (.str "+"))) (f1 strI (nb 5)))))
  (sseq (sif (tv (nb 1))
  (sret (f2 joinD (kc (.str " ")) (nb 1)))
  snx)
  (sret (kc (.str "none"))))))
noncomputable def c__law_text : List D → Option D := callD ["_law_sheet_here", "_law_words", "_law_inner", "_law_outer", "_law_begin", "_law_wide"] 1 F__law_text
theorem st__law_text (x0 : D) : c__law_text [x0] = endD (F__law_text [.sh x0, .no, .no, .no, .no, .no]) := callD_eq rfl
noncomputable def F__law_spoilt : Env → Option Res :=
  (sseq (sset 2 (f2 modD (f2 fdivD (nb 1) (kc (.int 4))) (f2 addD (f1 lenD (nb 0)) (kc (.int 1)))))
  (sseq (sset 3 (f2 ixD (kc (.str "019-@+ ,xn")) (f2 modD (f2 fdivD (nb 1) (kc (.int 512))) (kc (.int 10)))))
  (sseq (sif (tb (f2 eqD (f2 modD (nb 1) (kc (.int 4))) (kc (.int 0))))
  (sret (f2 addD (fsl (nb 0) onone (osome (nb 2))) (fsl (nb 0) (osome (f2 addD (nb 2) (kc (.int 1)))) onone)))
  snx)
  (sseq (sif (tb (f2 eqD (f2 modD (nb 1) (kc (.int 4))) (kc (.int 1))))
  (sret (f2 addD (f2 addD (fsl (nb 0) onone (osome (nb 2))) (fsl (nb 0) (osome (nb 2)) (osome (f2 addD (nb 2) (kc (.int 1)))))) (fsl (nb 0) (osome (nb 2)) onone)))
  snx)
  (sret (f2 addD (f2 addD (fsl (nb 0) onone (osome (nb 2))) (nb 3)) (fsl (nb 0) (osome (f2 subD (f2 addD (nb 2) (f2 modD (nb 1) (kc (.int 4)))) (kc (.int 2)))) onone)))))))
noncomputable def c__law_spoilt : List D → Option D := callD ["_law_text_here", "_law_cell_here", "_law_at", "_law_sign"] 2 F__law_spoilt
theorem st__law_spoilt (x0 x1 : D) : c__law_spoilt [x0, x1] = endD (F__law_spoilt [.sh x0, .sh x1, .no, .no]) := callD_eq rfl
noncomputable def F_is_piece : Env → Option Res :=
  (sseq (sif (tor (tnot (tv (f1 (isiD "tuple") (nb 0)))) (tor (tb (f2 neD (f1 lenD (nb 0)) (kc (.int 4)))) (tnot (tv (fN c_is_number (fcons (f2 ixD (nb 0) (kc (.int 0))) (fcons (kc (.int 0)) (fcons (kc (.int 998)) fnil))))))))
  (sret (kc (.bl false)))
  snx)
  (sret (vand (fN c_is_number (fcons (f2 ixD (nb 0) (kc (.int 1))) (fcons (f2 addD (f2 ixD (nb 0) (kc (.int 0))) (kc (.int 1))) (fcons (kc (.int 999)) fnil)))) (vand (fN c_is_number (fcons (f2 ixD (nb 0) (kc (.int 2))) (fcons (kc (.int 0)) (fcons (kc (.int 23)) fnil)))) (fN c_is_number (fcons (f2 ixD (nb 0) (kc (.int 3))) (fcons (kc (.int 1)) (fcons (kc (.int 24)) fnil))))))))
noncomputable def c_is_piece : List D → Option D := callD ["thing"] 1 F_is_piece
theorem st_is_piece (x0 : D) : c_is_piece [x0] = endD (F_is_piece [.sh x0]) := callD_eq rfl
noncomputable def F_piece_of : Env → Option (Option Res) :=
  (rseq (rtwo [1, 2] (fun ρ => ((fcons (nm 0) (fcons (kc (.str "@")) fnil)) ρ).bind c_halves))
  (rseq (rtwo [3, 4] (fun ρ => ((fcons (nm 1) (fcons (kc (.str "-")) fnil)) ρ).bind c_halves))
  (rseq (rtwo [5, 6] (fun ρ => ((fcons (nm 2) (fcons (kc (.str "+")) fnil)) ρ).bind c_halves))
  (rret (rtup (rcons (fun ρ => ((fcons (nm 3) fnil) ρ).bind c_whole_of) (rcons (fun ρ => ((fcons (nm 4) fnil) ρ).bind c_whole_of) (rcons (fun ρ => ((fcons (nm 5) fnil) ρ).bind c_whole_of) (rcons (fun ρ => ((fcons (nm 6) fnil) ρ).bind c_whole_of) rnil)))))))))
noncomputable def c_piece_of : RF := callR ["word", "ring", "arc", "inner", "outer", "begin", "wide"] 1 F_piece_of
theorem st_piece_of (x0 : D) : c_piece_of [x0] = endR (F_piece_of [.sh x0, .no, .no, .no, .no, .no, .no]) := callR_eq rfl
noncomputable def F__law_piece : Env → Option Res :=
  (sseq (sset 2 (fN c__law_mix (fcons (nm 0) (fcons (kc (.int 9973)) (fcons (nm 1) fnil)))))
  (sseq (sset 3 (f2 addD (f2 addD (nb 2) (kc (.int 1))) (fN c__law_mix (fcons (nm 0) (fcons (kc (.int 9967)) (fcons (f2 subD (nb 1) (nb 2)) fnil))))))
  (sseq (sset 4 (f2 addD (kc (.int 1)) (fN c__law_mix (fcons (nm 0) (fcons (kc (.int 9949)) (fcons (kc (.int 24)) fnil))))))
  (sseq (sif (tb (f2 eqD (f2 modD (nb 0) (kc (.int 4))) (kc (.int 0))))
  (sset 4 (kc (.int 24)))
  snx)
  (sret (fN tupD (fcons (nm 2) (fcons (nm 3) (fcons (fN c__law_mix (fcons (nm 0) (fcons (kc (.int 9941)) (fcons (kc (.int 24)) fnil)))) (fcons (nm 4) fnil))))))))))
noncomputable def c__law_piece : List D → Option D := callD ["_law_cell_here", "_law_most", "_law_inner", "_law_outer", "_law_wide"] 2 F__law_piece
theorem st__law_piece (x0 x1 : D) : c__law_piece [x0, x1] = endD (F__law_piece [.sh x0, .sh x1, .no, .no, .no]) := callD_eq rfl
noncomputable def F_is_sheet : Env → Option Res :=
  (sret (vand (f1 (isiD "tuple") (nb 0)) (vand (f2 leD (f1 lenD (nb 0)) (kc (.int 8))) (f1 allD (lcF [1] (iseq (nm 0)) (.one 1) tyes (fN c_is_piece (fcons (nm 1) fnil)))))))
noncomputable def c_is_sheet : List D → Option D := callD ["thing", "piece"] 1 F_is_sheet
theorem st_is_sheet (x0 : D) : c_is_sheet [x0] = endD (F_is_sheet [.sh x0, .no]) := callD_eq rfl
noncomputable def F__law_sheet : Env → Option Res :=
  (sret (f1 tupleD (lcF [3] (irange1 (fN c__law_mix (fcons (nm 0) (fcons (kc (.int 9931)) (fcons (f2 addD (nb 2) (kc (.int 1))) fnil))))) (.one 3) tyes (fN c__law_piece (fcons (f2 addD (nb 0) (f2 mulD (kc (.int 11)) (nb 3))) (fcons (nm 1) fnil))))))
noncomputable def c__law_sheet : List D → Option D := callD ["_law_cell_here", "_law_most", "_law_many", "_law_k"] 3 F__law_sheet
theorem st__law_sheet (x0 x1 x2 : D) : c__law_sheet [x0, x1, x2] = endD (F__law_sheet [.sh x0, .sh x1, .sh x2, .no]) := callD_eq rfl
noncomputable def F_read : Env → Option (Option Res) :=
  (rseq (okF (sset 1 (fN tupD fnil)))
  (rseq (rif (tb (f2 neD (nb 0) (kc (.str "none"))))
  (rset 1 (lcR [2] (iseq (f2 splitD (nb 0) (kc (.str " ")))) (.one 2) (fun ρ => ((fcons (nm 2) fnil) ρ).bind c_piece_of)))
  (okF snx))
  (rseq (rif (tor (tnot (tv (fN c_is_sheet (fcons (nm 1) fnil)))) (tb (f2 neD (fN c_written (fcons (nm 1) fnil)) (nb 0))))
  (fun _ => some none)
  (okF snx))
  (okF (sret (nm 1))))))
noncomputable def c_read : RF := callR ["text", "found", "word"] 1 F_read
theorem st_read (x0 : D) : c_read [x0] = endR (F_read [.sh x0, .no, .no]) := callR_eq rfl
noncomputable def c__law_read : List D → Option D := fNR1 c_read
noncomputable def F_law : Env → Option Res :=
  (sseq (sfor (iseq (fsl (nb 0) onone (osome (kc (.int 8))))) (.one 1)
  (sseq (sset 2 (fN c__law_sheet (fcons (nm 1) (fcons (f2 ixD (fN lstD (fcons (kc (.int 9)) (fcons (kc (.int 999)) fnil))) (f2 modD (nb 1) (kc (.int 2)))) (fcons (kc (.int 8)) fnil)))))
  (sseq (sset 3 (fN c__law_text (fcons (nm 2) fnil)))
  (sseq (sif (tor (tb (f2 neD (fN c_written (fcons (nm 2) fnil)) (nb 3))) (tb (f2 neD (fNR c_read (fcons (nm 3) fnil)) (nb 2))))
  (sret (kc (.bl false)))
  snx)
  (sseq (sset 4 (fN c__law_spoilt (fcons (nm 3) (fcons (f2 fdivD (nb 1) (kc (.int 3))) fnil))))
  (sseq (sset 5 (fN c__law_read (fcons (nm 4) fnil)))
  (sif (tand (tb (f2 isntD (nb 5) (kc .non))) (tor (tnot (tv (fN c_is_sheet (fcons (nm 5) fnil)))) (tb (f2 neD (fN c__law_text (fcons (nm 5) fnil)) (nb 4)))))
  (sret (kc (.bl false)))
  snx)))))))
  (sseq (sset 6 (fN lstD (fcons (kc (.str "")) (fcons (kc (.str " ")) (fcons (kc (.str "none ")) (fcons (kc (.str "none none")) (fcons (kc (.str "0-1@0")) (fcons (kc (.str "0-1@0+24 ")) (fcons (kc (.str " 0-1@0+24")) (fcons (kc (.str "0-1@00+24")) (fcons (kc (.str "1-1@0+24")) (fcons (kc (.str "0-1@24+1")) fnil))))))))))))
  (sseq (sfor (iseq (f2 addD (nb 6) (fN lstD (fcons (kc (.str "0-1+0@24")) (fcons (kc (.str "0-1@0+24  0-1@0+24")) (fcons (kc (.str "0-1@0+24 none")) (fcons (kc (.str "-1-1@0+24")) fnil))))))) (.one 4)
  (sif (tb (f2 isntD (fN c__law_read (fcons (nm 4) fnil)) (kc .non)))
  (sret (kc (.bl false)))
  snx))
  (sret (vand (f2 eqD (fNR c_read (fcons (kc (.str "none")) fnil)) (fN tupD fnil)) (f2 eqD (fNR c_read (fcons (kc (.str "0-999@23+24")) fnil)) (fN tupD (fcons (fN tupD (fcons (kc (.int 0)) (fcons (kc (.int 999)) (fcons (kc (.int 23)) (fcons (kc (.int 24)) fnil))))) fnil))))))))
noncomputable def c_law : List D → Option D := callD ["_law_script", "_law_cell_here", "_law_sheet_here", "_law_text_here", "_law_bad", "_law_found", "_law_some"] 1 F_law
theorem st_law (x0 : D) : c_law [x0] = endD (F_law [.sh x0, .no, .no, .no, .no, .no, .no]) := callD_eq rfl
end Pv
set_option Elab.async false
set_option linter.all false
set_option maxRecDepth 100000
set_option maxHeartbeats 4000000
set_option autoImplicit false
namespace Pv
open PySem PySem.Spec PyProof.Rows L2
/-! ### the text by places; the derivations (printed) -/
def topS (i : Nat) : Stmt := PySem.Challenge.pw_ringlayers_k02_whole_texts.main.body.getD i (.Pass ⟨0, 0, 0, 0⟩)
structure Bl (Γ : Gam) : Prop where
  ValueError : Γ.mg "ValueError" = none
  all : Γ.mg "all" = none
  bool : Γ.mg "bool" = none
  int : Γ.mg "int" = none
  isinstance : Γ.mg "isinstance" = none
  len : Γ.mg "len" = none
  range : Γ.mg "range" = none
  str : Γ.mg "str" = none
  tuple : Γ.mg "tuple" = none
abbrev s_is_number : Stmt := topS 5
theorem sc_is_number : FnScope ["thing", "least", "most"] ["thing", "least", "most"] (defScope s_is_number) := ⟨rfl, rfl, rfl, by decide +kernel, rfl, by decide +kernel, by decide +kernel⟩
theorem ok_is_number {Γ : Gam} (B : Bl Γ) {f : Addr} {fd : FuncData} (Fn : Fun Γ.K "is_number" "is_number" s_is_number f fd) (hm : Γ.mg "is_number" = some (.ref f)) : HasD (Γ.at 1) "is_number" c_is_number := by
  refine hasD (Γ := Γ) (k := 0) (F := F_is_number) (ps := ["thing", "least", "most"]) Fn hm (Fn.binds (ps := ["thing", "least", "most"]) fun _ _ _ _ _ _ us hl => match us, hl with | [_, _, _], _ => rfl) sc_is_number ?_
  delta F_is_number
  exact (ss_one (s_ret (d_and (d_isInt rfl B.isinstance rfl B.int (d_nb (i := 0) rfl rfl (by decide) (by decide))) (d_and (d_notv (d_isBool rfl B.isinstance rfl B.bool (d_nb (i := 0) rfl rfl (by decide) (by decide)))) (d_one (DC.toE (d_lele (d_nb (i := 1) rfl rfl (by decide) (by decide)) (d_nb (i := 0) rfl rfl (by decide) (by decide)) (d_nb (i := 2) rfl rfl (by decide) (by decide)))))))))
abbrev s_written : Stmt := topS 9
theorem sc_written : FnScope ["sheet", "inner", "outer", "begin", "wide"] ["sheet"] (defScope s_written) := ⟨rfl, rfl, rfl, by decide +kernel, rfl, by decide +kernel, by decide +kernel⟩
theorem ok_written {Γ : Gam} (B : Bl Γ) {f : Addr} {fd : FuncData} (Fn : Fun Γ.K "written" "written" s_written f fd) (hm : Γ.mg "written" = some (.ref f)) : HasD (Γ.at 1) "written" c_written := by
  refine hasD (Γ := Γ) (k := 0) (F := F_written) (ps := ["sheet"]) Fn hm (Fn.binds (ps := ["sheet"]) fun _ _ _ _ _ _ us hl => match us, hl with | [_], _ => rfl) sc_written ?_
  delta F_written
  exact (ss_cons (s_if (t_not (t_v (d_nb (i := 0) rfl rfl (by decide) (by decide))))
  (ss_one (s_ret d_str))
  ss_nil)
  (ss_one (s_ret (d_join d_str (DL.f (d_lc (own := [("inner", 1), ("outer", 2), ("begin", 3), ("wide", 4)]) sc_written.nd (by decide +kernel) (i_seq (d_nm (i := 0) rfl rfl (by decide) (by decide))) (g_tup (gs_cons (i := 1) sc_written.nd rfl rfl (gs_cons (i := 2) sc_written.nd rfl rfl (gs_cons (i := 3) sc_written.nd rfl rfl (gs_cons (i := 4) sc_written.nd rfl rfl gs_nil))))) (by decide) ts_nil (d_fstr (j_fmt (d_nm (i := 1) rfl rfl (by decide) (by decide)) (j_str (j_fmt (d_nm (i := 2) rfl rfl (by decide) (by decide)) (j_str (j_fmt (d_nm (i := 3) rfl rfl (by decide) (by decide)) (j_str (j_fmt (d_nm (i := 4) rfl rfl (by decide) (by decide)) j_nil))))))))))))))
abbrev s_whole_of : Stmt := topS 11
theorem sc_whole_of : FnScope ["word", "sign"] ["word"] (defScope s_whole_of) := ⟨rfl, rfl, rfl, by decide +kernel, rfl, by decide +kernel, by decide +kernel⟩
theorem ok_whole_of {Γ : Gam} (B : Bl Γ) {f : Addr} {fd : FuncData} (Fn : Fun Γ.K "whole_of" "whole_of" s_whole_of f fd) (hm : Γ.mg "whole_of" = some (.ref f)) (T : TxtC (Γ.at 0)) : HasR (Γ.at 1) "whole_of" c_whole_of := by
  refine hasR (Γ := Γ) (k := 0) (F := F_whole_of) (ps := ["word"]) Fn hm (Fn.binds (ps := ["word"]) fun _ _ _ _ _ _ us hl => match us, hl with | [_], _ => rfl) sc_whole_of ?_
  delta F_whole_of
  exact (ssr_cons (r_if (DW.t (w_or (t_not (t_c (d_lele d_int (d_len rfl B.len (d_nb (i := 0) rfl rfl (by decide) (by decide))) d_int))) (w_or1 (t_not (t_v (d_all rfl B.all (DL.f (d_lc (own := [("sign", 1)]) sc_whole_of.nd (by decide +kernel) (i_seq (d_nm (i := 0) rfl rfl (by decide) (by decide))) (g_one (i := 1) sc_whole_of.nd rfl rfl) (by decide) ts_nil (DC.toE (c_inS (d_nb (i := 1) rfl rfl (by decide) (by decide)) d_str (by decide)))))))))))
  (ssr_one (r_raise T rfl))
  ssr_nil)
  (ssr_one (sr_of (s_ret (d_intS rfl B.int (d_nb (i := 0) rfl rfl (by decide) (by decide)))))))
abbrev s_halves : Stmt := topS 12
theorem sc_halves : FnScope ["word", "sign", "found"] ["word", "sign"] (defScope s_halves) := ⟨rfl, rfl, rfl, by decide +kernel, rfl, by decide +kernel, by decide +kernel⟩
theorem ok_halves {Γ : Gam} (B : Bl Γ) {f : Addr} {fd : FuncData} (Fn : Fun Γ.K "halves" "halves" s_halves f fd) (hm : Γ.mg "halves" = some (.ref f)) (T : TxtC (Γ.at 0)) : HasR (Γ.at 1) "halves" c_halves := by
  refine hasR (Γ := Γ) (k := 0) (F := F_halves) (ps := ["word", "sign"]) Fn hm (Fn.binds (ps := ["word", "sign"]) fun _ _ _ _ _ _ us hl => match us, hl with | [_, _], _ => rfl) sc_halves ?_
  delta F_halves
  exact (ssr_cons (sr_of (s_set (i := 2) sc_halves.nd rfl rfl (DV.toE (d_split (d_nb (i := 0) rfl rfl (by decide) (by decide)) (d_nb (i := 1) rfl rfl (by decide) (by decide))))))
  (ssr_cons (r_if (t_c (d_ne (d_len rfl B.len (d_nb (i := 2) rfl rfl (by decide) (by decide))) d_int))
  (ssr_one (r_raise T rfl))
  ssr_nil)
  (ssr_one (sr_of (s_ret (d_nm (i := 2) rfl rfl (by decide) (by decide)))))))
abbrev s__law_mix : Stmt := topS 17
theorem sc__law_mix : FnScope ["_law_cell_here", "_law_prime", "_law_many"] ["_law_cell_here", "_law_prime", "_law_many"] (defScope s__law_mix) := ⟨rfl, rfl, rfl, by decide +kernel, rfl, by decide +kernel, by decide +kernel⟩
theorem ok__law_mix {Γ : Gam} (B : Bl Γ) {f : Addr} {fd : FuncData} (Fn : Fun Γ.K "_law_mix" "_law_mix" s__law_mix f fd) (hm : Γ.mg "_law_mix" = some (.ref f)) : HasD (Γ.at 1) "_law_mix" c__law_mix := by
  refine hasD (Γ := Γ) (k := 0) (F := F__law_mix) (ps := ["_law_cell_here", "_law_prime", "_law_many"]) Fn hm (Fn.binds (ps := ["_law_cell_here", "_law_prime", "_law_many"]) fun _ _ _ _ _ _ us hl => match us, hl with | [_, _, _], _ => rfl) sc__law_mix ?_
  delta F__law_mix
  exact (ss_one (s_ret (d_mod (d_mod (d_mul (d_nb (i := 0) rfl rfl (by decide) (by decide)) d_int) (d_nb (i := 1) rfl rfl (by decide) (by decide))) (d_nb (i := 2) rfl rfl (by decide) (by decide)))))
abbrev s__law_text : Stmt := topS 20
theorem sc__law_text : FnScope ["_law_sheet_here", "_law_words", "_law_inner", "_law_outer", "_law_begin", "_law_wide"] ["_law_sheet_here"] (defScope s__law_text) := ⟨rfl, rfl, rfl, by decide +kernel, rfl, by decide +kernel, by decide +kernel⟩
theorem ok__law_text {Γ : Gam} (B : Bl Γ) {f : Addr} {fd : FuncData} (Fn : Fun Γ.K "_law_text" "_law_text" s__law_text f fd) (hm : Γ.mg "_law_text" = some (.ref f)) : HasD (Γ.at 1) "_law_text" c__law_text := by
  refine hasD (Γ := Γ) (k := 0) (F := F__law_text) (ps := ["_law_sheet_here"]) Fn hm (Fn.binds (ps := ["_law_sheet_here"]) fun _ _ _ _ _ _ us hl => match us, hl with | [_], _ => rfl) sc__law_text ?_
  delta F__law_text
  exact (ss_cons (s_own (i := 1) sc__law_text.nd rfl rfl (d_lst a_nil))
  (ss_cons (s_for (i_seq (d_nm (i := 0) rfl rfl (by decide) (by decide))) (g_tup (gs_cons (i := 2) sc__law_text.nd rfl rfl (gs_cons (i := 3) sc__law_text.nd rfl rfl (gs_cons (i := 4) sc__law_text.nd rfl rfl (gs_cons (i := 5) sc__law_text.nd rfl rfl gs_nil)))))
  (ss_one (s_app (i := 1) rfl rfl (by decide) (by decide) (d_add (d_add (d_add (d_add (d_add (d_add (d_strI rfl B.str (d_nb (i := 2) rfl rfl (by decide) (by decide))) d_str) (d_strI rfl B.str (d_nb (i := 3) rfl rfl (by decide) (by decide)))) d_str) (d_strI rfl B.str (d_nb (i := 4) rfl rfl (by decide) (by decide)))) d_str) (d_strI rfl B.str (d_nb (i := 5) rfl rfl (by decide) (by decide)))))))
  (ss_cons (s_if (t_v (d_nb (i := 1) rfl rfl (by decide) (by decide)))
  (ss_one (s_ret (d_join d_str (d_nb (i := 1) rfl rfl (by decide) (by decide)))))
  ss_nil)
  (ss_one (s_ret d_str)))))
abbrev s__law_spoilt : Stmt := topS 21
theorem sc__law_spoilt : FnScope ["_law_text_here", "_law_cell_here", "_law_at", "_law_sign"] ["_law_text_here", "_law_cell_here"] (defScope s__law_spoilt) := ⟨rfl, rfl, rfl, by decide +kernel, rfl, by decide +kernel, by decide +kernel⟩
theorem ok__law_spoilt {Γ : Gam} (B : Bl Γ) {f : Addr} {fd : FuncData} (Fn : Fun Γ.K "_law_spoilt" "_law_spoilt" s__law_spoilt f fd) (hm : Γ.mg "_law_spoilt" = some (.ref f)) : HasD (Γ.at 1) "_law_spoilt" c__law_spoilt := by
  refine hasD (Γ := Γ) (k := 0) (F := F__law_spoilt) (ps := ["_law_text_here", "_law_cell_here"]) Fn hm (Fn.binds (ps := ["_law_text_here", "_law_cell_here"]) fun _ _ _ _ _ _ us hl => match us, hl with | [_, _], _ => rfl) sc__law_spoilt ?_
  delta F__law_spoilt
  exact (ss_cons (s_set (i := 2) sc__law_spoilt.nd rfl rfl (d_mod (d_fdiv (d_nb (i := 1) rfl rfl (by decide) (by decide)) d_int) (d_add (d_len rfl B.len (d_nb (i := 0) rfl rfl (by decide) (by decide))) d_int)))
  (ss_cons (s_set (i := 3) sc__law_spoilt.nd rfl rfl (d_ix d_str (d_mod (d_fdiv (d_nb (i := 1) rfl rfl (by decide) (by decide)) d_int) d_int)))
  (ss_cons (s_if (t_c (d_eq (d_mod (d_nb (i := 1) rfl rfl (by decide) (by decide)) d_int) d_int))
  (ss_one (s_ret (d_add (d_sl (d_nb (i := 0) rfl rfl (by decide) (by decide)) o_none (o_some (d_nb (i := 2) rfl rfl (by decide) (by decide)))) (d_sl (d_nb (i := 0) rfl rfl (by decide) (by decide)) (o_some (d_add (d_nb (i := 2) rfl rfl (by decide) (by decide)) d_int)) o_none))))
  ss_nil)
  (ss_cons (s_if (t_c (d_eq (d_mod (d_nb (i := 1) rfl rfl (by decide) (by decide)) d_int) d_int))
  (ss_one (s_ret (d_add (d_add (d_sl (d_nb (i := 0) rfl rfl (by decide) (by decide)) o_none (o_some (d_nb (i := 2) rfl rfl (by decide) (by decide)))) (d_sl (d_nb (i := 0) rfl rfl (by decide) (by decide)) (o_some (d_nb (i := 2) rfl rfl (by decide) (by decide))) (o_some (d_add (d_nb (i := 2) rfl rfl (by decide) (by decide)) d_int)))) (d_sl (d_nb (i := 0) rfl rfl (by decide) (by decide)) (o_some (d_nb (i := 2) rfl rfl (by decide) (by decide))) o_none))))
  ss_nil)
  (ss_one (s_ret (d_add (d_add (d_sl (d_nb (i := 0) rfl rfl (by decide) (by decide)) o_none (o_some (d_nb (i := 2) rfl rfl (by decide) (by decide)))) (d_nb (i := 3) rfl rfl (by decide) (by decide))) (d_sl (d_nb (i := 0) rfl rfl (by decide) (by decide)) (o_some (d_sub (d_add (d_nb (i := 2) rfl rfl (by decide) (by decide)) (d_mod (d_nb (i := 1) rfl rfl (by decide) (by decide)) d_int)) d_int)) o_none))))))))
abbrev s_is_piece : Stmt := topS 6
theorem sc_is_piece : FnScope ["thing"] ["thing"] (defScope s_is_piece) := ⟨rfl, rfl, rfl, by decide +kernel, rfl, by decide +kernel, by decide +kernel⟩
theorem ok_is_piece {Γ : Gam} (B : Bl Γ) {f : Addr} {fd : FuncData} (Fn : Fun Γ.K "is_piece" "is_piece" s_is_piece f fd) (hm : Γ.mg "is_piece" = some (.ref f)) (h_is_number : HasD (Γ.at 1) "is_number" c_is_number) : HasD (Γ.at 2) "is_piece" c_is_piece := by
  refine hasD (Γ := Γ) (k := 1) (F := F_is_piece) (ps := ["thing"]) Fn hm (Fn.binds (ps := ["thing"]) fun _ _ _ _ _ _ us hl => match us, hl with | [_], _ => rfl) sc_is_piece ?_
  delta F_is_piece
  exact (ss_cons (s_if (DW.t (w_or (t_not (t_v (d_isTuple rfl B.isinstance rfl B.tuple (d_nb (i := 0) rfl rfl (by decide) (by decide))))) (w_or (t_c (d_ne (d_len rfl B.len (d_nb (i := 0) rfl rfl (by decide) (by decide))) d_int)) (w_or1 (t_not (t_v (d_call h_is_number rfl (by decide) (a_cons (d_ix (d_nb (i := 0) rfl rfl (by decide) (by decide)) d_int) (a_cons d_int (a_cons d_int a_nil))))))))))
  (ss_one (s_ret d_bl))
  ss_nil)
  (ss_one (s_ret (d_and (d_call h_is_number rfl (by decide) (a_cons (d_ix (d_nb (i := 0) rfl rfl (by decide) (by decide)) d_int) (a_cons (d_add (d_ix (d_nb (i := 0) rfl rfl (by decide) (by decide)) d_int) d_int) (a_cons d_int a_nil)))) (d_and (d_call h_is_number rfl (by decide) (a_cons (d_ix (d_nb (i := 0) rfl rfl (by decide) (by decide)) d_int) (a_cons d_int (a_cons d_int a_nil)))) (d_one (d_call h_is_number rfl (by decide) (a_cons (d_ix (d_nb (i := 0) rfl rfl (by decide) (by decide)) d_int) (a_cons d_int (a_cons d_int a_nil))))))))))
abbrev s_piece_of : Stmt := topS 13
theorem sc_piece_of : FnScope ["word", "ring", "arc", "inner", "outer", "begin", "wide"] ["word"] (defScope s_piece_of) := ⟨rfl, rfl, rfl, by decide +kernel, rfl, by decide +kernel, by decide +kernel⟩
theorem ok_piece_of {Γ : Gam} (B : Bl Γ) {f : Addr} {fd : FuncData} (Fn : Fun Γ.K "piece_of" "piece_of" s_piece_of f fd) (hm : Γ.mg "piece_of" = some (.ref f)) (h_halves : HasR (Γ.at 1) "halves" c_halves) (h_whole_of : HasR (Γ.at 1) "whole_of" c_whole_of) : HasR (Γ.at 2) "piece_of" c_piece_of := by
  refine hasR (Γ := Γ) (k := 1) (F := F_piece_of) (ps := ["word"]) Fn hm (Fn.binds (ps := ["word"]) fun _ _ _ _ _ _ us hl => match us, hl with | [_], _ => rfl) sc_piece_of ?_
  delta F_piece_of
  exact (ssr_cons (r_two (vr_call h_halves rfl (by decide) (a_cons (d_nm (i := 0) rfl rfl (by decide) (by decide)) (a_cons d_str a_nil))) (gs_cons (i := 1) sc_piece_of.nd rfl rfl (gs_cons (i := 2) sc_piece_of.nd rfl rfl gs_nil)))
  (ssr_cons (r_two (vr_call h_halves rfl (by decide) (a_cons (d_nm (i := 1) rfl rfl (by decide) (by decide)) (a_cons d_str a_nil))) (gs_cons (i := 3) sc_piece_of.nd rfl rfl (gs_cons (i := 4) sc_piece_of.nd rfl rfl gs_nil)))
  (ssr_cons (r_two (vr_call h_halves rfl (by decide) (a_cons (d_nm (i := 2) rfl rfl (by decide) (by decide)) (a_cons d_str a_nil))) (gs_cons (i := 5) sc_piece_of.nd rfl rfl (gs_cons (i := 6) sc_piece_of.nd rfl rfl gs_nil)))
  (ssr_one (r_ret (vr_tup (ar_cons (vr_call h_whole_of rfl (by decide) (a_cons (d_nm (i := 3) rfl rfl (by decide) (by decide)) a_nil)) (ar_cons (vr_call h_whole_of rfl (by decide) (a_cons (d_nm (i := 4) rfl rfl (by decide) (by decide)) a_nil)) (ar_cons (vr_call h_whole_of rfl (by decide) (a_cons (d_nm (i := 5) rfl rfl (by decide) (by decide)) a_nil)) (ar_cons (vr_call h_whole_of rfl (by decide) (a_cons (d_nm (i := 6) rfl rfl (by decide) (by decide)) a_nil)) ar_nil))))))))))
abbrev s__law_piece : Stmt := topS 18
theorem sc__law_piece : FnScope ["_law_cell_here", "_law_most", "_law_inner", "_law_outer", "_law_wide"] ["_law_cell_here", "_law_most"] (defScope s__law_piece) := ⟨rfl, rfl, rfl, by decide +kernel, rfl, by decide +kernel, by decide +kernel⟩
theorem ok__law_piece {Γ : Gam} (B : Bl Γ) {f : Addr} {fd : FuncData} (Fn : Fun Γ.K "_law_piece" "_law_piece" s__law_piece f fd) (hm : Γ.mg "_law_piece" = some (.ref f)) (h__law_mix : HasD (Γ.at 1) "_law_mix" c__law_mix) : HasD (Γ.at 2) "_law_piece" c__law_piece := by
  refine hasD (Γ := Γ) (k := 1) (F := F__law_piece) (ps := ["_law_cell_here", "_law_most"]) Fn hm (Fn.binds (ps := ["_law_cell_here", "_law_most"]) fun _ _ _ _ _ _ us hl => match us, hl with | [_, _], _ => rfl) sc__law_piece ?_
  delta F__law_piece
  exact (ss_cons (s_set (i := 2) sc__law_piece.nd rfl rfl (d_call h__law_mix rfl (by decide) (a_cons (d_nm (i := 0) rfl rfl (by decide) (by decide)) (a_cons d_int (a_cons (d_nm (i := 1) rfl rfl (by decide) (by decide)) a_nil)))))
  (ss_cons (s_set (i := 3) sc__law_piece.nd rfl rfl (d_add (d_add (d_nb (i := 2) rfl rfl (by decide) (by decide)) d_int) (d_call h__law_mix rfl (by decide) (a_cons (d_nm (i := 0) rfl rfl (by decide) (by decide)) (a_cons d_int (a_cons (d_sub (d_nb (i := 1) rfl rfl (by decide) (by decide)) (d_nb (i := 2) rfl rfl (by decide) (by decide))) a_nil))))))
  (ss_cons (s_set (i := 4) sc__law_piece.nd rfl rfl (d_add d_int (d_call h__law_mix rfl (by decide) (a_cons (d_nm (i := 0) rfl rfl (by decide) (by decide)) (a_cons d_int (a_cons d_int a_nil))))))
  (ss_cons (s_if (t_c (d_eq (d_mod (d_nb (i := 0) rfl rfl (by decide) (by decide)) d_int) d_int))
  (ss_one (s_set (i := 4) sc__law_piece.nd rfl rfl d_int))
  ss_nil)
  (ss_one (s_ret (d_tup (a_cons (d_nm (i := 2) rfl rfl (by decide) (by decide)) (a_cons (d_nm (i := 3) rfl rfl (by decide) (by decide)) (a_cons (d_call h__law_mix rfl (by decide) (a_cons (d_nm (i := 0) rfl rfl (by decide) (by decide)) (a_cons d_int (a_cons d_int a_nil)))) (a_cons (d_nm (i := 4) rfl rfl (by decide) (by decide)) a_nil)))))))))))
abbrev s_is_sheet : Stmt := topS 7
theorem sc_is_sheet : FnScope ["thing", "piece"] ["thing"] (defScope s_is_sheet) := ⟨rfl, rfl, rfl, by decide +kernel, rfl, by decide +kernel, by decide +kernel⟩
theorem ok_is_sheet {Γ : Gam} (B : Bl Γ) {f : Addr} {fd : FuncData} (Fn : Fun Γ.K "is_sheet" "is_sheet" s_is_sheet f fd) (hm : Γ.mg "is_sheet" = some (.ref f)) (h_is_piece : HasD (Γ.at 2) "is_piece" c_is_piece) : HasD (Γ.at 3) "is_sheet" c_is_sheet := by
  refine hasD (Γ := Γ) (k := 2) (F := F_is_sheet) (ps := ["thing"]) Fn hm (Fn.binds (ps := ["thing"]) fun _ _ _ _ _ _ us hl => match us, hl with | [_], _ => rfl) sc_is_sheet ?_
  delta F_is_sheet
  exact (ss_one (s_ret (d_and (d_isTuple rfl B.isinstance rfl B.tuple (d_nb (i := 0) rfl rfl (by decide) (by decide))) (d_and (DC.toE (d_le (d_len rfl B.len (d_nb (i := 0) rfl rfl (by decide) (by decide))) d_int)) (d_one (d_all rfl B.all (DL.f (d_lc (own := [("piece", 1)]) sc_is_sheet.nd (by decide +kernel) (i_seq (d_nm (i := 0) rfl rfl (by decide) (by decide))) (g_one (i := 1) sc_is_sheet.nd rfl rfl) (by decide) ts_nil (d_call h_is_piece rfl (by decide) (a_cons (d_nm (i := 1) rfl rfl (by decide) (by decide)) a_nil))))))))))
abbrev s__law_sheet : Stmt := topS 19
theorem sc__law_sheet : FnScope ["_law_cell_here", "_law_most", "_law_many", "_law_k"] ["_law_cell_here", "_law_most", "_law_many"] (defScope s__law_sheet) := ⟨rfl, rfl, rfl, by decide +kernel, rfl, by decide +kernel, by decide +kernel⟩
theorem ok__law_sheet {Γ : Gam} (B : Bl Γ) {f : Addr} {fd : FuncData} (Fn : Fun Γ.K "_law_sheet" "_law_sheet" s__law_sheet f fd) (hm : Γ.mg "_law_sheet" = some (.ref f)) (h__law_mix : HasD (Γ.at 2) "_law_mix" c__law_mix) (h__law_piece : HasD (Γ.at 2) "_law_piece" c__law_piece) : HasD (Γ.at 3) "_law_sheet" c__law_sheet := by
  refine hasD (Γ := Γ) (k := 2) (F := F__law_sheet) (ps := ["_law_cell_here", "_law_most", "_law_many"]) Fn hm (Fn.binds (ps := ["_law_cell_here", "_law_most", "_law_many"]) fun _ _ _ _ _ _ us hl => match us, hl with | [_, _, _], _ => rfl) sc__law_sheet ?_
  delta F__law_sheet
  exact (ss_one (s_ret (d_tuple rfl B.tuple (DL.f (d_lc (own := [("_law_k", 3)]) sc__law_sheet.nd (by decide +kernel) (i_range1 rfl B.range (d_call h__law_mix rfl (by decide) (a_cons (d_nm (i := 0) rfl rfl (by decide) (by decide)) (a_cons d_int (a_cons (d_add (d_nb (i := 2) rfl rfl (by decide) (by decide)) d_int) a_nil))))) (g_one (i := 3) sc__law_sheet.nd rfl rfl) (by decide) ts_nil (d_call h__law_piece rfl (by decide) (a_cons (d_add (d_nb (i := 0) rfl rfl (by decide) (by decide)) (d_mul d_int (d_nb (i := 3) rfl rfl (by decide) (by decide)))) (a_cons (d_nm (i := 1) rfl rfl (by decide) (by decide)) a_nil))))))))
abbrev s_read : Stmt := topS 14
theorem sc_read : FnScope ["text", "found", "word"] ["text"] (defScope s_read) := ⟨rfl, rfl, rfl, by decide +kernel, rfl, by decide +kernel, by decide +kernel⟩
theorem ok_read {Γ : Gam} (B : Bl Γ) {f : Addr} {fd : FuncData} (Fn : Fun Γ.K "read" "read" s_read f fd) (hm : Γ.mg "read" = some (.ref f)) (T : TxtC (Γ.at 3)) (h_is_sheet : HasD (Γ.at 3) "is_sheet" c_is_sheet) (h_written : HasD (Γ.at 3) "written" c_written) (h_piece_of : HasR (Γ.at 3) "piece_of" c_piece_of) : HasR (Γ.at 4) "read" c_read := by
  refine hasR (Γ := Γ) (k := 3) (F := F_read) (ps := ["text"]) Fn hm (Fn.binds (ps := ["text"]) fun _ _ _ _ _ _ us hl => match us, hl with | [_], _ => rfl) sc_read ?_
  delta F_read
  exact (ssr_cons (sr_of (s_set (i := 1) sc_read.nd rfl rfl (d_tup a_nil)))
  (ssr_cons (r_if (t_c (d_ne (d_nb (i := 0) rfl rfl (by decide) (by decide)) d_str))
  (ssr_one (r_set (i := 1) sc_read.nd rfl rfl (vr_tupLc (own := [("word", 2)]) sc_read.nd (by decide +kernel) (i_seq (DV.toE (d_split (d_nb (i := 0) rfl rfl (by decide) (by decide)) d_str))) (g_one (i := 2) sc_read.nd rfl rfl) (by decide) (pr_call h_piece_of rfl (by decide) (a_cons (d_nm (i := 2) rfl rfl (by decide) (by decide)) a_nil)) rfl B.tuple)))
  ssr_nil)
  (ssr_cons (r_if (DW.t (w_or (t_not (t_v (d_call h_is_sheet rfl (by decide) (a_cons (d_nm (i := 1) rfl rfl (by decide) (by decide)) a_nil)))) (w_or1 (t_c (d_ne (d_call h_written rfl (by decide) (a_cons (d_nm (i := 1) rfl rfl (by decide) (by decide)) a_nil)) (d_nb (i := 0) rfl rfl (by decide) (by decide)))))))
  (ssr_one (r_raise T rfl))
  ssr_nil)
  (ssr_one (sr_of (s_ret (d_nm (i := 1) rfl rfl (by decide) (by decide))))))))
abbrev s__law_read : Stmt := topS 22
theorem sc__law_read : FnScope ["_law_text_here", "_law_found", "e"] ["_law_text_here"] (defScope s__law_read) := ⟨rfl, rfl, rfl, by decide +kernel, rfl, by decide +kernel, by decide +kernel⟩
abbrev s_law : Stmt := topS 23
theorem sc_law : FnScope ["_law_script", "_law_cell_here", "_law_sheet_here", "_law_text_here", "_law_bad", "_law_found", "_law_some"] ["_law_script"] (defScope s_law) := ⟨rfl, rfl, rfl, by decide +kernel, rfl, by decide +kernel, by decide +kernel⟩
theorem fnD_law {Γ : Gam} (B : Bl Γ) {f : Addr} {fd : FuncData} (Fn : Fun Γ.K "law" "law" s_law f fd) (h__law_sheet : HasD (Γ.at 5) "_law_sheet" c__law_sheet) (h__law_text : HasD (Γ.at 5) "_law_text" c__law_text) (h_written : HasD (Γ.at 5) "written" c_written) (h__law_spoilt : HasD (Γ.at 5) "_law_spoilt" c__law_spoilt) (h__law_read : HasD (Γ.at 5) "_law_read" c__law_read) (h_is_sheet : HasD (Γ.at 5) "is_sheet" c_is_sheet) (h_read : HasR (Γ.at 5) "read" c_read) : FnOk Γ.P Γ.w Γ.K Γ.mg Γ.base CX0 6 f fd ["_law_script"] (spD Γ.K Γ.C c_law) := by
  refine fnD (Γ := Γ) (k := 5) (F := F_law) Fn sc_law ?_
  delta F_law
  exact (ss_cons (s_for (i_seq (d_sl (d_nb (i := 0) rfl rfl (by decide) (by decide)) o_none (o_some d_int))) (g_one (i := 1) sc_law.nd rfl rfl)
  (ss_cons (s_set (i := 2) sc_law.nd rfl rfl (d_call h__law_sheet rfl (by decide) (a_cons (d_nm (i := 1) rfl rfl (by decide) (by decide)) (a_cons (d_ix (d_lst (a_cons d_int (a_cons d_int a_nil))) (d_mod (d_nb (i := 1) rfl rfl (by decide) (by decide)) d_int)) (a_cons d_int a_nil)))))
  (ss_cons (s_set (i := 3) sc_law.nd rfl rfl (d_call h__law_text rfl (by decide) (a_cons (d_nm (i := 2) rfl rfl (by decide) (by decide)) a_nil)))
  (ss_cons (s_if (DW.t (w_or (t_c (d_ne (d_call h_written rfl (by decide) (a_cons (d_nm (i := 2) rfl rfl (by decide) (by decide)) a_nil)) (d_nb (i := 3) rfl rfl (by decide) (by decide)))) (w_or1 (t_c (d_ne (d_callN h_read rfl (by decide) (a_cons (d_nm (i := 3) rfl rfl (by decide) (by decide)) a_nil)) (d_nb (i := 2) rfl rfl (by decide) (by decide)))))))
  (ss_one (s_ret d_bl))
  ss_nil)
  (ss_cons (s_set (i := 4) sc_law.nd rfl rfl (d_call h__law_spoilt rfl (by decide) (a_cons (d_nm (i := 3) rfl rfl (by decide) (by decide)) (a_cons (d_fdiv (d_nb (i := 1) rfl rfl (by decide) (by decide)) d_int) a_nil))))
  (ss_cons (s_set (i := 5) sc_law.nd rfl rfl (d_call h__law_read rfl (by decide) (a_cons (d_nm (i := 4) rfl rfl (by decide) (by decide)) a_nil)))
  (ss_one (s_if (DW.t (w_and (t_c (d_isnt (d_nb (i := 5) rfl rfl (by decide) (by decide)) d_non)) (w_and1 (DW.t (w_or (t_not (t_v (d_call h_is_sheet rfl (by decide) (a_cons (d_nm (i := 5) rfl rfl (by decide) (by decide)) a_nil)))) (w_or1 (t_c (d_ne (d_call h__law_text rfl (by decide) (a_cons (d_nm (i := 5) rfl rfl (by decide) (by decide)) a_nil)) (d_nb (i := 4) rfl rfl (by decide) (by decide))))))))))
  (ss_one (s_ret d_bl))
  ss_nil))))))))
  (ss_cons (s_set (i := 6) sc_law.nd rfl rfl (DV.toE (d_lst (a_cons d_str (a_cons d_str (a_cons d_str (a_cons d_str (a_cons d_str (a_cons d_str (a_cons d_str (a_cons d_str (a_cons d_str (a_cons d_str a_nil)))))))))))))
  (ss_cons (s_for (i_seq (d_add (d_nb (i := 6) rfl rfl (by decide) (by decide)) (d_lst (a_cons d_str (a_cons d_str (a_cons d_str (a_cons d_str a_nil))))))) (g_one (i := 4) sc_law.nd rfl rfl)
  (ss_one (s_if (t_c (d_isnt (d_call h__law_read rfl (by decide) (a_cons (d_nm (i := 4) rfl rfl (by decide) (by decide)) a_nil)) d_non))
  (ss_one (s_ret d_bl))
  ss_nil)))
  (ss_one (s_ret (d_and (DC.toE (d_eq (d_callN h_read rfl (by decide) (a_cons d_str a_nil)) (d_tup a_nil))) (d_one (DC.toE (d_eq (d_callN h_read rfl (by decide) (a_cons d_str a_nil)) (d_tup (a_cons (d_tup (a_cons d_int (a_cons d_int (a_cons d_int (a_cons d_int a_nil))))) a_nil)))))))))))
end Pv
set_option Elab.async false
set_option linter.all false
set_option maxRecDepth 100000
set_option maxHeartbeats 4000000
set_option autoImplicit false
namespace Pv
open PySem PySem.Spec PyProof.Rows L2
section
variable {Γ : Gam}
def t_sx (K : PySem.W.Frag) (D a : Addr) (cls : Value) (d : Option Addr) : TS :=
  tIfS (tAnd (tB fun σ H Q => cls = .ref D ∧ d = none ∧ tCB (rIsE K D a) (tCons (tVar 2) (tCons (tC (.ref D)) tNil)) σ H Q) (tAnd (tNot (tB fun σ H Q => cls = .ref D ∧ d = none ∧ tCB (rIsE K D a) (tCons (tVar 2) (tCons (tC (.ref (He.ga K "NoPiece"))) tNil)) σ H Q))
    (tB fun σ H Q => cls = .ref D ∧ d = none ∧ tCB (rIsE K D a) (tCons (tVar 2) (tCons (tC (.ty "ValueError")) tNil)) σ H Q))) (tAsg (tC .non) (gName 1)) tNext
theorem fn_read {f : Addr} {fd : FuncData} (B : Bl Γ) (W : ErrT Γ) (Fn : Fun Γ.K "_law_read" "_law_read" s__law_read f fd) (hR : HasR (Γ.at 4) "read" c_read) : FnOk Γ.P Γ.w Γ.K Γ.mg Γ.base CX0 5 f fd ["_law_text_here"] (spD Γ.K Γ.C c__law_read) := by
  obtain ⟨j, fa, fdT, ps, hj, hm, hk, hb, hF⟩ := hR.ex
  refine Fn.ok sc__law_read (fun vs H Q E h => ?_) (fun cdv A outer s H vs Q E hr h => ⟨_, pss_cons (ps_set (i := 1) sc__law_read.nd rfl (Or.inl rfl) pe_str)
    (pss_cons (ps_try_as (i := 2) (tb := fun W' => tAsg (tCallS (spR Γ.K Γ.C c_read) (WE W') (tCons (tVar 0) tNil)) (gName 1)) (ts := t_sx Γ.K (He.ga Γ.K "NoText")) (Wout := fun _ _ _ _ => False) rfl rfl sc__law_read.nd rfl rfl ⟨rfl, by decide, Or.inl W.gR⟩ takes0
      (fun W' pn xe tk _ => pss_one (ps_set (i := 1) sc__law_read.nd rfl (Or.inl rfl) (by exact pe_callS (k := j) (f := fa) (fd := fdT) (ps := ps) hF (hr.mono hj) rfl hm hk hb (fun σ => passAt tk σ) (by exact pa_cons (pv 0) pa_nil))))
      (fun a oe cls d pn hz hf => pss_one (ps_if (PW.pt (pw_and (pt_val (pe_isE W.cT hz hf rfl B.isinstance (pv 2) (pe_glob rfl W.t.g rfl))) (pw_and (pt_not (pt_val (pe_isE W.cT hz hf rfl B.isinstance (pv 2) (pe_glob rfl W.gP rfl))))
        (pw_and1 (pt_val (pe_isE W.cT hz hf rfl B.isinstance (pv 2) (pe_bltn (v := .ty "ValueError") rfl B.ValueError (by decide +kernel) rfl (by decide) (by decide)))))))) (pss_one (ps_set (i := 1) sc__law_read.nd rfl (Or.inl rfl) pe_non)) pss_nil)))
    (pss_one (ps_ret (pv 1)))), ?_⟩)
  · obtain ⟨G, ds, d, s1, rl, e, q⟩ := h
    obtain ⟨r, er, _⟩ := Option.map_eq_some_iff.mp (show (c_read ds).map _ = some d from e)
    unfold c_read callR at er
    split at er
    · rename_i hl; rw [rl.length]; exact hl
    · cases er
  · obtain ⟨G, ds, d, s1, rl, e, q⟩ := h
    obtain ⟨r, er, ed⟩ := Option.map_eq_some_iff.mp (show (c_read ds).map (fun r => r.getD .non) = some d from e)
    have hl : ds.length = 1 := by
      have er' := er
      unfold c_read callR at er'
      split at er'
      · rename_i hl; exact hl
      · cases er'
    cases rl with
    | nil => cases hl
    | cons r1 r2 =>
      cases r2 with
      | cons _ _ => cases hl
      | nil =>
        refine ⟨_, rfl, G, [_], r, s1, .cons r1 .nil, er, fun d1 hd G' H' v' g' o' => ?_, fun hn G' H' g' => ?_⟩
        · subst hd
          cases ed
          exact ⟨_, rfl, q G' H' v' g' o'⟩
        · subst hn
          cases ed
          refine ⟨true, W.eR, fun _ a _ => ?_, fun z => nomatch z⟩
          refine ⟨rfl, rfl, _, rfl, _, _, true, rfl, fun u r => r, W.oT, true, rfl, ?_⟩
          refine if_yes rfl ?_
          refine ⟨rfl, rfl, _, rfl, _, _, false, rfl, fun u r => r, W.oP, false, rfl, ?_⟩
          refine if_yes rfl ?_
          refine ⟨rfl, rfl, _, rfl, _, _, true, rfl, fun u r => r, W.oV, true, rfl, ?_⟩
          refine if_yes rfl ?_
          exact ⟨_, rfl, q G' H' .non g' .non⟩
theorem ok__law_read {f : Addr} {fd : FuncData} (B : Bl Γ) (W : ErrT Γ) (Fn : Fun Γ.K "_law_read" "_law_read" s__law_read f fd) (hm : Γ.mg "_law_read" = some (.ref f)) (hR : HasR (Γ.at 4) "read" c_read) : HasD (Γ.at 5) "_law_read" c__law_read :=
  ⟨5, f, fd, ["_law_text_here"], Nat.le_refl _, hm, Fn.kp, (Fn.binds (ps := ["_law_text_here"]) fun _ _ _ _ _ _ us hl => match us, hl with | [_], _ => rfl), fn_read (Γ := Γ) B W Fn hR⟩
end
end Pv
set_option Elab.async false
set_option linter.all false
set_option maxRecDepth 100000
set_option maxHeartbeats 4000000
set_option autoImplicit false
namespace Pv
open PySem PySem.Spec PyProof.Rows L2
/-! ### rows of texts and of refusing blocks -/
theorem lenD_s {z : Str} (h : z.length < big) : lenD (.str z) = some (.int (z.length : Int)) := if_pos h
theorem addD_s {a b : Str} (h : a.length + b.length < big) : addD (.str a) (.str b) = some (.str (a ++ b)) := if_pos h
def numS (i : Int) : Str := Str.ofString (toString i)
theorem strI_i {i : Int} (h : i.natAbs < 2 ^ 64) : strI (.int i) = some (.str (numS i)) := if_pos h
theorem eqD_s {a b : Str} : eqD (.str a) (.str b) = some (.bl (decide (a = b))) := (rfl)
theorem neD_s {a b : Str} : neD (.str a) (.str b) = some (.bl (!decide (a = b))) := (rfl)
theorem slD_s {z : Str} {lo hi : Option Int} (h : z.length < big) : slD (.str z) lo hi = some (.str (cutS z lo hi)) := if_pos h
theorem joinD_s {a : Str} {ys : List Str} (h : (ys.map (·.length)).sum + ys.length * a.length ≤ big) : joinD (.str a) (.lst (ys.map D.str)) = some (.str (Txt.join a ys)) := by
  have e : asStrs (ys.map D.str) = some ys := by
    clear h
    induction ys with
    | nil => rfl
    | cons y ys ih => show (asStrs (ys.map D.str)).bind _ = _; rw [ih]; rfl
  show (asStrs (ys.map D.str)).bind _ = _
  rw [e]
  exact if_pos h
def seqRR (r : Option (Option Res)) (g : Env → Option (Option Res)) : Option (Option Res) := r.bind fun r => match r with
  | some (.nx ρ') => g ρ'
  | some (.rt d) => some (some (.rt d))
  | none => some none
theorem rseq_eq {f g : Env → Option (Option Res)} {ρ : Env} : rseq f g ρ = seqRR (f ρ) g := (rfl)
theorem seqRR_nx {ρ : Env} {g : Env → Option (Option Res)} : seqRR (some (some (.nx ρ))) g = g ρ := (rfl)
theorem seqRR_rt {d : D} {g : Env → Option (Option Res)} : seqRR (some (some (.rt d))) g = some (some (.rt d)) := (rfl)
theorem seqRR_no {g : Env → Option (Option Res)} : seqRR (some none) g = some none := (rfl)
theorem okF_eq {α : Type} {F : Env → Option α} {ρ : Env} : okF F ρ = (F ρ).map some := (rfl)
theorem omap_s {α β : Type} {a : α} {f : α → β} : (some a).map f = some (f a) := (rfl)
theorem omap_n {α β : Type} {f : α → β} : (none : Option α).map f = none := (rfl)
theorem rif_eq {c : Env → Option Bool} {a b : Env → Option (Option Res)} {ρ : Env} : rif c a b ρ = (c ρ).bind fun k => if k = true then a ρ else b ρ := (rfl)
theorem rret_eq {a : Env → Option (Option D)} {ρ : Env} : rret a ρ = (a ρ).map fun r => r.map .rt := (rfl)
theorem rset_eq {i : Nat} {a : Env → Option (Option D)} {ρ : Env} : rset i a ρ = (a ρ).map fun r => r.map fun d => .nx (ρ.set i (.sh d)) := (rfl)
end Pv
set_option Elab.async false
set_option linter.all false
set_option maxRecDepth 100000
set_option maxHeartbeats 4000000
set_option autoImplicit false
namespace Pv
open PySem PySem.Spec PyProof.Rows L2
local macro_rules | `(tactic| walk_at "pv") => `(tactic| simp only [neD_s, eqD_s, rseq_eq, seqRR_nx, seqRR_rt, seqRR_no, okF_eq, omap_s, omap_n, rif_eq, rret_eq, rset_eq, wipe_nil, wipe_cons, sext_eq, sapp_eq, sput_eq, nxE_nx, farsD_n, turnsD_n, insideD_n, fM_eq, netB_n, seqD_d, sdrop_eq, slT_1, slL_1, slS_1, slT_2, slL_2, slS_2, slT_3, slL_3, slS_3, slT_4, slL_4, slS_4, slT_5, slL_5, slS_5, slT_6, slL_6, slS_6, slT_7, slL_7, slS_7, slT_8, slL_8, slS_8, slT_9, slL_9, slS_9, slT_10, slL_10, slS_10, slT_12, slL_12, slS_12, slT_16, slL_16, slS_16, listD_t, listD_l, sseq_eq, seqR_nx, seqR_rt, seqR_ite, endD_ite, bind_ite, sret_eq, sset_eq, sown_eq, sbind_eq, snx_eq, sif_eq, f1_eq, f2_eq, fN_eq, fcons_eq, fnil_eq, kc_eq, tv_eq, tb_eq, boolD_b, tor_eq, tand_eq, tnot_eq, vand_eq, vor_eq, spar_eq, iseq_eq, seqD_l, seqD_t, ienum_eq, enumD_l, enumD_t, irange1_eq, irange2_eq, fch_eq, chL_t, chL_f, fsl_eq, onone_eq, osome_eq, intO_i, sfor_eq, nm_0, nb_0, nbo_0, nm_s, nb_s, obs, obn, ls0, lsS, bindP1, bindT1, bindT2, bindT3, bindT4, tup0, tup1, tup2, tup3, tup4, lst0, lst1, lst2, lst3, lst4, lst5, lst7, lst8, isiD_i, isiD_ib, isiD_is, isiD_in, isiD_it, isiD_il, isiB_i, isiB_b, isiB_s, isiT_i, isiT_b, isiT_s, isiT_n, isiT_t, isiT_l, setE, addD_i, subD_i, negD_i, absD_i, ltD_i, leD_i, gtD_i, geD_i, eqD_i, neD_i, eqD_b, neD_b, isD_b, isntD_b, ixT0, ixT1, ixT2, ixT3, truD_b, truD_t, truD_l, lenD_t, lenD_l, notD_b, tupleD_l, tupleD_t, endD_ret, endD_rt, reduceIte, if_true, if_false, Bool.false_eq_true, Bool.not_true, Bool.not_false, decide_true, decide_false, Bool.true_eq, ne_eq])
local macro_rules | `(tactic| walk_at "pvs") => `(tactic| simp only [neD_s, eqD_s, rseq_eq, seqRR_nx, seqRR_rt, seqRR_no, okF_eq, omap_s, omap_n, rif_eq, rret_eq, rset_eq, *, wipe_nil, wipe_cons, sext_eq, sapp_eq, sput_eq, nxE_nx, farsD_n, turnsD_n, insideD_n, fM_eq, netB_n, seqD_d, sdrop_eq, slT_1, slL_1, slS_1, slT_2, slL_2, slS_2, slT_3, slL_3, slS_3, slT_4, slL_4, slS_4, slT_5, slL_5, slS_5, slT_6, slL_6, slS_6, slT_7, slL_7, slS_7, slT_8, slL_8, slS_8, slT_9, slL_9, slS_9, slT_10, slL_10, slS_10, slT_12, slL_12, slS_12, slT_16, slL_16, slS_16, listD_t, listD_l, mulD_r, mulD_l, modD_i, fdivD_i, sseq_eq, seqR_nx, seqR_rt, seqR_ite, endD_ite, bind_ite, sret_eq, sset_eq, sown_eq, sbind_eq, snx_eq, sif_eq, f1_eq, f2_eq, fN_eq, fcons_eq, fnil_eq, kc_eq, tv_eq, tb_eq, boolD_b, tor_eq, tand_eq, tnot_eq, vand_eq, vor_eq, spar_eq, iseq_eq, seqD_l, seqD_t, ienum_eq, enumD_l, enumD_t, irange1_eq, irange2_eq, fch_eq, chL_t, chL_f, fsl_eq, onone_eq, osome_eq, intO_i, sfor_eq, nm_0, nb_0, nbo_0, nm_s, nb_s, obs, obn, ls0, lsS, bindP1, bindT1, bindT2, bindT3, bindT4, tup0, tup1, tup2, tup3, tup4, lst0, lst1, lst2, lst3, lst4, lst5, lst7, lst8, isiD_i, isiD_ib, isiD_is, isiD_in, isiD_it, isiD_il, isiB_i, isiB_b, isiB_s, isiT_i, isiT_b, isiT_s, isiT_n, isiT_t, isiT_l, setE, addD_i, subD_i, negD_i, absD_i, ltD_i, leD_i, gtD_i, geD_i, eqD_i, neD_i, eqD_b, neD_b, isD_b, isntD_b, ixT0, ixT1, ixT2, ixT3, truD_b, truD_t, truD_l, lenD_t, lenD_l, notD_b, tupleD_l, tupleD_t, endD_ret, endD_rt, reduceIte, if_true, if_false, Bool.false_eq_true, Bool.not_true, Bool.not_false, decide_true, decide_false, Bool.true_eq, ne_eq])
local macro_rules | `(tactic| walk_at "pvo") => `(tactic| simp (disch := omega) only [neD_s, eqD_s, rseq_eq, seqRR_nx, seqRR_rt, seqRR_no, okF_eq, omap_s, omap_n, rif_eq, rret_eq, rset_eq, addD_s, lenD_s, strI_i, slD_s, addD_l, addD_t, rng1D_i, rng2D_i, wipe_nil, wipe_cons, sext_eq, sapp_eq, sput_eq, nxE_nx, farsD_n, turnsD_n, insideD_n, fM_eq, netB_n, seqD_d, sdrop_eq, slT_1, slL_1, slS_1, slT_2, slL_2, slS_2, slT_3, slL_3, slS_3, slT_4, slL_4, slS_4, slT_5, slL_5, slS_5, slT_6, slL_6, slS_6, slT_7, slL_7, slS_7, slT_8, slL_8, slS_8, slT_9, slL_9, slS_9, slT_10, slL_10, slS_10, slT_12, slL_12, slS_12, slT_16, slL_16, slS_16, listD_t, listD_l, mulD_r, mulD_l, modD_i, fdivD_i, sseq_eq, seqR_nx, seqR_rt, seqR_ite, endD_ite, bind_ite, sret_eq, sset_eq, sown_eq, sbind_eq, snx_eq, sif_eq, f1_eq, f2_eq, fN_eq, fcons_eq, fnil_eq, kc_eq, tv_eq, tb_eq, boolD_b, tor_eq, tand_eq, tnot_eq, vand_eq, vor_eq, spar_eq, iseq_eq, seqD_l, seqD_t, ienum_eq, enumD_l, enumD_t, irange1_eq, irange2_eq, fch_eq, chL_t, chL_f, fsl_eq, onone_eq, osome_eq, intO_i, sfor_eq, nm_0, nb_0, nbo_0, nm_s, nb_s, obs, obn, ls0, lsS, bindP1, bindT1, bindT2, bindT3, bindT4, tup0, tup1, tup2, tup3, tup4, lst0, lst1, lst2, lst3, lst4, lst5, lst7, lst8, isiD_i, isiD_ib, isiD_is, isiD_in, isiD_it, isiD_il, isiB_i, isiB_b, isiB_s, isiT_i, isiT_b, isiT_s, isiT_n, isiT_t, isiT_l, setE, addD_i, subD_i, negD_i, absD_i, ltD_i, leD_i, gtD_i, geD_i, eqD_i, neD_i, eqD_b, neD_b, isD_b, isntD_b, ixT0, ixT1, ixT2, ixT3, truD_b, truD_t, truD_l, lenD_t, lenD_l, notD_b, tupleD_l, tupleD_t, endD_ret, endD_rt, reduceIte, if_true, if_false, Bool.false_eq_true, Bool.not_true, Bool.not_false, decide_true, decide_false, Bool.true_eq, ne_eq])
/-- a piece, a sheet, a point -/
structure Pc where
  i : Int
  o : Int
  b : Int
  w : Int
def eQ (q : Pc) : D := .tup [.int q.i, .int q.o, .int q.b, .int q.w]
def eS (s : List Pc) : D := .tup (s.map eQ)
structure Pc.Ok (m : Int) (q : Pc) : Prop where
  i0 : 0 ≤ q.i
  io : q.i < q.o
  om : q.o ≤ m
  b0 : 0 ≤ q.b
  b1 : q.b < 24
  w0 : 0 < q.w
  w1 : q.w ≤ 24
structure Pt where
  u : Int
  l : Int
  tu : Int
  tl : Int
structure Pt.Ok (p : Pt) : Prop where
  l0 : 0 < p.l
  l1 : p.l < 1000000
  tl0 : 0 < p.tl
  tl1 : p.tl < 1000000
def mixM (c p m : Int) : Int := c * 48271 % p % m
theorem mix_b {c p m : Int} (h : 0 < m) : 0 ≤ mixM c p m ∧ mixM c p m < m := ⟨Int.emod_nonneg _ (by omega), Int.emod_lt_of_pos _ h⟩
theorem c__law_mix_t {c p m : Int} (hp : 0 < p) (hm : 0 < m) : c__law_mix [.int c, .int p, .int m] = some (.int (mixM c p m)) := by
  rw [st__law_mix]
  unfold F__law_mix
  walk_at "pvo"
  rfl
def pieceM (c m : Int) : Pc := ⟨mixM c 9973 m, mixM c 9973 m + 1 + mixM c 9967 (m - mixM c 9973 m), mixM c 9941 24, if c % 4 = 0 then 24 else 1 + mixM c 9949 24⟩
theorem pieceM_ok {c m : Int} (hm : 0 < m) : (pieceM c m).Ok m := by
  have h1 := mix_b (c := c) (p := 9973) hm
  have h2 := mix_b (c := c) (p := 9967) (m := m - mixM c 9973 m) (by omega)
  have h3 := mix_b (c := c) (p := 9941) (m := 24) (by omega)
  have h4 := mix_b (c := c) (p := 9949) (m := 24) (by omega)
  refine ⟨?_, ?_, ?_, ?_, ?_, ?_, ?_⟩ <;> simp only [pieceM] <;> (try split) <;> omega
theorem c__law_piece_t {c m : Int} (hm : 0 < m) : c__law_piece [.int c, .int m] = some (eQ (pieceM c m)) := by
  have h1 := mix_b (c := c) (p := 9973) hm
  have e1 := c__law_mix_t (c := c) (p := 9973) (m := m) (by omega) hm
  have e2 := c__law_mix_t (c := c) (p := 9967) (m := m - mixM c 9973 m) (by omega) (by omega)
  have e3 := c__law_mix_t (c := c) (p := 9949) (m := 24) (by omega) (by omega)
  have e4 := c__law_mix_t (c := c) (p := 9941) (m := 24) (by omega) (by omega)
  rw [st__law_piece]
  unfold F__law_piece
  walk_at "pv"
  rw [e1]
  walk_at "pv"
  rw [e2]
  walk_at "pv"
  rw [e3]
  walk_at "pvo"
  unfold eQ pieceM
  by_cases h : c % 4 = 0
  · rw [if_pos (by rw [h]; rfl)]
    walk_at "pv"
    rw [e4]
    walk_at "pv"
    simp only [h, if_true]
  · rw [if_neg (by simpa using h)]
    walk_at "pv"
    rw [e4]
    walk_at "pv"
    simp only [h, if_false]
def sheetM (c m n : Int) : List Pc := (List.range (mixM c 9931 (n + 1)).toNat).map fun k : Nat => pieceM (c + 11 * (k : Int)) m
theorem sheetM_len {c m n : Int} (hn : 0 ≤ n) : ((sheetM c m n).length : Int) ≤ n := by
  have h1 := mix_b (c := c) (p := 9931) (m := n + 1) (by omega)
  unfold sheetM
  rw [List.length_map, List.length_range]
  omega
theorem sheetM_ok {c m n : Int} (hm : 0 < m) : ∀ q ∈ sheetM c m n, q.Ok m := fun q hq => by
  obtain ⟨k, _, rfl⟩ := List.mem_map.mp hq
  exact pieceM_ok hm
theorem c__law_sheet_t {c m n : Int} (hm : 0 < m) (hn : 0 ≤ n) (hn1 : n < 1000) : c__law_sheet [.int c, .int m, .int n] = some (eS (sheetM c m n)) := by
  have h1 := mix_b (c := c) (p := 9931) (m := n + 1) (by omega)
  have e1 := c__law_mix_t (c := c) (p := 9931) (m := n + 1) (by omega) (by omega)
  rw [st__law_sheet]
  unfold F__law_sheet eS sheetM
  obtain ⟨k, hk⟩ := Int.ex_nat h1.1
  walk_at "pv"
  rw [lcF_all (fun i : Nat => D.int (i : Int)) (fun i => eQ (pieceM (c + 11 * (i : Int)) m)) (List.range k) (by
    walk_at "pv"
    rw [e1, hk]
    walk_at "pv"
    rw [rng1D_i (by omega), rangeL_nat]) (by rw [List.length_range]; unfold big; omega) (fun i _ => ⟨_, bindP1, by
      have e := c__law_piece_t (c := c + 11 * (i : Int)) hm
      walk_at "pv"
      rw [mulD_l (by decide)]
      walk_at "pv"
      rw [e]⟩)]
  walk_at "pv"
  rw [hk, Int.toNat_natCast, List.map_map]; rfl
def scB : D → Bool
  | .non => true
  | .bl _ => true
  | .int _ => true
  | .str _ => true
  | .tup _ => true
  | .lst _ => true
  | _ => false
def scP : D → Bool
  | .tup xs => xs.all scB
  | d => scB d
def numB (a b : Int) : D → Bool
  | .int i => decide (a ≤ i) && decide (i ≤ b)
  | _ => false
theorem c_is_number_t {x : D} {a b : Int} (h : scB x = true) : c_is_number [x, .int a, .int b] = some (.bl (numB a b x)) := by
  rw [st_is_number]
  unfold F_is_number
  cases x <;> first | cases h | skip
  all_goals walk_at "pv"
  all_goals first | rfl | skip
  rename_i i
  show _ = some (D.bl (decide (a ≤ i) && decide (i ≤ b)))
  cases decide (a ≤ i) <;> rfl
def upB (x : D) : D → Bool
  | .int i => numB (i + 1) 999 x
  | _ => false
def pieceB : D → Bool
  | .tup [i, x, y, z] => numB 0 998 i && (upB x i && (numB 0 23 y && numB 1 24 z))
  | _ => false
theorem pieceB_t {i x y z : D} : pieceB (.tup [i, x, y, z]) = (numB 0 998 i && (upB x i && (numB 0 23 y && numB 1 24 z))) := rfl
theorem len_ne4 {xs : List D} (h : ¬ xs.length = 4) : pieceB (.tup xs) = false := by
  match xs, h with
  | [], _ => rfl
  | [_], _ => rfl
  | [_, _], _ => rfl
  | [_, _, _], _ => rfl
  | [_, _, _, _], h => exact absurd rfl h
  | _ :: _ :: _ :: _ :: _ :: _, _ => rfl
theorem c_is_piece_t {x : D} (h : scP x = true) : c_is_piece [x] = some (.bl (pieceB x)) := by
  rw [st_is_piece]
  unfold F_is_piece
  cases x <;> first | cases h | skip
  all_goals walk_at "pv"
  all_goals first | rfl | skip
  rename_i xs
  by_cases h4 : xs.length = 4
  · match xs, h4 with
    | [i, a, b, c], _ =>
      simp only [scP, List.all_cons, List.all_nil, Bool.and_true, Bool.and_eq_true] at h
      obtain ⟨h1, h2, h3, h4⟩ := h
      have e1 := c_is_number_t (a := 0) (b := 998) h1
      have e3 := c_is_number_t (a := 0) (b := 23) h3
      have e4 := c_is_number_t (a := 1) (b := 24) h4
      walk_at "pv"
      rw [e1]
      walk_at "pv"
      rw [if_neg (show ¬ (!((([i, a, b, c] : List D).length : Int) == 4)) = true from Bool.false_ne_true), pieceB_t]
      cases k : numB 0 998 i with
      | false => rfl
      | true =>
        cases i <;> first | cases k | skip
        rename_i n _
        have e2 := c_is_number_t (a := n + 1) (b := 999) h2
        walk_at "pv"
        rw [e2]
        walk_at "pv"
        rw [e3]
        walk_at "pv"
        rw [e4]
        show _ = some (D.bl (numB (n + 1) 999 a && (numB 0 23 b && numB 1 24 c)))
        cases numB (n + 1) 999 a <;> cases numB 0 23 b <;> rfl
  · rw [len_ne4 h4, if_pos (by
      have : ((xs.length : Int) == 4) = false := by simp; omega
      rw [this]; rfl)]
def sheetB : D → Bool
  | .tup xs => decide (xs.length ≤ 8) && xs.all pieceB
  | _ => false
theorem c_is_sheet_n {x : D} (h : scB x = true) (h1 : ∀ xs, x ≠ .tup xs) : c_is_sheet [x] = some (.bl false) := by
  rw [st_is_sheet]
  unfold F_is_sheet
  cases x <;> first | cases h | skip
  all_goals first | (walk_at "pv"; done) | skip
  exact absurd rfl (h1 _)
theorem all_map_id {α : Type} (f : α → Bool) (xs : List α) : (xs.map f).all id = xs.all f := by
  rw [List.all_map]; rfl
theorem c_is_sheet_t {xs : List D} (h : xs.all scP = true) (hl : xs.length < 1000) : c_is_sheet [.tup xs] = some (.bl (sheetB (.tup xs))) := by
  rw [st_is_sheet]
  unfold F_is_sheet
  walk_at "pv"
  have e : lcF [1] (iseq (nm 0)) (.one 1) tyes (fN c_is_piece (fcons (nm 1) fnil)) [.sh (.tup xs), .no] = some (.lst (xs.map fun x => .bl (pieceB x))) := lcF_all (fun x => x) (fun x => .bl (pieceB x)) xs (by
    walk_at "pv"
    rw [List.map_id']) (by unfold big; omega) (fun x hx => ⟨_, bindP1, by
      have e := c_is_piece_t (x := x) (List.all_eq_true.mp h x hx)
      walk_at "pv"
      rw [e]⟩)
  rw [e]
  walk_at "pv"
  show _ = some (D.bl (decide (xs.length ≤ 8) && xs.all pieceB))
  rw [show (xs.map fun x => D.bl (pieceB x)) = (xs.map pieceB).map D.bl by rw [List.map_map]; rfl, allD_b, all_map_id]
  by_cases h8 : xs.length ≤ 8
  · rw [decide_eq_true h8, decide_eq_true (show (xs.length : Int) ≤ 8 by omega)]; rfl
  · rw [decide_eq_false h8, decide_eq_false (show ¬ (xs.length : Int) ≤ 8 by omega)]; rfl
/-! ### a piece's text, a sheet's text -/
theorem tl_numS {n : Nat} : TL.tl (numS (n : Int)) = TL.numL n := TL.tl_num n
theorem numS_len {i : Int} (h0 : 0 ≤ i) (h1 : i < 1000) : (numS i).length ≤ 3 := by
  obtain ⟨n, rfl⟩ := Int.ex_nat h0
  rw [TL.len_tl, tl_numS]
  exact TL.numL_len (by decide) (by omega)
def wordS (q : Pc) : Str := numS q.i ++ "-" ++ numS q.o ++ "@" ++ numS q.b ++ "+" ++ numS q.w
theorem wordS_len {q : Pc} (h : q.Ok 999) : (wordS q).length ≤ 15 := by
  have h1 := numS_len h.i0 (by have := h.io; have := h.om; omega)
  have h2 := numS_len (i := q.o) (by have := h.io; have := h.i0; omega) (by have := h.om; omega)
  have h3 := numS_len h.b0 (by have := h.b1; omega)
  have h4 := numS_len (i := q.w) (by have := h.w0; omega) (by have := h.w1; omega)
  unfold wordS
  simp only [app_len]
  have e1 : ("-" : Str).length = 1 := by decide +kernel
  have e2 : ("@" : Str).length = 1 := by decide +kernel
  have e3 : ("+" : Str).length = 1 := by decide +kernel
  omega
def textS (s : List Pc) : Str := if s = [] then "none" else Txt.join " " (s.map wordS)
theorem sum_len {s : List Pc} (h : ∀ q ∈ s, q.Ok 999) : ((s.map wordS).map (·.length)).sum ≤ 15 * s.length := by
  induction s with
  | nil => exact Nat.le_refl _
  | cons q s ih =>
    have h1 := wordS_len (h q List.mem_cons_self)
    have h2 := ih fun x hx => h x (List.mem_cons_of_mem _ hx)
    simp only [List.map_cons, List.sum_cons, List.length_cons]
    omega
theorem sp_len : (" " : Str).length = 1 := by decide +kernel
theorem join_words {s : List Pc} (h : ∀ q ∈ s, q.Ok 999) (hl : s.length ≤ 8) : joinD (.str " ") (.lst (s.map fun q => .str (wordS q))) = some (.str (Txt.join " " (s.map wordS))) := by
  rw [show (s.map fun q => D.str (wordS q)) = (s.map wordS).map D.str by rw [List.map_map]; rfl]
  refine joinD_s ?_
  have h1 := sum_len h
  rw [sp_len, List.length_map]
  unfold big
  omega
theorem fstr_eq (a b c d : Str) : [a, "-", b, "@", c, "+", d].foldl (fun x y => x ++ y) Str.empty = a ++ "-" ++ b ++ "@" ++ c ++ "+" ++ d := by
  show Str.empty ++ a ++ "-" ++ b ++ "@" ++ c ++ "+" ++ d = _
  rw [show Str.empty ++ a = a from TL.ext_tl (by rw [TL.tl_append]; rfl)]
theorem fmtD_i {i : Int} (h : i.natAbs < 2 ^ 64) : fmtD (.int i) = some (numS i) := if_pos h
theorem fmtD_s {y : Str} : fmtD (.str y) = some y := rfl
theorem jcons_eq {a : Env → Option D} {r : Env → Option (List Str)} {ρ : Env} : jcons a r ρ = (a ρ).bind fun x => (fmtD x).bind fun y => (r ρ).bind fun ys => some (y :: ys) := rfl
theorem fstrD_eq {r : Env → Option (List Str)} {ρ : Env} : fstrD r ρ = (r ρ).bind fun ys => if lenS ys ≤ big then some (.str (ys.foldl (fun x y => x ++ y) Str.empty)) else none := rfl
theorem c_written_t {s : List Pc} (h : ∀ q ∈ s, q.Ok 999) (hl : s.length ≤ 8) : c_written [eS s] = some (.str (textS s)) := by
  rw [st_written]
  unfold F_written eS textS
  by_cases hs : s = []
  · subst hs
    walk_at "pv"
    rfl
  · walk_at "pv"
    have e : (!(!(s.map eQ).isEmpty)) = false := by
      cases s with
      | nil => exact absurd rfl hs
      | cons _ _ => rfl
    rw [e, if_neg Bool.false_ne_true, if_neg hs]
    rw [lcF_all eQ (fun q => .str (wordS q)) s (by walk_at "pv") (by unfold big; omega) (fun q hq => ?_)]
    · walk_at "pv"
      rw [join_words h hl]
    · have hq := h q hq
      refine ⟨_, bindT4, ?_⟩
      have a0 := hq.i0; have a1 := hq.io; have a2 := hq.om; have a3 := hq.b0; have a4 := hq.b1; have a5 := hq.w0; have a6 := hq.w1
      have h1 := numS_len a0 (by omega)
      have h2 := numS_len (i := q.o) (by omega) (by omega)
      have h3 := numS_len a3 (by omega)
      have h4 := numS_len (i := q.w) (by omega) (by omega)
      rw [fstrD_eq]
      simp only [jcons_eq]
      walk_at "pv"
      rw [fmtD_i (by omega), fmtD_i (by omega), fmtD_i (by omega), fmtD_i (by omega)]
      simp only [fmtD_s, Option.bind_some]
      rw [fstr_eq, if_pos]
      · rfl
      · have e1 : ("-" : Str).length = 1 := by decide +kernel
        have e2 : ("@" : Str).length = 1 := by decide +kernel
        have e3 : ("+" : Str).length = 1 := by decide +kernel
        show (numS q.i).length + (("-" : Str).length + ((numS q.o).length + (("@" : Str).length + ((numS q.b).length + (("+" : Str).length + ((numS q.w).length + 0)))))) ≤ big
        unfold big
        omega
def addW : Env → Option Res := sapp 1 (f2 addD (f2 addD (f2 addD (f2 addD (f2 addD (f2 addD (f1 strI (nb 2)) (kc (.str "-"))) (f1 strI (nb 3))) (kc (.str "@"))) (f1 strI (nb 4))) (kc (.str "+"))) (f1 strI (nb 5)))
theorem addW_t {q : Pc} (hq : q.Ok 999) {X : D} {ws : List Str} (hl : ws.length < 1000) : addW [.sh X, .ow (.lst (ws.map D.str)), .sh (.int q.i), .sh (.int q.o), .sh (.int q.b), .sh (.int q.w)] = some (.nx [.sh X, .ow (.lst ((ws ++ [wordS q]).map D.str)), .sh (.int q.i), .sh (.int q.o), .sh (.int q.b), .sh (.int q.w)]) := by
  have a0 := hq.i0; have a1 := hq.io; have a2 := hq.om; have a3 := hq.b0; have a4 := hq.b1; have a5 := hq.w0; have a6 := hq.w1
  have h1 := numS_len a0 (by omega)
  have h2 := numS_len (i := q.o) (by omega) (by omega)
  have h3 := numS_len a3 (by omega)
  have h4 := numS_len (i := q.w) (by omega) (by omega)
  have e1 : ("-" : Str).length = 1 := by decide +kernel
  have e2 : ("@" : Str).length = 1 := by decide +kernel
  have e3 : ("+" : Str).length = 1 := by decide +kernel
  unfold addW
  walk_at "pv"
  rw [strI_i (by omega), strI_i (by omega), strI_i (by omega), strI_i (by omega)]
  walk_at "pv"
  rw [addD_s (by unfold big; omega)]
  walk_at "pv"
  rw [addD_s (by simp only [app_len]; unfold big; omega)]
  walk_at "pv"
  rw [addD_s (by simp only [app_len]; unfold big; omega)]
  walk_at "pv"
  rw [addD_s (by simp only [app_len]; unfold big; omega)]
  walk_at "pv"
  rw [addD_s (by simp only [app_len]; unfold big; omega)]
  walk_at "pv"
  rw [addD_s (by simp only [app_len]; unfold big; omega)]
  walk_at "pv"
  rw [appAt_l rfl (by rw [List.length_map]; unfold big; omega)]
  walk_at "pv"
  rw [List.map_append]
  rfl
theorem words_loop : ∀ (s : List Pc) (ws : List Str) (X : D) (x2 x3 x4 x5 : Sl), (∀ q ∈ s, q.Ok 999) → ws.length + s.length < 1000 → ∃ y2 y3 y4 y5, forD (.tup [2, 3, 4, 5]) addW (s.map eQ) [.sh X, .ow (.lst (ws.map D.str)), x2, x3, x4, x5] = some (.nx [.sh X, .ow (.lst ((ws ++ s.map wordS).map D.str)), y2, y3, y4, y5])
  | [], ws, X, x2, x3, x4, x5, _, _ => ⟨x2, x3, x4, x5, by rw [show List.map wordS [] = [] from rfl, List.append_nil]; rfl⟩
  | q :: s, ws, X, x2, x3, x4, x5, h, hl => by
    rw [List.length_cons] at hl
    obtain ⟨y2, y3, y4, y5, e⟩ := words_loop s (ws ++ [wordS q]) X (.sh (.int q.i)) (.sh (.int q.o)) (.sh (.int q.b)) (.sh (.int q.w)) (fun x hx => h x (List.mem_cons_of_mem _ hx)) (by rw [List.length_append]; show ws.length + 1 + s.length < 1000; omega)
    refine ⟨y2, y3, y4, y5, ?_⟩
    rw [List.append_assoc] at e
    rw [show ws ++ List.map wordS (q :: s) = ws ++ ([wordS q] ++ List.map wordS s) from rfl, ← e, List.map_cons]
    have z : forD (.tup [2, 3, 4, 5]) addW (eQ q :: s.map eQ) [.sh X, .ow (.lst (ws.map D.str)), x2, x3, x4, x5] = (addW [.sh X, .ow (.lst (ws.map D.str)), .sh (.int q.i), .sh (.int q.o), .sh (.int q.b), .sh (.int q.w)]).bind fun r => match r with
      | .nx ρ' => forD (.tup [2, 3, 4, 5]) addW (s.map eQ) ρ'
      | .rt d => some (.rt d) := rfl
    rw [z, addW_t (h q List.mem_cons_self) (by omega)]
    rfl
theorem c__law_text_t {s : List Pc} (h : ∀ q ∈ s, q.Ok 999) (hl : s.length ≤ 8) : c__law_text [eS s] = some (.str (textS s)) := by
  rw [st__law_text]
  unfold F__law_text eS textS
  walk_at "pv"
  obtain ⟨y2, y3, y4, y5, e⟩ := words_loop s [] (.tup (s.map eQ)) .no .no .no .no h (by show 0 + s.length < 1000; omega)
  have e : forD (.tup [2, 3, 4, 5]) (sapp 1 (f2 addD (f2 addD (f2 addD (f2 addD (f2 addD (f2 addD (f1 strI (nb 2)) (kc (.str "-"))) (f1 strI (nb 3))) (kc (.str "@"))) (f1 strI (nb 4))) (kc (.str "+"))) (f1 strI (nb 5)))) (s.map eQ) [.sh (.tup (s.map eQ)), .ow (.lst []), .no, .no, .no, .no] = _ := e
  rw [e]
  walk_at "pv"
  by_cases hs : s = []
  · subst hs
    rfl
  · have e2 : (!((([] : List Str) ++ s.map wordS).map D.str).isEmpty) = true := by
      cases s with
      | nil => exact absurd rfl hs
      | cons _ _ => rfl
    rw [e2, if_pos rfl, if_neg hs]
    rw [List.nil_append, List.map_map]
    have j := join_words h hl
    show endD (((joinD (.str " ") (.lst (s.map fun q => .str (wordS q)))).bind _).bind _) = _
    rw [j]
    rfl
end Pv
set_option Elab.async false
set_option linter.all false
set_option maxRecDepth 100000
set_option maxHeartbeats 4000000
set_option autoImplicit false
namespace Pv
open PySem PySem.Spec PyProof.Rows L2
local macro_rules | `(tactic| walk_at "pv") => `(tactic| simp only [neD_s, eqD_s, rseq_eq, seqRR_nx, seqRR_rt, seqRR_no, okF_eq, omap_s, omap_n, rif_eq, rret_eq, rset_eq, wipe_nil, wipe_cons, sext_eq, sapp_eq, sput_eq, nxE_nx, farsD_n, turnsD_n, insideD_n, fM_eq, netB_n, seqD_d, sdrop_eq, slT_1, slL_1, slS_1, slT_2, slL_2, slS_2, slT_3, slL_3, slS_3, slT_4, slL_4, slS_4, slT_5, slL_5, slS_5, slT_6, slL_6, slS_6, slT_7, slL_7, slS_7, slT_8, slL_8, slS_8, slT_9, slL_9, slS_9, slT_10, slL_10, slS_10, slT_12, slL_12, slS_12, slT_16, slL_16, slS_16, listD_t, listD_l, sseq_eq, seqR_nx, seqR_rt, seqR_ite, endD_ite, bind_ite, sret_eq, sset_eq, sown_eq, sbind_eq, snx_eq, sif_eq, f1_eq, f2_eq, fN_eq, fcons_eq, fnil_eq, kc_eq, tv_eq, tb_eq, boolD_b, tor_eq, tand_eq, tnot_eq, vand_eq, vor_eq, spar_eq, iseq_eq, seqD_l, seqD_t, ienum_eq, enumD_l, enumD_t, irange1_eq, irange2_eq, fch_eq, chL_t, chL_f, fsl_eq, onone_eq, osome_eq, intO_i, sfor_eq, nm_0, nb_0, nbo_0, nm_s, nb_s, obs, obn, ls0, lsS, bindP1, bindT1, bindT2, bindT3, bindT4, tup0, tup1, tup2, tup3, tup4, lst0, lst1, lst2, lst3, lst4, lst5, lst7, lst8, isiD_i, isiD_ib, isiD_is, isiD_in, isiD_it, isiD_il, isiB_i, isiB_b, isiB_s, isiT_i, isiT_b, isiT_s, isiT_n, isiT_t, isiT_l, setE, addD_i, subD_i, negD_i, absD_i, ltD_i, leD_i, gtD_i, geD_i, eqD_i, neD_i, eqD_b, neD_b, isD_b, isntD_b, ixT0, ixT1, ixT2, ixT3, truD_b, truD_t, truD_l, lenD_t, lenD_l, notD_b, tupleD_l, tupleD_t, endD_ret, endD_rt, reduceIte, if_true, if_false, Bool.false_eq_true, Bool.not_true, Bool.not_false, decide_true, decide_false, Bool.true_eq, ne_eq])
local macro_rules | `(tactic| walk_at "pvs") => `(tactic| simp only [neD_s, eqD_s, rseq_eq, seqRR_nx, seqRR_rt, seqRR_no, okF_eq, omap_s, omap_n, rif_eq, rret_eq, rset_eq, *, wipe_nil, wipe_cons, sext_eq, sapp_eq, sput_eq, nxE_nx, farsD_n, turnsD_n, insideD_n, fM_eq, netB_n, seqD_d, sdrop_eq, slT_1, slL_1, slS_1, slT_2, slL_2, slS_2, slT_3, slL_3, slS_3, slT_4, slL_4, slS_4, slT_5, slL_5, slS_5, slT_6, slL_6, slS_6, slT_7, slL_7, slS_7, slT_8, slL_8, slS_8, slT_9, slL_9, slS_9, slT_10, slL_10, slS_10, slT_12, slL_12, slS_12, slT_16, slL_16, slS_16, listD_t, listD_l, mulD_r, mulD_l, modD_i, fdivD_i, sseq_eq, seqR_nx, seqR_rt, seqR_ite, endD_ite, bind_ite, sret_eq, sset_eq, sown_eq, sbind_eq, snx_eq, sif_eq, f1_eq, f2_eq, fN_eq, fcons_eq, fnil_eq, kc_eq, tv_eq, tb_eq, boolD_b, tor_eq, tand_eq, tnot_eq, vand_eq, vor_eq, spar_eq, iseq_eq, seqD_l, seqD_t, ienum_eq, enumD_l, enumD_t, irange1_eq, irange2_eq, fch_eq, chL_t, chL_f, fsl_eq, onone_eq, osome_eq, intO_i, sfor_eq, nm_0, nb_0, nbo_0, nm_s, nb_s, obs, obn, ls0, lsS, bindP1, bindT1, bindT2, bindT3, bindT4, tup0, tup1, tup2, tup3, tup4, lst0, lst1, lst2, lst3, lst4, lst5, lst7, lst8, isiD_i, isiD_ib, isiD_is, isiD_in, isiD_it, isiD_il, isiB_i, isiB_b, isiB_s, isiT_i, isiT_b, isiT_s, isiT_n, isiT_t, isiT_l, setE, addD_i, subD_i, negD_i, absD_i, ltD_i, leD_i, gtD_i, geD_i, eqD_i, neD_i, eqD_b, neD_b, isD_b, isntD_b, ixT0, ixT1, ixT2, ixT3, truD_b, truD_t, truD_l, lenD_t, lenD_l, notD_b, tupleD_l, tupleD_t, endD_ret, endD_rt, reduceIte, if_true, if_false, Bool.false_eq_true, Bool.not_true, Bool.not_false, decide_true, decide_false, Bool.true_eq, ne_eq])
local macro_rules | `(tactic| walk_at "pvo") => `(tactic| simp (disch := omega) only [neD_s, eqD_s, rseq_eq, seqRR_nx, seqRR_rt, seqRR_no, okF_eq, omap_s, omap_n, rif_eq, rret_eq, rset_eq, addD_s, lenD_s, strI_i, slD_s, addD_l, addD_t, rng1D_i, rng2D_i, wipe_nil, wipe_cons, sext_eq, sapp_eq, sput_eq, nxE_nx, farsD_n, turnsD_n, insideD_n, fM_eq, netB_n, seqD_d, sdrop_eq, slT_1, slL_1, slS_1, slT_2, slL_2, slS_2, slT_3, slL_3, slS_3, slT_4, slL_4, slS_4, slT_5, slL_5, slS_5, slT_6, slL_6, slS_6, slT_7, slL_7, slS_7, slT_8, slL_8, slS_8, slT_9, slL_9, slS_9, slT_10, slL_10, slS_10, slT_12, slL_12, slS_12, slT_16, slL_16, slS_16, listD_t, listD_l, mulD_r, mulD_l, modD_i, fdivD_i, sseq_eq, seqR_nx, seqR_rt, seqR_ite, endD_ite, bind_ite, sret_eq, sset_eq, sown_eq, sbind_eq, snx_eq, sif_eq, f1_eq, f2_eq, fN_eq, fcons_eq, fnil_eq, kc_eq, tv_eq, tb_eq, boolD_b, tor_eq, tand_eq, tnot_eq, vand_eq, vor_eq, spar_eq, iseq_eq, seqD_l, seqD_t, ienum_eq, enumD_l, enumD_t, irange1_eq, irange2_eq, fch_eq, chL_t, chL_f, fsl_eq, onone_eq, osome_eq, intO_i, sfor_eq, nm_0, nb_0, nbo_0, nm_s, nb_s, obs, obn, ls0, lsS, bindP1, bindT1, bindT2, bindT3, bindT4, tup0, tup1, tup2, tup3, tup4, lst0, lst1, lst2, lst3, lst4, lst5, lst7, lst8, isiD_i, isiD_ib, isiD_is, isiD_in, isiD_it, isiD_il, isiB_i, isiB_b, isiB_s, isiT_i, isiT_b, isiT_s, isiT_n, isiT_t, isiT_l, setE, addD_i, subD_i, negD_i, absD_i, ltD_i, leD_i, gtD_i, geD_i, eqD_i, neD_i, eqD_b, neD_b, isD_b, isntD_b, ixT0, ixT1, ixT2, ixT3, truD_b, truD_t, truD_l, lenD_t, lenD_l, notD_b, tupleD_l, tupleD_t, endD_ret, endD_rt, reduceIte, if_true, if_false, Bool.false_eq_true, Bool.not_true, Bool.not_false, decide_true, decide_false, Bool.true_eq, ne_eq])
/-! ### splitting -/
theorem spl_len (S : List Nat) : ∀ (l : List Nat) (k : Nat) (acc : List Nat), (TL.spl S k acc l).length ≤ l.length + 1 ∧ ∀ p ∈ TL.spl S k acc l, p.length ≤ acc.length + l.length
  | [], k, acc => by
    rw [TL.spl_nil]
    exact ⟨Nat.le_refl _, fun p hp => by rw [List.mem_singleton.mp hp]; simp⟩
  | c :: r, 0, acc => by
    show (if TL.pre S (c :: r) = true then acc :: TL.spl S (S.length - 1) [] r else TL.spl S 0 (acc ++ [c]) r).length ≤ _ ∧ ∀ p ∈ (if TL.pre S (c :: r) = true then acc :: TL.spl S (S.length - 1) [] r else TL.spl S 0 (acc ++ [c]) r), _
    split
    · obtain ⟨h1, h2⟩ := spl_len S r (S.length - 1) []
      refine ⟨by simp only [List.length_cons]; omega, fun p hp => ?_⟩
      rcases List.mem_cons.mp hp with rfl | hp
      · simp only [List.length_cons]; omega
      · have := h2 p hp
        simp only [List.length_cons, List.length_nil] at this ⊢; omega
    · obtain ⟨h1, h2⟩ := spl_len S r 0 (acc ++ [c])
      refine ⟨by simp only [List.length_cons]; omega, fun p hp => ?_⟩
      have := h2 p hp
      simp only [List.length_cons, List.length_append, List.length_nil] at this ⊢; omega
  | c :: r, k + 1, acc => by
    show (TL.spl S k acc r).length ≤ _ ∧ ∀ p ∈ TL.spl S k acc r, _
    obtain ⟨h1, h2⟩ := spl_len S r k acc
    refine ⟨by simp only [List.length_cons]; omega, fun p hp => ?_⟩
    have := h2 p hp
    simp only [List.length_cons]; omega
structure Sep (y : Str) : Prop where
  ne : TL.tl y ≠ []
  k : y.cps.all (· < 256) = true
theorem split_len {x y : Str} (h : Sep y) : (Txt.split x y).length ≤ x.length + 1 ∧ ∀ p ∈ Txt.split x y, p.length ≤ x.length := by
  have e := TL.split_spl x y h.ne (TL.kind_ok h.k)
  obtain ⟨h1, h2⟩ := spl_len (TL.tl y) (TL.tl x) 0 []
  rw [← e] at h1 h2
  rw [TL.len_tl x]
  refine ⟨by rw [List.length_map] at h1; exact h1, fun p hp => ?_⟩
  have := h2 (TL.tl p) (List.mem_map_of_mem hp)
  rw [TL.len_tl p]
  simpa using this
theorem sep_at : Sep "@" := ⟨by decide +kernel, by decide +kernel⟩
theorem sep_mi : Sep "-" := ⟨by decide +kernel, by decide +kernel⟩
theorem sep_pl : Sep "+" := ⟨by decide +kernel, by decide +kernel⟩
theorem sep_sp : Sep " " := ⟨by decide +kernel, by decide +kernel⟩
theorem Sep.len {y : Str} (h : Sep y) : y.length ≠ 0 := fun z => h.ne ((TL.len0_tl y).mp z)
theorem splitD_t {x y : Str} (h : Sep y) (hl : x.length < 900) : splitD (.str x) (.str y) = some (.lst ((Txt.split x y).map D.str)) := if_pos ⟨h.len, by unfold big; omega⟩
/-! ### a number of a word -/
def wholeB (w : Str) : Bool := (decide (1 ≤ w.length) && decide (w.length ≤ 3)) && w.cps.toList.all fun c => decide (48 ≤ c) && decide (c ≤ 57)
def wholeP (w : Str) : Option Int := if wholeB w = true then some (NumText.digitsVal w.cps.toList : Nat) else none
theorem digs : ("0123456789" : Str).cps.toList = [48, 49, 50, 51, 52, 53, 54, 55, 56, 57] := by decide +kernel
theorem inS_c {c : Nat} : inS (.str ⟨#[c]⟩) (.str "0123456789") = some (.bl (decide (48 ≤ c) && decide (c ≤ 57))) := by
  show some (D.bl (decide (c ∈ ("0123456789" : Str).cps.toList))) = _
  rw [digs]
  refine congrArg (fun b => some (D.bl b)) ?_
  have e : (c ∈ [48, 49, 50, 51, 52, 53, 54, 55, 56, 57]) ↔ (48 ≤ c ∧ c ≤ 57) := by
    simp only [List.mem_cons, List.not_mem_nil, or_false]
    omega
  rw [decide_eq_decide.mpr e, Bool.decide_and]
theorem seqD_s {z : Str} : seqD (.str z) = some (z.cps.toList.map fun c => .str ⟨#[c]⟩) := rfl
theorem wholeB_dig {w : Str} (h : wholeB w = true) : NumText.AllDigits w.cps.toList ∧ w.cps.toList ≠ [] ∧ w.length ≤ 3 := by
  unfold wholeB at h
  simp only [Bool.and_eq_true, decide_eq_true_eq, List.all_eq_true] at h
  obtain ⟨⟨h1, h2⟩, h3⟩ := h
  refine ⟨fun c hc => h3 c hc, fun e => ?_, h2⟩
  have : TL.tl w = [] := e
  rw [TL.len_tl, this] at h1
  exact absurd h1 (by decide)
theorem intS_t {w : Str} (h : wholeB w = true) : intS (.str w) = some (.int (NumText.digitsVal w.cps.toList : Nat)) := by
  obtain ⟨h1, h2, h3⟩ := wholeB_dig h
  show (PySem.intText? w).bind _ = _
  rw [intText_digits h1 h2 (by omega)]
  exact if_pos (by omega)
theorem c_whole_of_t {w : Str} (hl : w.length < 900) : c_whole_of [.str w] = some ((wholeP w).map D.int) := by
  rw [st_whole_of]
  unfold F_whole_of
  have e : lcF [1] (iseq (nm 0)) (.one 1) tyes (f2 inS (nb 1) (kc (.str "0123456789"))) [.sh (.str w), .no] = some (.lst (w.cps.toList.map fun c => .bl (decide (48 ≤ c) && decide (c ≤ 57)))) := lcF_all (fun c => .str ⟨#[c]⟩) _ w.cps.toList (by
    walk_at "pv"
    exact seqD_s) (by have := TL.len_tl w; show (TL.tl w).length < big; unfold big; omega) (fun c _ => ⟨_, bindP1, by
      walk_at "pv"
      exact inS_c⟩)
  have e2 : (w.cps.toList.map fun c => D.bl (decide (48 ≤ c) && decide (c ≤ 57))) = (w.cps.toList.map fun c => decide (48 ≤ c) && decide (c ≤ 57)).map D.bl := by rw [List.map_map]; rfl
  walk_at "pv"
  rw [lenD_s (by unfold big; omega), e, e2]
  walk_at "pv"
  rw [allD_b, all_map_id]
  unfold wholeP
  cases hw : wholeB w with
  | true =>
    have hw' := hw
    unfold wholeB at hw'
    simp only [Bool.and_eq_true, decide_eq_true_eq] at hw'
    obtain ⟨⟨h1, h2⟩, h3⟩ := hw'
    rw [decide_eq_true (show (1 : Int) ≤ w.length by omega), chL_t, Option.bind_some, leD_i, decide_eq_true (show (w.length : Int) ≤ 3 by omega), h3, show okF (sret (f1 intS (nb 0))) = fun ρ => ((nb 0 ρ).bind intS).map fun d => some (.rt d) from funext fun ρ => by rw [okF_eq, sret_eq, f1_eq]; cases (nb 0 ρ).bind intS <;> rfl]
    show endR (((intS (.str w)).map _)) = _
    rw [intS_t hw]
    rfl
  | false =>
    unfold wholeB at hw
    by_cases h1 : 1 ≤ w.length
    · by_cases h2 : w.length ≤ 3
      · rw [decide_eq_true h1, decide_eq_true h2] at hw
        have hw : (w.cps.toList.all fun c => decide (48 ≤ c) && decide (c ≤ 57)) = false := hw
        rw [decide_eq_true (show (1 : Int) ≤ w.length by omega), chL_t, Option.bind_some, leD_i, decide_eq_true (show (w.length : Int) ≤ 3 by omega), hw]
        rfl
      · rw [decide_eq_true (show (1 : Int) ≤ w.length by omega), chL_t, Option.bind_some, leD_i, decide_eq_false (show ¬ (w.length : Int) ≤ 3 by omega)]
        rfl
    · rw [decide_eq_false (show ¬ (1 : Int) ≤ w.length by omega)]
      rfl
end Pv
set_option Elab.async false
set_option linter.all false
set_option maxRecDepth 100000
set_option maxHeartbeats 4000000
set_option autoImplicit false
namespace Pv
open PySem PySem.Spec PyProof.Rows L2
local macro_rules | `(tactic| walk_at "pv") => `(tactic| simp only [neD_s, eqD_s, rseq_eq, seqRR_nx, seqRR_rt, seqRR_no, okF_eq, omap_s, omap_n, rif_eq, rret_eq, rset_eq, wipe_nil, wipe_cons, sext_eq, sapp_eq, sput_eq, nxE_nx, farsD_n, turnsD_n, insideD_n, fM_eq, netB_n, seqD_d, sdrop_eq, slT_1, slL_1, slS_1, slT_2, slL_2, slS_2, slT_3, slL_3, slS_3, slT_4, slL_4, slS_4, slT_5, slL_5, slS_5, slT_6, slL_6, slS_6, slT_7, slL_7, slS_7, slT_8, slL_8, slS_8, slT_9, slL_9, slS_9, slT_10, slL_10, slS_10, slT_12, slL_12, slS_12, slT_16, slL_16, slS_16, listD_t, listD_l, sseq_eq, seqR_nx, seqR_rt, seqR_ite, endD_ite, bind_ite, sret_eq, sset_eq, sown_eq, sbind_eq, snx_eq, sif_eq, f1_eq, f2_eq, fN_eq, fcons_eq, fnil_eq, kc_eq, tv_eq, tb_eq, boolD_b, tor_eq, tand_eq, tnot_eq, vand_eq, vor_eq, spar_eq, iseq_eq, seqD_l, seqD_t, ienum_eq, enumD_l, enumD_t, irange1_eq, irange2_eq, fch_eq, chL_t, chL_f, fsl_eq, onone_eq, osome_eq, intO_i, sfor_eq, nm_0, nb_0, nbo_0, nm_s, nb_s, obs, obn, ls0, lsS, bindP1, bindT1, bindT2, bindT3, bindT4, tup0, tup1, tup2, tup3, tup4, lst0, lst1, lst2, lst3, lst4, lst5, lst7, lst8, isiD_i, isiD_ib, isiD_is, isiD_in, isiD_it, isiD_il, isiB_i, isiB_b, isiB_s, isiT_i, isiT_b, isiT_s, isiT_n, isiT_t, isiT_l, setE, addD_i, subD_i, negD_i, absD_i, ltD_i, leD_i, gtD_i, geD_i, eqD_i, neD_i, eqD_b, neD_b, isD_b, isntD_b, ixT0, ixT1, ixT2, ixT3, truD_b, truD_t, truD_l, lenD_t, lenD_l, notD_b, tupleD_l, tupleD_t, endD_ret, endD_rt, reduceIte, if_true, if_false, Bool.false_eq_true, Bool.not_true, Bool.not_false, decide_true, decide_false, Bool.true_eq, ne_eq])
local macro_rules | `(tactic| walk_at "pvs") => `(tactic| simp only [neD_s, eqD_s, rseq_eq, seqRR_nx, seqRR_rt, seqRR_no, okF_eq, omap_s, omap_n, rif_eq, rret_eq, rset_eq, *, wipe_nil, wipe_cons, sext_eq, sapp_eq, sput_eq, nxE_nx, farsD_n, turnsD_n, insideD_n, fM_eq, netB_n, seqD_d, sdrop_eq, slT_1, slL_1, slS_1, slT_2, slL_2, slS_2, slT_3, slL_3, slS_3, slT_4, slL_4, slS_4, slT_5, slL_5, slS_5, slT_6, slL_6, slS_6, slT_7, slL_7, slS_7, slT_8, slL_8, slS_8, slT_9, slL_9, slS_9, slT_10, slL_10, slS_10, slT_12, slL_12, slS_12, slT_16, slL_16, slS_16, listD_t, listD_l, mulD_r, mulD_l, modD_i, fdivD_i, sseq_eq, seqR_nx, seqR_rt, seqR_ite, endD_ite, bind_ite, sret_eq, sset_eq, sown_eq, sbind_eq, snx_eq, sif_eq, f1_eq, f2_eq, fN_eq, fcons_eq, fnil_eq, kc_eq, tv_eq, tb_eq, boolD_b, tor_eq, tand_eq, tnot_eq, vand_eq, vor_eq, spar_eq, iseq_eq, seqD_l, seqD_t, ienum_eq, enumD_l, enumD_t, irange1_eq, irange2_eq, fch_eq, chL_t, chL_f, fsl_eq, onone_eq, osome_eq, intO_i, sfor_eq, nm_0, nb_0, nbo_0, nm_s, nb_s, obs, obn, ls0, lsS, bindP1, bindT1, bindT2, bindT3, bindT4, tup0, tup1, tup2, tup3, tup4, lst0, lst1, lst2, lst3, lst4, lst5, lst7, lst8, isiD_i, isiD_ib, isiD_is, isiD_in, isiD_it, isiD_il, isiB_i, isiB_b, isiB_s, isiT_i, isiT_b, isiT_s, isiT_n, isiT_t, isiT_l, setE, addD_i, subD_i, negD_i, absD_i, ltD_i, leD_i, gtD_i, geD_i, eqD_i, neD_i, eqD_b, neD_b, isD_b, isntD_b, ixT0, ixT1, ixT2, ixT3, truD_b, truD_t, truD_l, lenD_t, lenD_l, notD_b, tupleD_l, tupleD_t, endD_ret, endD_rt, reduceIte, if_true, if_false, Bool.false_eq_true, Bool.not_true, Bool.not_false, decide_true, decide_false, Bool.true_eq, ne_eq])
local macro_rules | `(tactic| walk_at "pvo") => `(tactic| simp (disch := omega) only [neD_s, eqD_s, rseq_eq, seqRR_nx, seqRR_rt, seqRR_no, okF_eq, omap_s, omap_n, rif_eq, rret_eq, rset_eq, addD_s, lenD_s, strI_i, slD_s, addD_l, addD_t, rng1D_i, rng2D_i, wipe_nil, wipe_cons, sext_eq, sapp_eq, sput_eq, nxE_nx, farsD_n, turnsD_n, insideD_n, fM_eq, netB_n, seqD_d, sdrop_eq, slT_1, slL_1, slS_1, slT_2, slL_2, slS_2, slT_3, slL_3, slS_3, slT_4, slL_4, slS_4, slT_5, slL_5, slS_5, slT_6, slL_6, slS_6, slT_7, slL_7, slS_7, slT_8, slL_8, slS_8, slT_9, slL_9, slS_9, slT_10, slL_10, slS_10, slT_12, slL_12, slS_12, slT_16, slL_16, slS_16, listD_t, listD_l, mulD_r, mulD_l, modD_i, fdivD_i, sseq_eq, seqR_nx, seqR_rt, seqR_ite, endD_ite, bind_ite, sret_eq, sset_eq, sown_eq, sbind_eq, snx_eq, sif_eq, f1_eq, f2_eq, fN_eq, fcons_eq, fnil_eq, kc_eq, tv_eq, tb_eq, boolD_b, tor_eq, tand_eq, tnot_eq, vand_eq, vor_eq, spar_eq, iseq_eq, seqD_l, seqD_t, ienum_eq, enumD_l, enumD_t, irange1_eq, irange2_eq, fch_eq, chL_t, chL_f, fsl_eq, onone_eq, osome_eq, intO_i, sfor_eq, nm_0, nb_0, nbo_0, nm_s, nb_s, obs, obn, ls0, lsS, bindP1, bindT1, bindT2, bindT3, bindT4, tup0, tup1, tup2, tup3, tup4, lst0, lst1, lst2, lst3, lst4, lst5, lst7, lst8, isiD_i, isiD_ib, isiD_is, isiD_in, isiD_it, isiD_il, isiB_i, isiB_b, isiB_s, isiT_i, isiT_b, isiT_s, isiT_n, isiT_t, isiT_l, setE, addD_i, subD_i, negD_i, absD_i, ltD_i, leD_i, gtD_i, geD_i, eqD_i, neD_i, eqD_b, neD_b, isD_b, isntD_b, ixT0, ixT1, ixT2, ixT3, truD_b, truD_t, truD_l, lenD_t, lenD_l, notD_b, tupleD_l, tupleD_t, endD_ret, endD_rt, reduceIte, if_true, if_false, Bool.false_eq_true, Bool.not_true, Bool.not_false, decide_true, decide_false, Bool.true_eq, ne_eq])
/-! ### a piece of a word -/
def twoP (w s : Str) : Option (Str × Str) := match Txt.split w s with
  | [a, b] => some (a, b)
  | _ => none
theorem c_halves_t {w s : Str} (h : Sep s) (hl : w.length < 900) : c_halves [.str w, .str s] = some ((twoP w s).map fun p => .lst [.str p.1, .str p.2]) := by
  rw [st_halves]
  unfold F_halves twoP
  walk_at "pv"
  rw [splitD_t h hl]
  walk_at "pv"
  rw [List.length_map]
  match Txt.split w s with
  | [] => rfl
  | [a] => rfl
  | [a, b] => rfl
  | a :: b :: c :: r =>
    have e : (((a :: b :: c :: r).length : Int) == 2) = false := by simp; omega
    rw [e]
    rfl
theorem twoP_len {w s a b : Str} (h : Sep s) (e : twoP w s = some (a, b)) : a.length ≤ w.length ∧ b.length ≤ w.length := by
  unfold twoP at e
  obtain ⟨_, h2⟩ := split_len (x := w) h
  split at e
  · rename_i x y hs
    cases e
    rw [hs] at h2
    exact ⟨h2 _ List.mem_cons_self, h2 _ (List.mem_cons_of_mem _ List.mem_cons_self)⟩
  · cases e
def pieceP (w : Str) : Option Pc := (twoP w "@").bind fun p => (twoP p.1 "-").bind fun q => (twoP p.2 "+").bind fun r => (wholeP q.1).bind fun i => (wholeP q.2).bind fun o => (wholeP r.1).bind fun b => (wholeP r.2).bind fun wd => some ⟨i, o, b, wd⟩
def rtwoR (is : List Nat) (ρ : Env) : Option D → Option (Option Res)
  | none => some none
  | some (.lst ds) => if ds.length = is.length then some (some (.nx (setE ρ is ds))) else none
  | _ => none
theorem rtwo_eq {is : List Nat} {a : Env → Option (Option D)} {ρ : Env} {r : Option D} (h : a ρ = some r) : rtwo is a ρ = rtwoR is ρ r := by
  have e : rtwo is a ρ = (a ρ).bind (rtwoR is ρ) := by
    show (a ρ).bind _ = _
    congr 1
  rw [e, h]
  rfl
def rconsR (r : Option (Option (List D))) : Option D → Option (Option (List D))
  | none => some none
  | some x => r.bind fun xs => some (xs.map (x :: ·))
theorem rcons_eq {a : Env → Option (Option D)} {r : Env → Option (Option (List D))} {ρ : Env} {x : Option D} (h : a ρ = some x) : rcons a r ρ = rconsR (r ρ) x := by
  have e : rcons a r ρ = (a ρ).bind (rconsR (r ρ)) := by
    show (a ρ).bind _ = _
    congr 1
  rw [e, h]
  rfl
theorem rcall1 {f : RF} {i : Nat} {ρ : Env} {d : D} {r : Option (Option D)} (h : nm i ρ = some d) (e : f [d] = r) : ((fcons (nm i) fnil) ρ).bind f = r := by
  rw [fcons_eq, h]
  exact e
theorem rcall2 {f : RF} {i : Nat} {ρ : Env} {d k : D} {r : Option (Option D)} (h : nm i ρ = some d) (e : f [d, k] = r) : ((fcons (nm i) (fcons (kc k) fnil)) ρ).bind f = r := by
  rw [fcons_eq, h]
  exact e
theorem c_piece_of_t {w : Str} (hl : w.length < 900) : c_piece_of [.str w] = some ((pieceP w).map eQ) := by
  rw [st_piece_of]
  unfold F_piece_of pieceP
  rw [rseq_eq, rtwo_eq (rcall2 rfl (c_halves_t sep_at hl))]
  cases e1 : twoP w "@" with
  | none => rfl
  | some p =>
    obtain ⟨p1, p2⟩ := p
    obtain ⟨l1, l2⟩ := twoP_len sep_at e1
    show endR (rseq _ _ [.sh (.str w), .sh (.str p1), .sh (.str p2), .no, .no, .no, .no]) = _
    rw [rseq_eq, rtwo_eq (rcall2 rfl (c_halves_t sep_mi (by omega)))]
    cases e2 : twoP p1 "-" with
    | none => show _ = some (Option.map eQ ((twoP p1 "-").bind _)); rw [e2]; rfl
    | some q =>
      obtain ⟨q1, q2⟩ := q
      obtain ⟨l3, l4⟩ := twoP_len sep_mi e2
      show endR (rseq _ _ [.sh (.str w), .sh (.str p1), .sh (.str p2), .sh (.str q1), .sh (.str q2), .no, .no]) = some (Option.map eQ ((twoP p1 "-").bind _))
      rw [e2, rseq_eq, rtwo_eq (rcall2 rfl (c_halves_t sep_pl (by omega)))]
      cases e3 : twoP p2 "+" with
      | none => rfl
      | some r =>
        obtain ⟨r1, r2⟩ := r
        obtain ⟨l5, l6⟩ := twoP_len sep_pl e3
        show endR (rret _ [.sh (.str w), .sh (.str p1), .sh (.str p2), .sh (.str q1), .sh (.str q2), .sh (.str r1), .sh (.str r2)]) = _
        rw [rret_eq]
        unfold rtup
        rw [rcons_eq (rcall1 rfl (c_whole_of_t (by omega)))]
        show _ = some (Option.map eQ ((wholeP q1).bind _))
        cases f1 : wholeP q1 with
        | none => rfl
        | some i =>
          show endR ((((rcons _ _ _).bind _).bind _).map _) = some (Option.map eQ ((wholeP q2).bind _))
          rw [rcons_eq (rcall1 rfl (c_whole_of_t (by omega)))]
          cases f2 : wholeP q2 with
          | none => rfl
          | some o =>
            show endR (((((rcons _ _ _).bind _).bind _).bind _).map _) = some (Option.map eQ ((wholeP r1).bind _))
            rw [rcons_eq (rcall1 rfl (c_whole_of_t (by omega)))]
            cases f3 : wholeP r1 with
            | none => rfl
            | some b =>
              show endR ((((((rcons _ _ _).bind _).bind _).bind _).bind _).map _) = some (Option.map eQ ((wholeP r2).bind _))
              rw [rcons_eq (rcall1 rfl (c_whole_of_t (by omega)))]
              cases f4 : wholeP r2 with
              | none => rfl
              | some wd => rfl
end Pv
set_option Elab.async false
set_option linter.all false
set_option maxRecDepth 100000
set_option maxHeartbeats 4000000
set_option autoImplicit false
namespace Pv
open PySem PySem.Spec PyProof.Rows L2
local macro_rules | `(tactic| walk_at "pv") => `(tactic| simp only [neD_s, eqD_s, rseq_eq, seqRR_nx, seqRR_rt, seqRR_no, okF_eq, omap_s, omap_n, rif_eq, rret_eq, rset_eq, wipe_nil, wipe_cons, sext_eq, sapp_eq, sput_eq, nxE_nx, farsD_n, turnsD_n, insideD_n, fM_eq, netB_n, seqD_d, sdrop_eq, slT_1, slL_1, slS_1, slT_2, slL_2, slS_2, slT_3, slL_3, slS_3, slT_4, slL_4, slS_4, slT_5, slL_5, slS_5, slT_6, slL_6, slS_6, slT_7, slL_7, slS_7, slT_8, slL_8, slS_8, slT_9, slL_9, slS_9, slT_10, slL_10, slS_10, slT_12, slL_12, slS_12, slT_16, slL_16, slS_16, listD_t, listD_l, sseq_eq, seqR_nx, seqR_rt, seqR_ite, endD_ite, bind_ite, sret_eq, sset_eq, sown_eq, sbind_eq, snx_eq, sif_eq, f1_eq, f2_eq, fN_eq, fcons_eq, fnil_eq, kc_eq, tv_eq, tb_eq, boolD_b, tor_eq, tand_eq, tnot_eq, vand_eq, vor_eq, spar_eq, iseq_eq, seqD_l, seqD_t, ienum_eq, enumD_l, enumD_t, irange1_eq, irange2_eq, fch_eq, chL_t, chL_f, fsl_eq, onone_eq, osome_eq, intO_i, sfor_eq, nm_0, nb_0, nbo_0, nm_s, nb_s, obs, obn, ls0, lsS, bindP1, bindT1, bindT2, bindT3, bindT4, tup0, tup1, tup2, tup3, tup4, lst0, lst1, lst2, lst3, lst4, lst5, lst7, lst8, isiD_i, isiD_ib, isiD_is, isiD_in, isiD_it, isiD_il, isiB_i, isiB_b, isiB_s, isiT_i, isiT_b, isiT_s, isiT_n, isiT_t, isiT_l, setE, addD_i, subD_i, negD_i, absD_i, ltD_i, leD_i, gtD_i, geD_i, eqD_i, neD_i, eqD_b, neD_b, isD_b, isntD_b, ixT0, ixT1, ixT2, ixT3, truD_b, truD_t, truD_l, lenD_t, lenD_l, notD_b, tupleD_l, tupleD_t, endD_ret, endD_rt, reduceIte, if_true, if_false, Bool.false_eq_true, Bool.not_true, Bool.not_false, decide_true, decide_false, Bool.true_eq, ne_eq])
local macro_rules | `(tactic| walk_at "pvs") => `(tactic| simp only [neD_s, eqD_s, rseq_eq, seqRR_nx, seqRR_rt, seqRR_no, okF_eq, omap_s, omap_n, rif_eq, rret_eq, rset_eq, *, wipe_nil, wipe_cons, sext_eq, sapp_eq, sput_eq, nxE_nx, farsD_n, turnsD_n, insideD_n, fM_eq, netB_n, seqD_d, sdrop_eq, slT_1, slL_1, slS_1, slT_2, slL_2, slS_2, slT_3, slL_3, slS_3, slT_4, slL_4, slS_4, slT_5, slL_5, slS_5, slT_6, slL_6, slS_6, slT_7, slL_7, slS_7, slT_8, slL_8, slS_8, slT_9, slL_9, slS_9, slT_10, slL_10, slS_10, slT_12, slL_12, slS_12, slT_16, slL_16, slS_16, listD_t, listD_l, mulD_r, mulD_l, modD_i, fdivD_i, sseq_eq, seqR_nx, seqR_rt, seqR_ite, endD_ite, bind_ite, sret_eq, sset_eq, sown_eq, sbind_eq, snx_eq, sif_eq, f1_eq, f2_eq, fN_eq, fcons_eq, fnil_eq, kc_eq, tv_eq, tb_eq, boolD_b, tor_eq, tand_eq, tnot_eq, vand_eq, vor_eq, spar_eq, iseq_eq, seqD_l, seqD_t, ienum_eq, enumD_l, enumD_t, irange1_eq, irange2_eq, fch_eq, chL_t, chL_f, fsl_eq, onone_eq, osome_eq, intO_i, sfor_eq, nm_0, nb_0, nbo_0, nm_s, nb_s, obs, obn, ls0, lsS, bindP1, bindT1, bindT2, bindT3, bindT4, tup0, tup1, tup2, tup3, tup4, lst0, lst1, lst2, lst3, lst4, lst5, lst7, lst8, isiD_i, isiD_ib, isiD_is, isiD_in, isiD_it, isiD_il, isiB_i, isiB_b, isiB_s, isiT_i, isiT_b, isiT_s, isiT_n, isiT_t, isiT_l, setE, addD_i, subD_i, negD_i, absD_i, ltD_i, leD_i, gtD_i, geD_i, eqD_i, neD_i, eqD_b, neD_b, isD_b, isntD_b, ixT0, ixT1, ixT2, ixT3, truD_b, truD_t, truD_l, lenD_t, lenD_l, notD_b, tupleD_l, tupleD_t, endD_ret, endD_rt, reduceIte, if_true, if_false, Bool.false_eq_true, Bool.not_true, Bool.not_false, decide_true, decide_false, Bool.true_eq, ne_eq])
local macro_rules | `(tactic| walk_at "pvo") => `(tactic| simp (disch := omega) only [neD_s, eqD_s, rseq_eq, seqRR_nx, seqRR_rt, seqRR_no, okF_eq, omap_s, omap_n, rif_eq, rret_eq, rset_eq, addD_s, lenD_s, strI_i, slD_s, addD_l, addD_t, rng1D_i, rng2D_i, wipe_nil, wipe_cons, sext_eq, sapp_eq, sput_eq, nxE_nx, farsD_n, turnsD_n, insideD_n, fM_eq, netB_n, seqD_d, sdrop_eq, slT_1, slL_1, slS_1, slT_2, slL_2, slS_2, slT_3, slL_3, slS_3, slT_4, slL_4, slS_4, slT_5, slL_5, slS_5, slT_6, slL_6, slS_6, slT_7, slL_7, slS_7, slT_8, slL_8, slS_8, slT_9, slL_9, slS_9, slT_10, slL_10, slS_10, slT_12, slL_12, slS_12, slT_16, slL_16, slS_16, listD_t, listD_l, mulD_r, mulD_l, modD_i, fdivD_i, sseq_eq, seqR_nx, seqR_rt, seqR_ite, endD_ite, bind_ite, sret_eq, sset_eq, sown_eq, sbind_eq, snx_eq, sif_eq, f1_eq, f2_eq, fN_eq, fcons_eq, fnil_eq, kc_eq, tv_eq, tb_eq, boolD_b, tor_eq, tand_eq, tnot_eq, vand_eq, vor_eq, spar_eq, iseq_eq, seqD_l, seqD_t, ienum_eq, enumD_l, enumD_t, irange1_eq, irange2_eq, fch_eq, chL_t, chL_f, fsl_eq, onone_eq, osome_eq, intO_i, sfor_eq, nm_0, nb_0, nbo_0, nm_s, nb_s, obs, obn, ls0, lsS, bindP1, bindT1, bindT2, bindT3, bindT4, tup0, tup1, tup2, tup3, tup4, lst0, lst1, lst2, lst3, lst4, lst5, lst7, lst8, isiD_i, isiD_ib, isiD_is, isiD_in, isiD_it, isiD_il, isiB_i, isiB_b, isiB_s, isiT_i, isiT_b, isiT_s, isiT_n, isiT_t, isiT_l, setE, addD_i, subD_i, negD_i, absD_i, ltD_i, leD_i, gtD_i, geD_i, eqD_i, neD_i, eqD_b, neD_b, isD_b, isntD_b, ixT0, ixT1, ixT2, ixT3, truD_b, truD_t, truD_l, lenD_t, lenD_l, notD_b, tupleD_l, tupleD_t, endD_ret, endD_rt, reduceIte, if_true, if_false, Bool.false_eq_true, Bool.not_true, Bool.not_false, decide_true, decide_false, Bool.true_eq, ne_eq])
/-! ### reading -/
def allP : List Str → Option (List Pc)
  | [] => some []
  | w :: ws => (pieceP w).bind fun q => (allP ws).bind fun qs => some (q :: qs)
def foundP (t : Str) : Option (List Pc) := if t = "none" then some [] else allP (Txt.split t " ")
def sheetP (s : List Pc) : Bool := decide (s.length ≤ 8) && s.all fun q => (decide (0 ≤ q.i) && decide (q.i ≤ 998)) && ((decide (q.i + 1 ≤ q.o) && decide (q.o ≤ 999)) && ((decide (0 ≤ q.b) && decide (q.b ≤ 23)) && (decide (1 ≤ q.w) && decide (q.w ≤ 24))))
theorem sheetP_eq (s : List Pc) : sheetB (eS s) = sheetP s := by
  unfold sheetB eS sheetP
  show (decide ((s.map eQ).length ≤ 8) && (s.map eQ).all pieceB) = _
  rw [List.length_map, List.all_map]
  rfl
theorem sheetP_ok {s : List Pc} (h : sheetP s = true) : s.length ≤ 8 ∧ ∀ q ∈ s, q.Ok 999 := by
  unfold sheetP at h
  simp only [Bool.and_eq_true, decide_eq_true_eq, List.all_eq_true] at h
  refine ⟨h.1, fun q hq => ?_⟩
  obtain ⟨⟨a, b⟩, ⟨c, d⟩, ⟨e, f⟩, g, i⟩ := h.2 q hq
  exact ⟨by omega, by omega, by omega, by omega, by omega, by omega, by omega⟩
theorem ok_sheetP {s : List Pc} (h : ∀ q ∈ s, q.Ok 999) (hl : s.length ≤ 8) : sheetP s = true := by
  unfold sheetP
  simp only [Bool.and_eq_true, decide_eq_true_eq, List.all_eq_true]
  refine ⟨hl, fun q hq => ?_⟩
  have hq := h q hq
  have a0 := hq.i0; have a1 := hq.io; have a2 := hq.om; have a3 := hq.b0; have a4 := hq.b1; have a5 := hq.w0; have a6 := hq.w1
  exact ⟨⟨a0, by omega⟩, ⟨by omega, a2⟩, ⟨a3, by omega⟩, by omega, a6⟩
def readP (t : Str) : Option (List Pc) := (foundP t).bind fun ps => if sheetP ps = true then (if textS ps = t then some ps else none) else none
theorem allP_len : ∀ {ws : List Str} {ps : List Pc}, allP ws = some ps → ps.length = ws.length
  | [], ps, h => by cases h; rfl
  | w :: ws, ps, h => by
    obtain ⟨q, _, h⟩ := Option.bind_eq_some_iff.mp h
    obtain ⟨qs, e, h⟩ := Option.bind_eq_some_iff.mp h
    cases h
    rw [List.length_cons, List.length_cons, allP_len e]
theorem c_is_sheet_s {s : List Pc} (hl : s.length < 1000) : c_is_sheet [eS s] = some (.bl (sheetP s)) := by
  rw [← sheetP_eq]
  exact c_is_sheet_t (by
    rw [List.all_eq_true]
    intro x hx
    obtain ⟨q, _, rfl⟩ := List.mem_map.mp hx
    rfl) (by rw [List.length_map]; exact hl)
theorem lcGoR_t {X Y : D} : ∀ {ws : List Str}, (∀ w ∈ ws, w.length < 900) → lcGoR (.one 2) (fun ρ => ((fcons (nm 2) fnil) ρ).bind c_piece_of) [.sh X, .sh Y, .no] (ws.map D.str) = some ((allP ws).map fun ps => ps.map eQ)
  | [], _ => rfl
  | w :: ws, h => by
    have ih := lcGoR_t (X := X) (Y := Y) (ws := ws) fun x hx => h x (List.mem_cons_of_mem _ hx)
    have e := c_piece_of_t (h w List.mem_cons_self)
    have e1 : lcGoR (.one 2) (fun ρ => ((fcons (nm 2) fnil) ρ).bind c_piece_of) [.sh X, .sh Y, .no] ((w :: ws).map D.str) = (c_piece_of [.str w]).bind fun y => match y with
      | none => some none
      | some y => (lcGoR (.one 2) (fun ρ => ((fcons (nm 2) fnil) ρ).bind c_piece_of) [.sh X, .sh Y, .no] (ws.map D.str)).bind fun ys => some (ys.map (y :: ·)) := rfl
    rw [e1, e, ih]
    show _ = some (((pieceP w).bind _).map _)
    cases pieceP w with
    | none => rfl
    | some q =>
      show _ = some (((allP ws).bind _).map _)
      cases allP ws <;> rfl
theorem lcR_eq {vs : List Nat} {I : Env → Option (List D)} {p : Pat} {E : Env → Option (Option D)} {ρ : Env} {items : List D} {out : Option (List D)} (h1 : I ρ = some items) (h2 : lcGoR p E (wipeE ρ vs) items = some out) (h3 : items.length < big) : lcR vs I p E ρ = some (out.map .tup) := by
  unfold lcR
  rw [h1, Option.bind_some, h2, Option.bind_some, if_pos h3]
/-- behind the reading of the words -/
noncomputable def read2 : Env → Option (Option Res) := rseq (rif (tor (tnot (tv (fN c_is_sheet (fcons (nm 1) fnil)))) (tb (f2 neD (fN c_written (fcons (nm 1) fnil)) (nb 0)))) (fun _ => some none) (okF snx)) (okF (sret (nm 1)))
theorem read2_t {t : Str} {ps : List Pc} {x : Sl} (hl : ps.length < 1000) : endR (read2 [.sh (.str t), .sh (eS ps), x]) = some ((if sheetP ps = true then (if textS ps = t then some ps else none) else none : Option (List Pc)).map eS) := by
  unfold read2
  walk_at "pv"
  rw [c_is_sheet_s hl]
  cases hs : sheetP ps with
  | false => rfl
  | true =>
    obtain ⟨h1, h2⟩ := sheetP_ok hs
    walk_at "pv"
    rw [c_written_t h2 h1]
    walk_at "pv"
    by_cases ht : textS ps = t
    · rw [decide_eq_true ht, if_pos ht]; rfl
    · rw [decide_eq_false ht, if_neg ht]; rfl
theorem c_read_t {t : Str} (hl : t.length < 900) : c_read [.str t] = some ((readP t).map eS) := by
  rw [st_read]
  have e0 : F_read = rseq (okF (sset 1 (fN tupD fnil))) (rseq (rif (tb (f2 neD (nb 0) (kc (.str "none")))) (rset 1 (lcR [2] (iseq (f2 splitD (nb 0) (kc (.str " ")))) (.one 2) (fun ρ => ((fcons (nm 2) fnil) ρ).bind c_piece_of))) (okF snx)) read2) := rfl
  rw [e0]
  unfold readP foundP
  walk_at "pv"
  by_cases ht : t = "none"
  · rw [decide_eq_true ht, if_pos ht]
    show endR (read2 [.sh (.str t), .sh (eS []), .no]) = _
    rw [read2_t (by decide)]
  · rw [decide_eq_false ht, if_neg ht]
    obtain ⟨l1, l2⟩ := split_len (x := t) sep_sp
    have e := lcR_eq (vs := [2]) (I := iseq (f2 splitD (nb 0) (kc (.str " ")))) (p := .one 2) (E := fun ρ => ((fcons (nm 2) fnil) ρ).bind c_piece_of) (ρ := [.sh (.str t), .sh (.tup []), .no]) (items := (Txt.split t " ").map D.str) (out := (allP (Txt.split t " ")).map fun ps => ps.map eQ) (by
      walk_at "pv"
      rw [splitD_t sep_sp hl]
      rfl) (by
        show lcGoR _ _ [.sh (.str t), .sh (.tup []), .no] _ = _
        exact lcGoR_t fun w hw => Nat.lt_of_le_of_lt (l2 w hw) hl) (by rw [List.length_map]; unfold big; omega)
    show endR (seqRR ((lcR [2] (iseq (f2 splitD (nb 0) (kc (.str " ")))) (.one 2) (fun ρ => ((fcons (nm 2) fnil) ρ).bind c_piece_of) [.sh (.str t), .sh (.tup []), .no]).map _) _) = _
    rw [e]
    cases ea : allP (Txt.split t " ") with
    | none => rfl
    | some ps =>
      show endR (read2 [.sh (.str t), .sh (eS ps), .no]) = _
      rw [read2_t (by rw [allP_len ea]; omega)]
      rfl
end Pv
set_option Elab.async false
set_option linter.all false
set_option maxRecDepth 100000
set_option maxHeartbeats 4000000
set_option autoImplicit false
namespace Pv
open PySem PySem.Spec PyProof.Rows L2
local macro_rules | `(tactic| walk_at "pv") => `(tactic| simp only [neD_s, eqD_s, rseq_eq, seqRR_nx, seqRR_rt, seqRR_no, okF_eq, omap_s, omap_n, rif_eq, rret_eq, rset_eq, wipe_nil, wipe_cons, sext_eq, sapp_eq, sput_eq, nxE_nx, farsD_n, turnsD_n, insideD_n, fM_eq, netB_n, seqD_d, sdrop_eq, slT_1, slL_1, slS_1, slT_2, slL_2, slS_2, slT_3, slL_3, slS_3, slT_4, slL_4, slS_4, slT_5, slL_5, slS_5, slT_6, slL_6, slS_6, slT_7, slL_7, slS_7, slT_8, slL_8, slS_8, slT_9, slL_9, slS_9, slT_10, slL_10, slS_10, slT_12, slL_12, slS_12, slT_16, slL_16, slS_16, listD_t, listD_l, sseq_eq, seqR_nx, seqR_rt, seqR_ite, endD_ite, bind_ite, sret_eq, sset_eq, sown_eq, sbind_eq, snx_eq, sif_eq, f1_eq, f2_eq, fN_eq, fcons_eq, fnil_eq, kc_eq, tv_eq, tb_eq, boolD_b, tor_eq, tand_eq, tnot_eq, vand_eq, vor_eq, spar_eq, iseq_eq, seqD_l, seqD_t, ienum_eq, enumD_l, enumD_t, irange1_eq, irange2_eq, fch_eq, chL_t, chL_f, fsl_eq, onone_eq, osome_eq, intO_i, sfor_eq, nm_0, nb_0, nbo_0, nm_s, nb_s, obs, obn, ls0, lsS, bindP1, bindT1, bindT2, bindT3, bindT4, tup0, tup1, tup2, tup3, tup4, lst0, lst1, lst2, lst3, lst4, lst5, lst7, lst8, isiD_i, isiD_ib, isiD_is, isiD_in, isiD_it, isiD_il, isiB_i, isiB_b, isiB_s, isiT_i, isiT_b, isiT_s, isiT_n, isiT_t, isiT_l, setE, addD_i, subD_i, negD_i, absD_i, ltD_i, leD_i, gtD_i, geD_i, eqD_i, neD_i, eqD_b, neD_b, isD_b, isntD_b, ixT0, ixT1, ixT2, ixT3, truD_b, truD_t, truD_l, lenD_t, lenD_l, notD_b, tupleD_l, tupleD_t, endD_ret, endD_rt, reduceIte, if_true, if_false, Bool.false_eq_true, Bool.not_true, Bool.not_false, decide_true, decide_false, Bool.true_eq, ne_eq])
local macro_rules | `(tactic| walk_at "pvs") => `(tactic| simp only [neD_s, eqD_s, rseq_eq, seqRR_nx, seqRR_rt, seqRR_no, okF_eq, omap_s, omap_n, rif_eq, rret_eq, rset_eq, *, wipe_nil, wipe_cons, sext_eq, sapp_eq, sput_eq, nxE_nx, farsD_n, turnsD_n, insideD_n, fM_eq, netB_n, seqD_d, sdrop_eq, slT_1, slL_1, slS_1, slT_2, slL_2, slS_2, slT_3, slL_3, slS_3, slT_4, slL_4, slS_4, slT_5, slL_5, slS_5, slT_6, slL_6, slS_6, slT_7, slL_7, slS_7, slT_8, slL_8, slS_8, slT_9, slL_9, slS_9, slT_10, slL_10, slS_10, slT_12, slL_12, slS_12, slT_16, slL_16, slS_16, listD_t, listD_l, mulD_r, mulD_l, modD_i, fdivD_i, sseq_eq, seqR_nx, seqR_rt, seqR_ite, endD_ite, bind_ite, sret_eq, sset_eq, sown_eq, sbind_eq, snx_eq, sif_eq, f1_eq, f2_eq, fN_eq, fcons_eq, fnil_eq, kc_eq, tv_eq, tb_eq, boolD_b, tor_eq, tand_eq, tnot_eq, vand_eq, vor_eq, spar_eq, iseq_eq, seqD_l, seqD_t, ienum_eq, enumD_l, enumD_t, irange1_eq, irange2_eq, fch_eq, chL_t, chL_f, fsl_eq, onone_eq, osome_eq, intO_i, sfor_eq, nm_0, nb_0, nbo_0, nm_s, nb_s, obs, obn, ls0, lsS, bindP1, bindT1, bindT2, bindT3, bindT4, tup0, tup1, tup2, tup3, tup4, lst0, lst1, lst2, lst3, lst4, lst5, lst7, lst8, isiD_i, isiD_ib, isiD_is, isiD_in, isiD_it, isiD_il, isiB_i, isiB_b, isiB_s, isiT_i, isiT_b, isiT_s, isiT_n, isiT_t, isiT_l, setE, addD_i, subD_i, negD_i, absD_i, ltD_i, leD_i, gtD_i, geD_i, eqD_i, neD_i, eqD_b, neD_b, isD_b, isntD_b, ixT0, ixT1, ixT2, ixT3, truD_b, truD_t, truD_l, lenD_t, lenD_l, notD_b, tupleD_l, tupleD_t, endD_ret, endD_rt, reduceIte, if_true, if_false, Bool.false_eq_true, Bool.not_true, Bool.not_false, decide_true, decide_false, Bool.true_eq, ne_eq])
local macro_rules | `(tactic| walk_at "pvo") => `(tactic| simp (disch := omega) only [neD_s, eqD_s, rseq_eq, seqRR_nx, seqRR_rt, seqRR_no, okF_eq, omap_s, omap_n, rif_eq, rret_eq, rset_eq, addD_s, lenD_s, strI_i, slD_s, addD_l, addD_t, rng1D_i, rng2D_i, wipe_nil, wipe_cons, sext_eq, sapp_eq, sput_eq, nxE_nx, farsD_n, turnsD_n, insideD_n, fM_eq, netB_n, seqD_d, sdrop_eq, slT_1, slL_1, slS_1, slT_2, slL_2, slS_2, slT_3, slL_3, slS_3, slT_4, slL_4, slS_4, slT_5, slL_5, slS_5, slT_6, slL_6, slS_6, slT_7, slL_7, slS_7, slT_8, slL_8, slS_8, slT_9, slL_9, slS_9, slT_10, slL_10, slS_10, slT_12, slL_12, slS_12, slT_16, slL_16, slS_16, listD_t, listD_l, mulD_r, mulD_l, modD_i, fdivD_i, sseq_eq, seqR_nx, seqR_rt, seqR_ite, endD_ite, bind_ite, sret_eq, sset_eq, sown_eq, sbind_eq, snx_eq, sif_eq, f1_eq, f2_eq, fN_eq, fcons_eq, fnil_eq, kc_eq, tv_eq, tb_eq, boolD_b, tor_eq, tand_eq, tnot_eq, vand_eq, vor_eq, spar_eq, iseq_eq, seqD_l, seqD_t, ienum_eq, enumD_l, enumD_t, irange1_eq, irange2_eq, fch_eq, chL_t, chL_f, fsl_eq, onone_eq, osome_eq, intO_i, sfor_eq, nm_0, nb_0, nbo_0, nm_s, nb_s, obs, obn, ls0, lsS, bindP1, bindT1, bindT2, bindT3, bindT4, tup0, tup1, tup2, tup3, tup4, lst0, lst1, lst2, lst3, lst4, lst5, lst7, lst8, isiD_i, isiD_ib, isiD_is, isiD_in, isiD_it, isiD_il, isiB_i, isiB_b, isiB_s, isiT_i, isiT_b, isiT_s, isiT_n, isiT_t, isiT_l, setE, addD_i, subD_i, negD_i, absD_i, ltD_i, leD_i, gtD_i, geD_i, eqD_i, neD_i, eqD_b, neD_b, isD_b, isntD_b, ixT0, ixT1, ixT2, ixT3, truD_b, truD_t, truD_l, lenD_t, lenD_l, notD_b, tupleD_l, tupleD_t, endD_ret, endD_rt, reduceIte, if_true, if_false, Bool.false_eq_true, Bool.not_true, Bool.not_false, decide_true, decide_false, Bool.true_eq, ne_eq])
/-! ### what is written is read -/
theorem numS_free {i : Int} {s : Nat} (h0 : 0 ≤ i) (h : s < 48 ∨ 57 < s) : s ∉ TL.tl (numS i) := by
  obtain ⟨n, rfl⟩ := Int.ex_nat h0
  rw [tl_numS]
  exact TL.numL_free h
theorem tl_mi : TL.tl ("-" : Str) = [45] := by decide +kernel
theorem tl_at : TL.tl ("@" : Str) = [64] := by decide +kernel
theorem tl_pl : TL.tl ("+" : Str) = [43] := by decide +kernel
theorem tl_sp : TL.tl (" " : Str) = [32] := by decide +kernel
theorem twoP_join {a b y : Str} {s : Nat} (hs : Sep y) (ey : TL.tl y = [s]) (ha : s ∉ TL.tl a) (hb : s ∉ TL.tl b) : twoP (a ++ y ++ b) y = some (a, b) := by
  have e : Txt.join y [a, b] = a ++ y ++ b := TL.join_eq y [a, b]
  have z := TL.split_join (y := y) ey hs.k (parts := [a, b]) (by simp) (fun p hp => by
    rcases List.mem_cons.mp hp with rfl | hp
    · exact ha
    · rw [List.mem_singleton.mp hp]; exact hb)
  rw [e] at z
  unfold twoP
  rw [z]
theorem str_assoc (a b c : Str) : a ++ b ++ c = a ++ (b ++ c) := TL.ext_tl (by simp only [TL.tl_append, List.append_assoc])
theorem wholeP_num {i : Int} (h0 : 0 ≤ i) (h1 : i < 1000) : wholeP (numS i) = some i := by
  have hl := numS_len h0 h1
  obtain ⟨n, rfl⟩ := Int.ex_nat h0
  have e : (numS (n : Int)).cps.toList = TL.numL n := tl_numS
  have hw : wholeB (numS (n : Int)) = true := by
    unfold wholeB
    simp only [Bool.and_eq_true, decide_eq_true_eq, List.all_eq_true]
    refine ⟨⟨?_, hl⟩, fun c hc => ?_⟩
    · have hn := TL.numL_ne n
      have hl2 : (numS (n : Int)).length = (TL.numL n).length := by rw [TL.len_tl, tl_numS]
      rw [hl2]
      cases h : TL.numL n with
      | nil => exact absurd h hn
      | cons _ _ => simp
    · rw [e] at hc
      exact TL.numL_digits n c hc
  unfold wholeP
  rw [if_pos hw, e, TL.numL_val]
theorem pieceP_word {q : Pc} (hq : q.Ok 999) : pieceP (wordS q) = some q := by
  have a0 := hq.i0; have a1 := hq.io; have a2 := hq.om; have a3 := hq.b0; have a4 := hq.b1; have a5 := hq.w0; have a6 := hq.w1
  have fr : ∀ {a b y : Str} {s : Nat}, s ∉ TL.tl a → s ∉ TL.tl y → s ∉ TL.tl b → s ∉ TL.tl (a ++ y ++ b) := fun {a b y s} h1 h2 h3 => by
    rw [TL.tl_append, TL.tl_append]
    simp only [List.mem_append, not_or]
    exact ⟨⟨h1, h2⟩, h3⟩
  have e : wordS q = (numS q.i ++ "-" ++ numS q.o) ++ "@" ++ (numS q.b ++ "+" ++ numS q.w) := by
    unfold wordS
    simp only [str_assoc]
  unfold pieceP
  rw [e, twoP_join sep_at tl_at (fr (numS_free a0 (by omega)) (by rw [tl_mi]; decide) (numS_free (by omega) (by omega))) (fr (numS_free a3 (by omega)) (by rw [tl_pl]; decide) (numS_free (by omega) (by omega)))]
  show (twoP (numS q.i ++ "-" ++ numS q.o) "-").bind _ = _
  rw [twoP_join sep_mi tl_mi (numS_free a0 (by omega)) (numS_free (by omega) (by omega))]
  show (twoP (numS q.b ++ "+" ++ numS q.w) "+").bind _ = _
  rw [twoP_join sep_pl tl_pl (numS_free a3 (by omega)) (numS_free (by omega) (by omega))]
  show (wholeP (numS q.i)).bind _ = _
  rw [wholeP_num a0 (by omega)]
  show (wholeP (numS q.o)).bind _ = _
  rw [wholeP_num (by omega) (by omega)]
  show (wholeP (numS q.b)).bind _ = _
  rw [wholeP_num a3 (by omega)]
  show (wholeP (numS q.w)).bind _ = _
  rw [wholeP_num (by omega) (by omega)]
  rfl
theorem word_free {q : Pc} (hq : q.Ok 999) : 32 ∉ TL.tl (wordS q) := by
  have a0 := hq.i0; have a1 := hq.io; have a2 := hq.om; have a3 := hq.b0; have a4 := hq.b1; have a5 := hq.w0; have a6 := hq.w1
  unfold wordS
  simp only [TL.tl_append, tl_mi, tl_at, tl_pl, List.mem_append, not_or]
  exact ⟨⟨⟨⟨⟨⟨numS_free a0 (by omega), by decide⟩, numS_free (by omega) (by omega)⟩, by decide⟩, numS_free a3 (by omega)⟩, by decide⟩, numS_free (by omega) (by omega)⟩
theorem allP_words : ∀ {s : List Pc}, (∀ q ∈ s, q.Ok 999) → allP (s.map wordS) = some s
  | [], _ => rfl
  | q :: s, h => by
    show (pieceP (wordS q)).bind _ = _
    rw [pieceP_word (h q List.mem_cons_self)]
    show (allP (s.map wordS)).bind _ = _
    rw [allP_words fun x hx => h x (List.mem_cons_of_mem _ hx)]
    rfl
theorem split_text {s : List Pc} (hs : s ≠ []) (h : ∀ q ∈ s, q.Ok 999) : Txt.split (textS s) " " = s.map wordS := by
  unfold textS
  rw [if_neg hs]
  refine TL.split_join tl_sp sep_sp.k (by simpa using hs) fun p hp => ?_
  obtain ⟨q, hq, rfl⟩ := List.mem_map.mp hp
  exact word_free (h q hq)
theorem split_none : Txt.split "none" " " = ([("none" : Str)] : List Str) := by decide +kernel
theorem read_text {s : List Pc} (h : ∀ q ∈ s, q.Ok 999) (hl : s.length ≤ 8) : readP (textS s) = some s := by
  have hf : foundP (textS s) = some s := by
    unfold foundP
    by_cases hs : s = []
    · subst hs; rfl
    · rw [if_neg, split_text hs h, allP_words h]
      intro z
      have e := split_text hs h
      rw [z, split_none] at e
      cases s with
      | nil => exact hs rfl
      | cons q s =>
        have e1 : ("none" : Str) = wordS q := (List.cons.inj e).1
        have m : 45 ∈ TL.tl (wordS q) := by
          unfold wordS
          simp only [TL.tl_append, tl_mi, List.mem_append]
          exact .inl (.inl (.inl (.inl (.inl (.inr (by decide))))))
        rw [← e1] at m
        exact absurd m (by decide +kernel)
  unfold readP
  rw [hf]
  show (if sheetP s = true then _ else _) = _
  rw [if_pos (ok_sheetP h hl), if_pos rfl]
theorem read_is {t : Str} {s : List Pc} (h : readP t = some s) : s.length ≤ 8 ∧ (∀ q ∈ s, q.Ok 999) ∧ textS s = t := by
  unfold readP at h
  obtain ⟨ps, _, h⟩ := Option.bind_eq_some_iff.mp h
  split at h
  · rename_i h1
    split at h
    · rename_i h2
      cases h
      obtain ⟨a, b⟩ := sheetP_ok h1
      exact ⟨a, b, h2⟩
    · cases h
  · cases h
theorem text_len {s : List Pc} (h : ∀ q ∈ s, q.Ok 999) (hl : s.length ≤ 8) : (textS s).length ≤ 130 := by
  unfold textS
  split
  · decide +kernel
  · have e := sum_len h
    have z : ∀ ys : List Str, (Txt.join " " ys).length ≤ (ys.map (·.length)).sum + ys.length := fun ys => by
      rw [TL.join_eq]
      induction ys with
      | nil => exact Nat.zero_le _
      | cons y ys ih =>
        cases ys with
        | nil => show y.length ≤ _; simp
        | cons y2 ys =>
          show (y ++ " " ++ Str.join " " (y2 :: ys)).length ≤ _
          rw [app_len, app_len, sp_len]
          simp only [List.map_cons, List.sum_cons, List.length_cons] at ih ⊢
          omega
    have z1 := z (s.map wordS)
    rw [List.length_map] at z1
    omega
/-! ### the fixed texts -/
theorem bad_all : (["", " ", "none ", "none none", "0-1@0", "0-1@0+24 ", " 0-1@0+24", "0-1@00+24", "1-1@0+24", "0-1@24+1", "0-1+0@24", "0-1@0+24  0-1@0+24", "0-1@0+24 none", "-1-1@0+24"] : List Str).all (fun t => (readP t).isNone) = true := by decide +kernel
theorem good_1 : (readP "0-999@23+24").map (fun s => s.map fun q => (q.i, q.o, q.b, q.w)) = some [(0, 999, 23, 24)] := by decide +kernel
end Pv
set_option Elab.async false
set_option linter.all false
set_option maxRecDepth 100000
set_option maxHeartbeats 4000000
set_option autoImplicit false
namespace Pv
open PySem PySem.Spec PyProof.Rows L2
local macro_rules | `(tactic| walk_at "pv") => `(tactic| simp only [neD_s, eqD_s, rseq_eq, seqRR_nx, seqRR_rt, seqRR_no, okF_eq, omap_s, omap_n, rif_eq, rret_eq, rset_eq, wipe_nil, wipe_cons, sext_eq, sapp_eq, sput_eq, nxE_nx, farsD_n, turnsD_n, insideD_n, fM_eq, netB_n, seqD_d, sdrop_eq, slT_1, slL_1, slS_1, slT_2, slL_2, slS_2, slT_3, slL_3, slS_3, slT_4, slL_4, slS_4, slT_5, slL_5, slS_5, slT_6, slL_6, slS_6, slT_7, slL_7, slS_7, slT_8, slL_8, slS_8, slT_9, slL_9, slS_9, slT_10, slL_10, slS_10, slT_12, slL_12, slS_12, slT_16, slL_16, slS_16, listD_t, listD_l, sseq_eq, seqR_nx, seqR_rt, seqR_ite, endD_ite, bind_ite, sret_eq, sset_eq, sown_eq, sbind_eq, snx_eq, sif_eq, f1_eq, f2_eq, fN_eq, fcons_eq, fnil_eq, kc_eq, tv_eq, tb_eq, boolD_b, tor_eq, tand_eq, tnot_eq, vand_eq, vor_eq, spar_eq, iseq_eq, seqD_l, seqD_t, ienum_eq, enumD_l, enumD_t, irange1_eq, irange2_eq, fch_eq, chL_t, chL_f, fsl_eq, onone_eq, osome_eq, intO_i, sfor_eq, nm_0, nb_0, nbo_0, nm_s, nb_s, obs, obn, ls0, lsS, bindP1, bindT1, bindT2, bindT3, bindT4, tup0, tup1, tup2, tup3, tup4, lst0, lst1, lst2, lst3, lst4, lst5, lst7, lst8, isiD_i, isiD_ib, isiD_is, isiD_in, isiD_it, isiD_il, isiB_i, isiB_b, isiB_s, isiT_i, isiT_b, isiT_s, isiT_n, isiT_t, isiT_l, setE, addD_i, subD_i, negD_i, absD_i, ltD_i, leD_i, gtD_i, geD_i, eqD_i, neD_i, eqD_b, neD_b, isD_b, isntD_b, ixT0, ixT1, ixT2, ixT3, truD_b, truD_t, truD_l, lenD_t, lenD_l, notD_b, tupleD_l, tupleD_t, endD_ret, endD_rt, reduceIte, if_true, if_false, Bool.false_eq_true, Bool.not_true, Bool.not_false, decide_true, decide_false, Bool.true_eq, ne_eq])
local macro_rules | `(tactic| walk_at "pvs") => `(tactic| simp only [neD_s, eqD_s, rseq_eq, seqRR_nx, seqRR_rt, seqRR_no, okF_eq, omap_s, omap_n, rif_eq, rret_eq, rset_eq, *, wipe_nil, wipe_cons, sext_eq, sapp_eq, sput_eq, nxE_nx, farsD_n, turnsD_n, insideD_n, fM_eq, netB_n, seqD_d, sdrop_eq, slT_1, slL_1, slS_1, slT_2, slL_2, slS_2, slT_3, slL_3, slS_3, slT_4, slL_4, slS_4, slT_5, slL_5, slS_5, slT_6, slL_6, slS_6, slT_7, slL_7, slS_7, slT_8, slL_8, slS_8, slT_9, slL_9, slS_9, slT_10, slL_10, slS_10, slT_12, slL_12, slS_12, slT_16, slL_16, slS_16, listD_t, listD_l, mulD_r, mulD_l, modD_i, fdivD_i, sseq_eq, seqR_nx, seqR_rt, seqR_ite, endD_ite, bind_ite, sret_eq, sset_eq, sown_eq, sbind_eq, snx_eq, sif_eq, f1_eq, f2_eq, fN_eq, fcons_eq, fnil_eq, kc_eq, tv_eq, tb_eq, boolD_b, tor_eq, tand_eq, tnot_eq, vand_eq, vor_eq, spar_eq, iseq_eq, seqD_l, seqD_t, ienum_eq, enumD_l, enumD_t, irange1_eq, irange2_eq, fch_eq, chL_t, chL_f, fsl_eq, onone_eq, osome_eq, intO_i, sfor_eq, nm_0, nb_0, nbo_0, nm_s, nb_s, obs, obn, ls0, lsS, bindP1, bindT1, bindT2, bindT3, bindT4, tup0, tup1, tup2, tup3, tup4, lst0, lst1, lst2, lst3, lst4, lst5, lst7, lst8, isiD_i, isiD_ib, isiD_is, isiD_in, isiD_it, isiD_il, isiB_i, isiB_b, isiB_s, isiT_i, isiT_b, isiT_s, isiT_n, isiT_t, isiT_l, setE, addD_i, subD_i, negD_i, absD_i, ltD_i, leD_i, gtD_i, geD_i, eqD_i, neD_i, eqD_b, neD_b, isD_b, isntD_b, ixT0, ixT1, ixT2, ixT3, truD_b, truD_t, truD_l, lenD_t, lenD_l, notD_b, tupleD_l, tupleD_t, endD_ret, endD_rt, reduceIte, if_true, if_false, Bool.false_eq_true, Bool.not_true, Bool.not_false, decide_true, decide_false, Bool.true_eq, ne_eq])
local macro_rules | `(tactic| walk_at "pvo") => `(tactic| simp (disch := omega) only [neD_s, eqD_s, rseq_eq, seqRR_nx, seqRR_rt, seqRR_no, okF_eq, omap_s, omap_n, rif_eq, rret_eq, rset_eq, addD_s, lenD_s, strI_i, slD_s, addD_l, addD_t, rng1D_i, rng2D_i, wipe_nil, wipe_cons, sext_eq, sapp_eq, sput_eq, nxE_nx, farsD_n, turnsD_n, insideD_n, fM_eq, netB_n, seqD_d, sdrop_eq, slT_1, slL_1, slS_1, slT_2, slL_2, slS_2, slT_3, slL_3, slS_3, slT_4, slL_4, slS_4, slT_5, slL_5, slS_5, slT_6, slL_6, slS_6, slT_7, slL_7, slS_7, slT_8, slL_8, slS_8, slT_9, slL_9, slS_9, slT_10, slL_10, slS_10, slT_12, slL_12, slS_12, slT_16, slL_16, slS_16, listD_t, listD_l, mulD_r, mulD_l, modD_i, fdivD_i, sseq_eq, seqR_nx, seqR_rt, seqR_ite, endD_ite, bind_ite, sret_eq, sset_eq, sown_eq, sbind_eq, snx_eq, sif_eq, f1_eq, f2_eq, fN_eq, fcons_eq, fnil_eq, kc_eq, tv_eq, tb_eq, boolD_b, tor_eq, tand_eq, tnot_eq, vand_eq, vor_eq, spar_eq, iseq_eq, seqD_l, seqD_t, ienum_eq, enumD_l, enumD_t, irange1_eq, irange2_eq, fch_eq, chL_t, chL_f, fsl_eq, onone_eq, osome_eq, intO_i, sfor_eq, nm_0, nb_0, nbo_0, nm_s, nb_s, obs, obn, ls0, lsS, bindP1, bindT1, bindT2, bindT3, bindT4, tup0, tup1, tup2, tup3, tup4, lst0, lst1, lst2, lst3, lst4, lst5, lst7, lst8, isiD_i, isiD_ib, isiD_is, isiD_in, isiD_it, isiD_il, isiB_i, isiB_b, isiB_s, isiT_i, isiT_b, isiT_s, isiT_n, isiT_t, isiT_l, setE, addD_i, subD_i, negD_i, absD_i, ltD_i, leD_i, gtD_i, geD_i, eqD_i, neD_i, eqD_b, neD_b, isD_b, isntD_b, ixT0, ixT1, ixT2, ixT3, truD_b, truD_t, truD_l, lenD_t, lenD_l, notD_b, tupleD_l, tupleD_t, endD_ret, endD_rt, reduceIte, if_true, if_false, Bool.false_eq_true, Bool.not_true, Bool.not_false, decide_true, decide_false, Bool.true_eq, ne_eq])
/-! ### a text spoilt -/
theorem sign_t {i : Int} (h0 : 0 ≤ i) (h1 : i < 10) : ∃ c : Nat, ixD (.str "019-@+ ,xn") (.int i) = some (.str ⟨#[c]⟩) := by
  have h : i = 0 ∨ i = 1 ∨ i = 2 ∨ i = 3 ∨ i = 4 ∨ i = 5 ∨ i = 6 ∨ i = 7 ∨ i = 8 ∨ i = 9 := by omega
  have e : ∀ k : Nat, k < 10 → ((if ("019-@+ ,xn" : Str).length < big then (atI ("019-@+ ,xn" : Str).cps.toList (k : Int)).map (fun c => c) else none).isSome) = true := by decide +kernel
  obtain ⟨k, rfl⟩ := Int.ex_nat h0
  have e := e k (by omega)
  obtain ⟨c, hc⟩ := Option.isSome_iff_exists.mp e
  refine ⟨c, ?_⟩
  show (if ("019-@+ ,xn" : Str).length < big then (atI ("019-@+ ,xn" : Str).cps.toList (k : Int)).map (fun c => D.str ⟨#[c]⟩) else none) = _
  split at hc
  · rename_i hb
    rw [if_pos hb]
    obtain ⟨c', h1, rfl⟩ := Option.map_eq_some_iff.mp hc
    rw [h1]; rfl
  · cases hc
theorem one_len {c : Nat} : (⟨#[c]⟩ : Str).length = 1 := rfl
theorem c__law_spoilt_t {t : Str} {c : Int} (hl : t.length ≤ 130) : ∃ b : Str, c__law_spoilt [.str t, .int c] = some (.str b) ∧ b.length < 900 := by
  obtain ⟨k, hk⟩ := sign_t (i := c / 512 % 10) (Int.emod_nonneg _ (by decide)) (Int.emod_lt_of_pos _ (by decide))
  rw [st__law_spoilt]
  unfold F__law_spoilt
  walk_at "pv"
  rw [lenD_s (by unfold big; omega)]
  walk_at "pvo"
  rw [hk]
  walk_at "pvo"
  have cl : ∀ lo hi, (cutS t lo hi).length ≤ 130 := fun lo hi => Nat.le_trans (cutS_length t lo hi) hl
  have lb : t.length < big := by unfold big; omega
  have am : ∀ {a b : Str}, a.length ≤ 400 → b.length ≤ 400 → addD (.str a) (.str b) = some (.str (a ++ b)) := fun h1 h2 => addD_s (by unfold big; omega)
  generalize hat : c / 4 % ((t.length : Int) + 1) = at_
  split
  · rw [slD_s lb, slD_s lb]
    walk_at "pv"
    rw [am (by have := cl none (some at_); omega) (by have := cl (some (at_ + 1)) none; omega)]
    exact ⟨_, rfl, by rw [app_len]; have := cl none (some at_); have := cl (some (at_ + 1)) none; omega⟩
  · split
    · rw [slD_s lb, slD_s lb, slD_s lb]
      walk_at "pv"
      rw [am (by have := cl none (some at_); omega) (by have := cl (some at_) (some (at_ + 1)); omega)]
      walk_at "pv"
      rw [am (by rw [app_len]; have := cl none (some at_); have := cl (some at_) (some (at_ + 1)); omega) (by have := cl (some at_) none; omega)]
      exact ⟨_, rfl, by rw [app_len, app_len]; have := cl none (some at_); have := cl (some at_) (some (at_ + 1)); have := cl (some at_) none; omega⟩
    · rw [slD_s lb, slD_s lb]
      walk_at "pv"
      rw [am (by have := cl none (some at_); omega) (by rw [one_len]; omega)]
      walk_at "pv"
      rw [am (by rw [app_len, one_len]; have := cl none (some at_); omega) (by have := cl (some (at_ + c % 4 - 2)) none; omega)]
      exact ⟨_, rfl, by rw [app_len, app_len, one_len]; have := cl none (some at_); have := cl (some (at_ + c % 4 - 2)) none; omega⟩
/-! ### the law -/
theorem eS_self {s : List Pc} : neD (eS s) (eS s) = some (.bl false) := by
  have h : okD 8 (eS s) = true := by
    show (s.map eQ).all (okD 7) = true
    rw [List.all_map, List.all_eq_true]
    exact fun _ _ => rfl
  show (if (okD 8 (eS s) && okD 8 (eS s)) = true then some (D.bl (!eqN 8 (eS s) (eS s))) else none) = _
  rw [h, eqN_refl 8 _ h]
  rfl
theorem fNR_eq {f : RF} {a : Env → Option (List D)} {ρ : Env} : fNR f a ρ = (a ρ).bind fun ds => (f ds).bind id := rfl
theorem c__law_read_t {t : Str} (hl : t.length < 900) : c__law_read [.str t] = some (match readP t with | some s => eS s | none => .non) := by
  show (c_read [.str t]).map (fun r => r.getD .non) = _
  rw [c_read_t hl]
  cases readP t <;> rfl
theorem isnt_S {s : List Pc} : isntD (eS s) .non = some (.bl true) := rfl
theorem isnt_N : isntD .non .non = some (.bl false) := rfl
noncomputable def bodyA : Env → Option Res := (sseq (sset 2 (fN c__law_sheet (fcons (nm 1) (fcons (f2 ixD (fN lstD (fcons (kc (.int 9)) (fcons (kc (.int 999)) fnil))) (f2 modD (nb 1) (kc (.int 2)))) (fcons (kc (.int 8)) fnil)))))
  (sseq (sset 3 (fN c__law_text (fcons (nm 2) fnil)))
  (sseq (sif (tor (tb (f2 neD (fN c_written (fcons (nm 2) fnil)) (nb 3))) (tb (f2 neD (fNR c_read (fcons (nm 3) fnil)) (nb 2))))
  (sret (kc (.bl false)))
  snx)
  (sseq (sset 4 (fN c__law_spoilt (fcons (nm 3) (fcons (f2 fdivD (nb 1) (kc (.int 3))) fnil))))
  (sseq (sset 5 (fN c__law_read (fcons (nm 4) fnil)))
  (sif (tand (tb (f2 isntD (nb 5) (kc .non))) (tor (tnot (tv (fN c_is_sheet (fcons (nm 5) fnil)))) (tb (f2 neD (fN c__law_text (fcons (nm 5) fnil)) (nb 4)))))
  (sret (kc (.bl false)))
  snx))))))
theorem mod2 {c : Int} : ∃ m : Int, (m = 9 ∨ m = 999) ∧ ixD (.lst [.int 9, .int 999]) (.int (c % 2)) = some (.int m) := by
  rcases (show c % 2 = 0 ∨ c % 2 = 1 by omega) with h | h
  · exact ⟨9, .inl rfl, by rw [h]; rfl⟩
  · exact ⟨999, .inr rfl, by rw [h]; rfl⟩
theorem bodyA_t {ns : List Int} {c : Int} {x2 x3 x4 x5 x6 : Sl} : ∃ y2 y3 y4 y5, bodyA [.sh (.scr ns), .sh (.int c), x2, x3, x4, x5, x6] = some (.nx [.sh (.scr ns), .sh (.int c), y2, y3, y4, y5, x6]) := by
  unfold bodyA
  obtain ⟨m, hm, em⟩ := mod2 (c := c)
  have e1 := c__law_sheet_t (c := c) (m := m) (n := 8) (by omega) (by decide) (by decide)
  have h0 := sheetM_ok (c := c) (m := m) (n := 8) (by omega)
  have l1 := sheetM_len (c := c) (m := m) (n := 8) (by decide)
  have h1 : ∀ q ∈ sheetM c m 8, q.Ok 999 := fun q hq => by
    have := h0 q hq
    exact ⟨this.i0, this.io, by have := this.om; omega, this.b0, this.b1, this.w0, this.w1⟩
  generalize sheetM c m 8 = s at *
  have l1 : s.length ≤ 8 := by omega
  walk_at "pvo"
  rw [em]
  walk_at "pv"
  rw [e1]
  walk_at "pv"
  rw [c__law_text_t h1 l1]
  walk_at "pv"
  rw [c_written_t h1 l1]
  walk_at "pv"
  rw [fNR_eq]
  walk_at "pv"
  have tl := text_len h1 l1
  rw [c_read_t (by omega), read_text h1 l1]
  obtain ⟨b, eb, hb⟩ := c__law_spoilt_t (t := textS s) (c := c / 3) tl
  simp only [Option.map_some, Option.bind_some, id]
  rw [eS_self]
  walk_at "pvo"
  rw [eb]
  walk_at "pv"
  rw [c__law_read_t hb]
  cases er : readP b with
  | none =>
    show ∃ y2 y3 y4 y5, ((((some D.non).bind _).bind _)) = _
    walk_at "pv"
    rw [isnt_N]
    exact ⟨_, _, _, _, rfl⟩
  | some s2 =>
    obtain ⟨r1, r2, r3⟩ := read_is er
    walk_at "pv"
    rw [isnt_S]
    walk_at "pv"
    rw [c_is_sheet_s (by omega), ok_sheetP r2 r1]
    walk_at "pv"
    rw [c__law_text_t r2 r1, r3]
    walk_at "pv"
    exact ⟨_, _, _, _, rfl⟩
def badL : List Str := ["", " ", "none ", "none none", "0-1@0", "0-1@0+24 ", " 0-1@0+24", "0-1@00+24", "1-1@0+24", "0-1@24+1", "0-1+0@24", "0-1@0+24  0-1@0+24", "0-1@0+24 none", "-1-1@0+24"]
theorem badL_ok : ∀ t ∈ badL, t.length < 900 ∧ readP t = none := fun t ht => by
  have h1 : badL.all (fun t => decide (t.length < 900)) = true := by decide +kernel
  have h2 : badL.all (fun t => (readP t).isNone) = true := bad_all
  refine ⟨of_decide_eq_true (List.all_eq_true.mp h1 t ht), ?_⟩
  have := List.all_eq_true.mp h2 t ht
  cases e : readP t with
  | none => rfl
  | some _ => rw [e] at this; cases this
theorem forD_bad {ns : List Int} {x1 x2 x3 x4 x5 x6 : Sl} : ∃ ρ', forD (.one 4) (sif (tb (f2 isntD (fN c__law_read (fcons (nm 4) fnil)) (kc .non))) (sret (kc (.bl false))) snx) (badL.map D.str) [.sh (.scr ns), x1, x2, x3, x4, x5, x6] = some (.nx ρ') := by
  obtain ⟨ρ', e, _⟩ := forD_nx (p := .one 4) (b := sif (tb (f2 isntD (fN c__law_read (fcons (nm 4) fnil)) (kc .non))) (sret (kc (.bl false))) snx) D.str (fun ρ => ∃ x1 x2 x3 x4 x5 x6 : Sl, ρ = [.sh (.scr ns), x1, x2, x3, x4, x5, x6]) badL (fun t ht ρ hρ => by
    obtain ⟨y1, y2, y3, y4, y5, y6, rfl⟩ := hρ
    obtain ⟨h1, h2⟩ := badL_ok t ht
    refine ⟨_, _, bindP1, ?_, y1, y2, y3, .sh (.str t), y5, y6, rfl⟩
    walk_at "pv"
    rw [c__law_read_t h1, h2]
    rfl) [.sh (.scr ns), x1, x2, x3, x4, x5, x6] ⟨_, _, _, _, _, _, rfl⟩
  exact ⟨ρ', e⟩
theorem good_read : readP "0-999@23+24" = some [⟨0, 999, 23, 24⟩] := by
  have h := good_1
  cases e : readP "0-999@23+24" with
  | none => rw [e] at h; cases h
  | some s =>
    rw [e] at h
    have h : s.map (fun q => (q.i, q.o, q.b, q.w)) = [(0, 999, 23, 24)] := Option.some.inj h
    match s, h with
    | [⟨a, b, c, d⟩], h =>
      simp only [List.map_cons, List.map_nil, List.cons.injEq, Prod.mk.injEq, and_true] at h
      obtain ⟨rfl, rfl, rfl, rfl⟩ := h
      rfl
theorem none_read : readP "none" = some [] := by rfl
theorem law_true (ns : List Int) (hl : ns.length ≤ 63) : c_law [.scr ns] = some (.bl true) := by
  rw [st_law]
  have e0 : F_law = sseq (sfor (iseq (fsl (nb 0) onone (osome (kc (.int 8))))) (.one 1) bodyA) (sseq (sset 6 (fN lstD (fcons (kc (.str "")) (fcons (kc (.str " ")) (fcons (kc (.str "none ")) (fcons (kc (.str "none none")) (fcons (kc (.str "0-1@0")) (fcons (kc (.str "0-1@0+24 ")) (fcons (kc (.str " 0-1@0+24")) (fcons (kc (.str "0-1@00+24")) (fcons (kc (.str "1-1@0+24")) (fcons (kc (.str "0-1@24+1")) fnil))))))))))))
    (sseq (sfor (iseq (f2 addD (nb 6) (fN lstD (fcons (kc (.str "0-1+0@24")) (fcons (kc (.str "0-1@0+24  0-1@0+24")) (fcons (kc (.str "0-1@0+24 none")) (fcons (kc (.str "-1-1@0+24")) fnil))))))) (.one 4) (sif (tb (f2 isntD (fN c__law_read (fcons (nm 4) fnil)) (kc .non))) (sret (kc (.bl false))) snx))
    (sret (vand (f2 eqD (fNR c_read (fcons (kc (.str "none")) fnil)) (fN tupD fnil)) (f2 eqD (fNR c_read (fcons (kc (.str "0-999@23+24")) fnil)) (fN tupD (fcons (fN tupD (fcons (kc (.int 0)) (fcons (kc (.int 999)) (fcons (kc (.int 23)) (fcons (kc (.int 24)) fnil))))) fnil))))))) := rfl
  rw [e0, sseq_eq, sfor_eq]
  obtain ⟨ρ', e, y1, y2, y3, y4, y5, y6, rfl⟩ := forD_nx (p := .one 1) (b := bodyA) D.int (fun ρ => ∃ x1 x2 x3 x4 x5 x6 : Sl, ρ = [.sh (.scr ns), x1, x2, x3, x4, x5, x6]) (ns.take 8) (fun c _ ρ hρ => by
    obtain ⟨y1, y2, y3, y4, y5, y6, rfl⟩ := hρ
    obtain ⟨z2, z3, z4, z5, e⟩ := bodyA_t (ns := ns) (c := c) (x2 := y2) (x3 := y3) (x4 := y4) (x5 := y5) (x6 := y6)
    exact ⟨_, _, bindP1, e, _, _, _, _, _, _, rfl⟩) [.sh (.scr ns), .no, .no, .no, .no, .no, .no] ⟨_, _, _, _, _, _, rfl⟩
  walk_at "pv"
  rw [e]
  walk_at "pv"
  rw [lstD_s (by decide)]
  walk_at "pv"
  rw [addD_l (by decide)]
  obtain ⟨ρ', e⟩ := forD_bad (ns := ns) (x1 := y1) (x2 := y2) (x3 := y3) (x4 := y4) (x5 := y5) (x6 := .sh (.lst ((["", " ", "none ", "none none", "0-1@0", "0-1@0+24 ", " 0-1@0+24", "0-1@00+24", "1-1@0+24", "0-1@24+1"] : List Str).map D.str)))
  walk_at "pv"
  refine (congrArg (fun z => endD (seqR z _)) e).trans ?_
  show endD (((((fNR c_read (fcons (kc (.str "none")) fnil)) ρ').bind fun x => (some (D.tup [])).bind fun y => eqD x y).bind _).bind _) = _
  rw [fNR_eq]
  walk_at "pv"
  rw [c_read_t (by decide), none_read]
  rw [show ((some (Option.map eS (some []))).bind id).bind (fun x => eqD x (D.tup [])) = some (.bl true) from rfl]
  show ((fNR c_read (fcons (kc (.str "0-999@23+24")) fnil) ρ').bind _) = _
  rw [fNR_eq]
  walk_at "pv"
  rw [c_read_t (by decide +kernel), good_read]
  rfl
end Pv
set_option Elab.async false
set_option linter.all false
set_option maxRecDepth 100000
set_option maxHeartbeats 0
set_option autoImplicit false
namespace Pv
open PySem PySem.Spec PyProof.Rows L2
/-! ### the head: facts by names, one kernel run -/
theorem fun_of {K : PySem.W.Frag} {x qual : Str} {st : Stmt} {f : Addr} {fd : FuncData} (F : FunD K x qual (defArgs st) (defBody st) (defScope st) [] [] f fd) : Fun K x qual st f fd := by
  obtain ⟨⟨oc, od, dV, kV, doc, pm, an, cdv, ct, osl, e, l, c, d, k⟩, kp⟩ := F
  rcases d with ⟨_, e2⟩ | ⟨z, _⟩
  · subst e2
    exact ⟨⟨oc, od, kV, doc, pm, an, cdv, ct, osl, e, l, c⟩, kp⟩
  · exact absurd rfl z
def dd_is_number : He.DefD := ⟨("is_number", none), "is_number", "is_number", defArgs s_is_number, defBody s_is_number, defScope s_is_number, [], []⟩
def dd_written : He.DefD := ⟨("written", none), "written", "written", defArgs s_written, defBody s_written, defScope s_written, [], []⟩
def dd_whole_of : He.DefD := ⟨("whole_of", none), "whole_of", "whole_of", defArgs s_whole_of, defBody s_whole_of, defScope s_whole_of, [], []⟩
def dd_halves : He.DefD := ⟨("halves", none), "halves", "halves", defArgs s_halves, defBody s_halves, defScope s_halves, [], []⟩
def dd__law_mix : He.DefD := ⟨("_law_mix", none), "_law_mix", "_law_mix", defArgs s__law_mix, defBody s__law_mix, defScope s__law_mix, [], []⟩
def dd__law_text : He.DefD := ⟨("_law_text", none), "_law_text", "_law_text", defArgs s__law_text, defBody s__law_text, defScope s__law_text, [], []⟩
def dd__law_spoilt : He.DefD := ⟨("_law_spoilt", none), "_law_spoilt", "_law_spoilt", defArgs s__law_spoilt, defBody s__law_spoilt, defScope s__law_spoilt, [], []⟩
def dd_is_piece : He.DefD := ⟨("is_piece", none), "is_piece", "is_piece", defArgs s_is_piece, defBody s_is_piece, defScope s_is_piece, [], []⟩
def dd_piece_of : He.DefD := ⟨("piece_of", none), "piece_of", "piece_of", defArgs s_piece_of, defBody s_piece_of, defScope s_piece_of, [], []⟩
def dd__law_piece : He.DefD := ⟨("_law_piece", none), "_law_piece", "_law_piece", defArgs s__law_piece, defBody s__law_piece, defScope s__law_piece, [], []⟩
def dd_is_sheet : He.DefD := ⟨("is_sheet", none), "is_sheet", "is_sheet", defArgs s_is_sheet, defBody s_is_sheet, defScope s_is_sheet, [], []⟩
def dd__law_sheet : He.DefD := ⟨("_law_sheet", none), "_law_sheet", "_law_sheet", defArgs s__law_sheet, defBody s__law_sheet, defScope s__law_sheet, [], []⟩
def dd_read : He.DefD := ⟨("read", none), "read", "read", defArgs s_read, defBody s_read, defScope s_read, [], []⟩
def dd__law_read : He.DefD := ⟨("_law_read", none), "_law_read", "_law_read", defArgs s__law_read, defBody s__law_read, defScope s__law_read, [], []⟩
def dd_law : He.DefD := ⟨("law", none), "law", "law", defArgs s_law, defBody s_law, defScope s_law, [], []⟩
def fnL : List He.DefD := [dd_is_number, dd_written, dd_whole_of, dd_halves, dd__law_mix, dd__law_text, dd__law_spoilt, dd_is_piece, dd_piece_of, dd__law_piece, dd_is_sheet, dd__law_sheet, dd_read, dd__law_read, dd_law]
def faL : List He.Fa := [.glo "is_number", .glo "written", .glo "whole_of", .glo "halves", .glo "_law_mix", .glo "_law_text", .glo "_law_spoilt", .glo "is_piece", .glo "piece_of", .glo "_law_piece", .glo "is_sheet", .glo "_law_sheet", .glo "read", .glo "_law_read", .glo "law", .glo "RingError", .glo "NoText", .glo "NoPiece", .exc "NoText", .exm "NoText" "RingError" true, .free "ValueError", .free "all", .free "bool", .free "int", .free "isinstance", .free "len", .free "range", .free "str", .free "tuple"]
/-- what isinstance asks of the error's class -/
def xtra (K : PySem.W.Frag) : Bool :=
  He.eqO (PySem.W.findIn K (.ref (He.ga K "NoText")) "__getattribute__") (some (some (.builtin "BaseException.__getattribute__"))) &&
  (He.eqO (PySem.W.findIn K (.ref (He.ga K "NoText")) "__getattr__") (some none) &&
  (PySem.W.hasDictIn K (He.ga K "NoText") &&
  (He.eqO (PySem.W.findIn K (.ref (He.ga K "NoText")) "__class__") (some (some (.builtin "object.__class__"))) &&
  (He.eqO (PySem.W.specialIn K (.builtin "object.__class__") "__get__") (some (some (.builtin "getset_descriptor.__get__"))) &&
  (decide (PySem.W.takesIn K (.builtin "object.__class__") = some true) &&
  (decide (PySem.W.mroIn K (He.ga K "NoText") (.type "object") = some true) &&
  (decide (PySem.W.kitOne K (.ref (He.ga K "NoText")) (.ref (He.ga K "NoText")) = some true) &&
  (decide (PySem.W.kitOne K (.ref (He.ga K "NoText")) (.ref (He.ga K "NoPiece")) = some false) &&
  decide (PySem.W.kitOne K (.ref (He.ga K "NoText")) (.type "ValueError") = some true)))))))))
abbrev AlX : Type := He.AlD × Bool
def obsX (K : PySem.W.Frag) : AlX := (He.obsD faL fnL K, xtra K)
def valX : AlX := (He.valD fnL, true)
def SaysX (K : PySem.W.Frag) : Prop := obsX K = valX
def obsXG (g : Addr → Option Obj) : AlX := obsX (He.frG g (He.asD g 4))
def hkL : PySem.W.Hook where
  α := AlX
  obs := fun s => obsXG s.heap.get?
  val := fun _ => valX
  says := fun _ h => ∃ K : PySem.W.Frag, K.In h ∧ SaysX K
  of := fun _ _ e => ⟨_, He.frG_in, e⟩
  keeps := fun _ _ _ ⟨K, hK, c⟩ k => ⟨K, PySem.W.Frag.In.keeps hK k, c⟩
theorem obsXG_eq {g : Addr → Option Obj} {s : Shared} (h : ∀ a, g a = s.heap.get? a) : obsXG g = hkL.obs s := by
  have e : g = s.heap.get? := funext h
  rw [e] <;> rfl
theorem SaysX.d {K : PySem.W.Frag} (c : SaysX K) : He.SaysD faL fnL K := congrArg (fun z : AlX => z.1) c
theorem SaysX.x {K : PySem.W.Frag} (c : SaysX K) : xtra K = true := congrArg (fun z : AlX => z.2) c
abbrev Rw : PySem.W.OpenRow := PySem.W.OpenLaw.row PySem.Challenge.rw_ringlayers_k02_whole_texts
def obL (s : PySem.W.SharedT) : AlX := obsXG (HandSHeadRun.getT s)
theorem obL_eq (s : PySem.W.SharedT) : obL s = hkL.obs s.abs := obsXG_eq (HandSHeadRun.getT_eq s)
def looseL : List Str := ["RingError", "NoText", "NoPiece", "is_number", "is_piece", "is_sheet", "written", "whole_of", "halves", "piece_of", "read", "_law_cell", "_law_mix", "_law_piece", "_law_sheet", "_law_text", "_law_spoilt", "_law_read"]
theorem runL (w : World) : HandSHeadRun.RunEq Rw (PySem.W.view Rw.prog [23]) hkL obL 3000 looseL w := by
  intro os
  kernel_rfl
/-- the law's own promise -/
def spLw (K : PySem.W.Frag) : Sp := fun vs H Q _ => ∃ (a : Addr) (ns : List Int), vs = [.ref a] ∧ SqL K H a (ns.map V.int) ∧ ns.length ≤ 63 ∧ ∀ H', Q (.bl true) H'
theorem factsL {P : Program} {w : World} {K : PySem.W.Frag} {h : Heap} {mg : Str → Option Value} {f : Addr} (X : K.In h) (Gn : h.Ns mainGlobals mg) (hfa : mg ("law" : Str) = some (.ref f)) (cX : SaysX K) :
    ∃ fd : FuncData, (∀ (s : Shared) (v : Value), BindsTo s fd ⟨[v], []⟩ [("_law_script", v)]) ∧ ∀ base : Heap, K.In base → base.Ns mainGlobals mg → FnOk P w K mg base CX0 6 f fd ["_law_script"] (spLw K) := by
  have c := cX.d
  obtain ⟨fd_is_number, FD_is_number⟩ := c.def_ 0 (d := dd_is_number) rfl
  have Fn_is_number : Fun K "is_number" "is_number" s_is_number (He.fAd K dd_is_number.at_) fd_is_number := fun_of FD_is_number
  obtain ⟨fd_written, FD_written⟩ := c.def_ 1 (d := dd_written) rfl
  have Fn_written : Fun K "written" "written" s_written (He.fAd K dd_written.at_) fd_written := fun_of FD_written
  obtain ⟨fd_whole_of, FD_whole_of⟩ := c.def_ 2 (d := dd_whole_of) rfl
  have Fn_whole_of : Fun K "whole_of" "whole_of" s_whole_of (He.fAd K dd_whole_of.at_) fd_whole_of := fun_of FD_whole_of
  obtain ⟨fd_halves, FD_halves⟩ := c.def_ 3 (d := dd_halves) rfl
  have Fn_halves : Fun K "halves" "halves" s_halves (He.fAd K dd_halves.at_) fd_halves := fun_of FD_halves
  obtain ⟨fd__law_mix, FD__law_mix⟩ := c.def_ 4 (d := dd__law_mix) rfl
  have Fn__law_mix : Fun K "_law_mix" "_law_mix" s__law_mix (He.fAd K dd__law_mix.at_) fd__law_mix := fun_of FD__law_mix
  obtain ⟨fd__law_text, FD__law_text⟩ := c.def_ 5 (d := dd__law_text) rfl
  have Fn__law_text : Fun K "_law_text" "_law_text" s__law_text (He.fAd K dd__law_text.at_) fd__law_text := fun_of FD__law_text
  obtain ⟨fd__law_spoilt, FD__law_spoilt⟩ := c.def_ 6 (d := dd__law_spoilt) rfl
  have Fn__law_spoilt : Fun K "_law_spoilt" "_law_spoilt" s__law_spoilt (He.fAd K dd__law_spoilt.at_) fd__law_spoilt := fun_of FD__law_spoilt
  obtain ⟨fd_is_piece, FD_is_piece⟩ := c.def_ 7 (d := dd_is_piece) rfl
  have Fn_is_piece : Fun K "is_piece" "is_piece" s_is_piece (He.fAd K dd_is_piece.at_) fd_is_piece := fun_of FD_is_piece
  obtain ⟨fd_piece_of, FD_piece_of⟩ := c.def_ 8 (d := dd_piece_of) rfl
  have Fn_piece_of : Fun K "piece_of" "piece_of" s_piece_of (He.fAd K dd_piece_of.at_) fd_piece_of := fun_of FD_piece_of
  obtain ⟨fd__law_piece, FD__law_piece⟩ := c.def_ 9 (d := dd__law_piece) rfl
  have Fn__law_piece : Fun K "_law_piece" "_law_piece" s__law_piece (He.fAd K dd__law_piece.at_) fd__law_piece := fun_of FD__law_piece
  obtain ⟨fd_is_sheet, FD_is_sheet⟩ := c.def_ 10 (d := dd_is_sheet) rfl
  have Fn_is_sheet : Fun K "is_sheet" "is_sheet" s_is_sheet (He.fAd K dd_is_sheet.at_) fd_is_sheet := fun_of FD_is_sheet
  obtain ⟨fd__law_sheet, FD__law_sheet⟩ := c.def_ 11 (d := dd__law_sheet) rfl
  have Fn__law_sheet : Fun K "_law_sheet" "_law_sheet" s__law_sheet (He.fAd K dd__law_sheet.at_) fd__law_sheet := fun_of FD__law_sheet
  obtain ⟨fd_read, FD_read⟩ := c.def_ 12 (d := dd_read) rfl
  have Fn_read : Fun K "read" "read" s_read (He.fAd K dd_read.at_) fd_read := fun_of FD_read
  obtain ⟨fd__law_read, FD__law_read⟩ := c.def_ 13 (d := dd__law_read) rfl
  have Fn__law_read : Fun K "_law_read" "_law_read" s__law_read (He.fAd K dd__law_read.at_) fd__law_read := fun_of FD__law_read
  obtain ⟨fd_law, FD_law⟩ := c.def_ 14 (d := dd_law) rfl
  have Fn_law : Fun K "law" "law" s_law (He.fAd K dd_law.at_) fd_law := fun_of FD_law
  have g_is_number := He.glo_ok X Gn (c.fact 0 (f := .glo "is_number") rfl)
  have g_written := He.glo_ok X Gn (c.fact 1 (f := .glo "written") rfl)
  have g_whole_of := He.glo_ok X Gn (c.fact 2 (f := .glo "whole_of") rfl)
  have g_halves := He.glo_ok X Gn (c.fact 3 (f := .glo "halves") rfl)
  have g__law_mix := He.glo_ok X Gn (c.fact 4 (f := .glo "_law_mix") rfl)
  have g__law_text := He.glo_ok X Gn (c.fact 5 (f := .glo "_law_text") rfl)
  have g__law_spoilt := He.glo_ok X Gn (c.fact 6 (f := .glo "_law_spoilt") rfl)
  have g_is_piece := He.glo_ok X Gn (c.fact 7 (f := .glo "is_piece") rfl)
  have g_piece_of := He.glo_ok X Gn (c.fact 8 (f := .glo "piece_of") rfl)
  have g__law_piece := He.glo_ok X Gn (c.fact 9 (f := .glo "_law_piece") rfl)
  have g_is_sheet := He.glo_ok X Gn (c.fact 10 (f := .glo "is_sheet") rfl)
  have g__law_sheet := He.glo_ok X Gn (c.fact 11 (f := .glo "_law_sheet") rfl)
  have g_read := He.glo_ok X Gn (c.fact 12 (f := .glo "read") rfl)
  have g__law_read := He.glo_ok X Gn (c.fact 13 (f := .glo "_law_read") rfl)
  have g_law := He.glo_ok X Gn (c.fact 14 (f := .glo "law") rfl)
  have g_RingError := He.glo_ok X Gn (c.fact 15 (f := .glo "RingError") rfl)
  have g_NoText := He.glo_ok X Gn (c.fact 16 (f := .glo "NoText") rfl)
  have g_NoPiece := He.glo_ok X Gn (c.fact 17 (f := .glo "NoPiece") rfl)
  have e := hfa.symm.trans g_law
  cases e
  refine ⟨fd_law, fun s v => FunD.bindsA (ps := ["_law_script"]) FD_law (fun _ _ _ _ _ _ us hl => match us, hl with | [_], _ => rfl) s [v] rfl, fun base Kb Gb => ?_⟩
  have B : Bl (⟨P, w, K, mg, base, 0, 0⟩ : Gam) := ⟨He.free_ok X Gn (c.fact 20 (f := .free "ValueError") rfl), He.free_ok X Gn (c.fact 21 (f := .free "all") rfl), He.free_ok X Gn (c.fact 22 (f := .free "bool") rfl), He.free_ok X Gn (c.fact 23 (f := .free "int") rfl), He.free_ok X Gn (c.fact 24 (f := .free "isinstance") rfl), He.free_ok X Gn (c.fact 25 (f := .free "len") rfl), He.free_ok X Gn (c.fact 26 (f := .free "range") rfl), He.free_ok X Gn (c.fact 27 (f := .free "str") rfl), He.free_ok X Gn (c.fact 28 (f := .free "tuple") rfl)⟩
  obtain ⟨x1, x2⟩ := He.exc_ok (c.fact 18 (f := .exc "NoText") rfl)
  obtain ⟨x2, x3, x4⟩ := x2
  have eR := He.exm_ok (c.fact 19 (f := .exm "NoText" "RingError" true) rfl)
  obtain ⟨y1, z⟩ := He.ba cX.x
  obtain ⟨y2, z⟩ := He.ba z
  obtain ⟨y3, z⟩ := He.ba z
  obtain ⟨y4, z⟩ := He.ba z
  obtain ⟨y5, z⟩ := He.ba z
  obtain ⟨y6, z⟩ := He.ba z
  obtain ⟨y7, z⟩ := He.ba z
  obtain ⟨y8, z⟩ := He.ba z
  obtain ⟨y9, y10⟩ := He.ba z
  have W : ErrT (⟨P, w, K, mg, base, 0, 0⟩ : Gam) := ⟨⟨g_NoText, x1, x2, x3, x4⟩, g_NoPiece, g_RingError, eR, ⟨He.eqO_ok y1, He.eqO_ok y2, x3, y3, He.eqO_ok y4, He.eqO_ok y5, of_decide_eq_true y6, of_decide_eq_true y7⟩, of_decide_eq_true y8, of_decide_eq_true y9, of_decide_eq_true y10⟩
  have T : ∀ k, TxtC (Gam.at (⟨P, w, K, mg, base, 0, 0⟩ : Gam) k) := fun k => ⟨g_NoText, x1, x2, x3, x4⟩
  have r_is_number := ok_is_number B Fn_is_number g_is_number
  have r_written := ok_written B Fn_written g_written
  have r_whole_of := ok_whole_of B Fn_whole_of g_whole_of (T _)
  have r_halves := ok_halves B Fn_halves g_halves (T _)
  have r__law_mix := ok__law_mix B Fn__law_mix g__law_mix
  have r__law_text := ok__law_text B Fn__law_text g__law_text
  have r__law_spoilt := ok__law_spoilt B Fn__law_spoilt g__law_spoilt
  have r_is_piece := ok_is_piece B Fn_is_piece g_is_piece (r_is_number.up (by decide))
  have r_piece_of := ok_piece_of B Fn_piece_of g_piece_of (r_halves.up (by decide)) (r_whole_of.up (by decide))
  have r__law_piece := ok__law_piece B Fn__law_piece g__law_piece (r__law_mix.up (by decide))
  have r_is_sheet := ok_is_sheet B Fn_is_sheet g_is_sheet (r_is_piece.up (by decide))
  have r__law_sheet := ok__law_sheet B Fn__law_sheet g__law_sheet (r__law_mix.up (by decide)) (r__law_piece.up (by decide))
  have r_read := ok_read B Fn_read g_read (T _) (r_is_sheet.up (by decide)) (r_written.up (by decide)) (r_piece_of.up (by decide))
  have r__law_read := ok__law_read (Γ := (⟨P, w, K, mg, base, 0, 0⟩ : Gam)) B W Fn__law_read g__law_read r_read
  refine (fnD_law B Fn_law (r__law_sheet.up (by decide)) (r__law_text.up (by decide)) (r_written.up (by decide)) (r__law_spoilt.up (by decide)) (r__law_read.up (by decide)) (r_is_sheet.up (by decide)) (r_read.up (by decide))).imp fun vs H Q E ⟨a, ns, e, hS, hl, hq⟩ => ?_
  subst e
  exact ⟨H, [.scr ns], .bl true, SL.refl _, .cons (.scr hS) .nil, law_true ns hl, fun G' H' v g r => by cases r; exact hq H'⟩
end Pv
open PySem PySem.W PySem.Calls PyProof.Rows
theorem PySem.Challenge.cw_ringlayers_k02_whole_texts_holds : PySem.Challenge.rw_ringlayers_k02_whole_texts.Holds := by
  w_on; o_law
  refine HandSHeadRun.head_any (r := OpenLaw.row PySem.Challenge.rw_ringlayers_k02_whole_texts) (q := view (OpenLaw.row PySem.Challenge.rw_ringlayers_k02_whole_texts).prog [23]) (H := Pv.hkL) (ob := Pv.obL) (M := 3000) (loose := Pv.looseL) (d := HandSHeadRun.topDef (OpenLaw.row PySem.Challenge.rw_ringlayers_k02_whole_texts).prog 23) (kwd := []) Pv.obL_eq
    (by kernel_rfl) (fun s => by kernel_rfl) Pv.runL (by kernel_rfl) (by kernel_rfl) (by kernel_rfl) (by rfl) (by first | assumption | decide +kernel) (by decide +kernel) ⟨rfl, rfl, rfl, rfl, rfl, by decide +kernel⟩ ?hw ?hc
  case hw => w_witness2
  case hc =>
    refine L2.walk_ofE (l := PySem.Challenge.rw_ringlayers_k02_whole_texts) (n := 63) (k := 6) (x := "_law_script") (CX := L2.CX0) rfl (by decide) (by kernel_rfl) ⟨rfl, by decide, by decide⟩ ?F (fun _ _ _ _ z => z)
    intro w mg fa h Y G hmg0
    obtain ⟨K, KX, c⟩ := Y
    have hmg : mg ("law" : PySem.Str) = some (.ref fa) := by
      have e : (HandSHeadRun.topDef (OpenLaw.row PySem.Challenge.rw_ringlayers_k02_whole_texts).prog 23).name = ("law" : PySem.Str) := by kernel_rfl
      rw [← e]
      exact hmg0
    obtain ⟨fd, hb, hF⟩ := Pv.factsL (P := (PySem.Challenge.rw_ringlayers_k02_whole_texts).prog) (w := w) KX G hmg c
    exact ⟨K, fd, Pv.spLw K, KX, hb, fun H a ns hl _ hS => ⟨a, ns, rfl, hS, hl, fun _ => rfl⟩, fun base h1 h2 => hF base h1 h2⟩

