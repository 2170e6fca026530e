import PyProof.Rows.All
import Wide.All
import OpenK.AllK
import Wide.FinOn
import PyProof.EqAt
import PyProof.EqKinds
import PyProof.TupleCall
import HandS.ForMost
import HandS.ForExc
import HandS.ExcCtx
import HandS.HotCalls
import HandS.Walk
import HandS.TupAny
import HandS.TupMul
import HandS.Conv
import HandS.IsInst
import HandS.Style
import HandS.Zip
import HandS.SetFor
import HandS.CallLocal
import HandS.Wide
import KE.DataMinMax
import KE.KSortedM
import KE.GoesEnum
import HandS.CallSlots
import HandS.ExcIs
import HandS.Deep
import KE.DataFind
import KE.DatumOrd
import HandS.TupSets
import KE.SortData
import KE.KRevSl
import PySem.Challenge.RW_bestofrow_k16_whole_independent_ranks
set_option Elab.async false
set_option linter.all false
set_option maxRecDepth 100000
set_option maxHeartbeats 4100000
/-! Data as trees, the relation between values in the abstract heap and data, states, what runs promise. -/
namespace Br
open PySem L2

/-- data: trees without sharing; scr: the script; town: the list that counts the draws; obj k: the k-th chooser -/
inductive D where
  | non | bl (b : Bool) | int (i : Int) | str (x : Str)
  | tup (ds : List D) | lst (ds : List D)
  | ty (n : String) | gl (x : Str) | scr | town | obj (k : Nat)
  | dct (ks : List (List Int)) (vs : List D)

/-- tuples of whole numbers, as keys -/
def tkeys (ks : List (List Int)) : List (List Key) := ks.map fun k => k.map Sum.inl

/-- what is fixed of a text: its written part, its globals, the class Chooser -/
structure Gm where
  K : PySem.W.Frag
  mg : Str → Option Value
  C : Addr
/-- where the shared things stand -/
structure Ad where
  S : Option Addr
  T : Option Addr
  cs : List Addr
def gad (ad : Ad) (a : Addr) : Prop := ad.T = some a ∨ a ∈ ad.cs
structure Ad.Le (x y : Ad) : Prop where
  S : ∀ a, x.S = some a → y.S = some a
  T : ∀ a, x.T = some a → y.T = some a
  cs : ∀ (k : Nat) a, x.cs[k]? = some a → y.cs[k]? = some a
theorem Ad.Le.refl (x : Ad) : x.Le x := ⟨fun _ h => h, fun _ h => h, fun _ _ h => h⟩
theorem Ad.Le.trans {x y z : Ad} (a : x.Le y) (b : y.Le z) : x.Le z := ⟨fun _ h => b.S _ (a.S _ h), fun _ h => b.T _ (a.T _ h), fun _ _ h => b.cs _ _ (a.cs _ _ h)⟩

mutual
/-- v stands for d; the lists in it are none of nb -/
inductive Rep (Γ : Gm) (H : Hp) (nb : Addr → Prop) (ad : Ad) : V → D → Prop
  | non : Rep Γ H nb ad .non .non
  | bl (b : Bool) : Rep Γ H nb ad (.bl b) (.bl b)
  | int (i : Int) : Rep Γ H nb ad (.int i) (.int i)
  | str (x : Str) : Rep Γ H nb ad (.str x) (.str x)
  | ty (n : String) : Rep Γ H nb ad (.ty n) (.ty n)
  | tup {a : Addr} {xs : List V} {ds : List D} : H a = some (.tup xs) → Reps Γ H nb ad xs ds → Rep Γ H nb ad (.ref a) (.tup ds)
  | lst {a : Addr} {xs : List V} {ds : List D} : H a = some (.lst xs) → ¬ nb a → Reps Γ H nb ad xs ds → Rep Γ H nb ad (.ref a) (.lst ds)
  | gl {x : Str} {f : Addr} : Γ.mg x = some (.ref f) → Rep Γ H nb ad (.ref f) (.gl x)
  | scr {a : Addr} : ad.S = some a → Rep Γ H nb ad (.ref a) .scr
  | town {a : Addr} : ad.T = some a → Rep Γ H nb ad (.ref a) .town
  | obj {k : Nat} {a : Addr} : ad.cs[k]? = some a → Rep Γ H nb ad (.ref a) (.obj k)
  | dct {a : Addr} {ws : List (List Key × V)} {ks : List (List Int)} {vs : List D} : Rd H a (.dT ws) → ¬ nb a → ws.map (·.1) = tkeys ks → Reps Γ H nb ad (ws.map (·.2)) vs → Rep Γ H nb ad (.ref a) (.dct ks vs)
inductive Reps (Γ : Gm) (H : Hp) (nb : Addr → Prop) (ad : Ad) : List V → List D → Prop
  | nil : Reps Γ H nb ad [] []
  | cons {v : V} {vs : List V} {d : D} {ds : List D} : Rep Γ H nb ad v d → Reps Γ H nb ad vs ds → Reps Γ H nb ad (v :: vs) (d :: ds)
end

/-- what is looked at when time goes on: ch may change, nb is kept apart -/
structure Vw where
  ch : Addr → Prop
  nb : Addr → Prop
  ad : Ad
  H : Hp
structure Adv (x y : Vw) : Prop where
  keep : ∀ a o, x.H a = some o → ¬ x.ch a → y.H a = some o
  tups : ∀ a xs, x.H a = some (.tup xs) → y.H a = some (.tup xs)
  chm : ∀ a, y.ch a → x.ch a ∨ x.H a = none
  nbm : ∀ a, y.nb a → x.nb a ∨ x.H a = none
  ad : x.ad.Le y.ad
theorem Adv.refl (x : Vw) : Adv x x := ⟨fun _ _ h _ => h, fun _ _ h => h, fun _ h => .inl h, fun _ h => .inl h, Ad.Le.refl _⟩
theorem Adv.trans {x y z : Vw} (hsub : ∀ a, x.ch a → x.nb a) (p : Adv x y) (q : Adv y z) : Adv x z where
  keep := fun a o h n => q.keep a o (p.keep a o h n) fun c => (p.chm a c).elim n fun e => by rw [h] at e; cases e
  tups := fun a xs h => q.tups a xs (p.tups a xs h)
  chm := fun a c => by
    rcases q.chm a c with c | e
    · exact p.chm a c
    · cases h : x.H a with
      | none => exact .inr rfl
      | some o =>
        by_cases n : x.ch a
        · exact .inl n
        · rw [p.keep a o h n] at e; cases e
  nbm := fun a c => by
    rcases q.nbm a c with c | e
    · exact p.nbm a c
    · cases h : x.H a with
      | none => exact .inr rfl
      | some o =>
        by_cases n : x.ch a
        · exact .inl (hsub a n)
        · rw [p.keep a o h n] at e; cases e
  ad := p.ad.trans q.ad
mutual
theorem Rep.mono {Γ : Gm} {x y : Vw} (hs : ∀ a, x.ch a → x.nb a) (p : Adv x y) : ∀ {v : V} {d : D}, Rep Γ x.H x.nb x.ad v d → Rep Γ y.H y.nb y.ad v d
  | _, _, .non => .non
  | _, _, .bl b => .bl b
  | _, _, .int i => .int i
  | _, _, .str z => .str z
  | _, _, .ty n => .ty n
  | _, _, .tup h r => .tup (p.tups _ _ h) (Reps.mono hs p r)
  | _, _, .lst h n r => .lst (p.keep _ _ h fun c => n (hs _ c)) (fun c => (p.nbm _ c).elim n fun e => by rw [h] at e; cases e) (Reps.mono hs p r)
  | _, _, .gl h => .gl h
  | _, _, .scr h => .scr (p.ad.S _ h)
  | _, _, .town h => .town (p.ad.T _ h)
  | _, _, .obj h => .obj (p.ad.cs _ _ h)
  | _, _, .dct h n e r => .dct (h.imp (fun h => p.keep _ _ h fun c => n (hs _ c)) fun ⟨o, h⟩ => ⟨o, p.keep _ _ h fun c => n (hs _ c)⟩) (fun c => (p.nbm _ c).elim n fun e => by rcases h with h | ⟨o, h⟩ <;> · rw [h] at e; cases e) e (Reps.mono hs p r)
theorem Reps.mono {Γ : Gm} {x y : Vw} (hs : ∀ a, x.ch a → x.nb a) (p : Adv x y) : ∀ {vs : List V} {ds : List D}, Reps Γ x.H x.nb x.ad vs ds → Reps Γ y.H y.nb y.ad vs ds
  | _, _, .nil => .nil
  | _, _, .cons h r => .cons (Rep.mono hs p h) (Reps.mono hs p r)
end
section
variable {Γ : Gm} {H : Hp} {nb nb' : Addr → Prop} {ad : Ad}
mutual
/-- fewer are kept apart -/
theorem Rep.less (h : ∀ a, nb' a → nb a) : ∀ {v : V} {d : D}, Rep Γ H nb ad v d → Rep Γ H nb' ad v d
  | _, _, .non => .non
  | _, _, .bl b => .bl b
  | _, _, .int i => .int i
  | _, _, .str z => .str z
  | _, _, .ty n => .ty n
  | _, _, .tup q r => .tup q (Reps.less h r)
  | _, _, .lst q n r => .lst q (fun c => n (h _ c)) (Reps.less h r)
  | _, _, .gl q => .gl q
  | _, _, .scr q => .scr q
  | _, _, .town q => .town q
  | _, _, .obj q => .obj q
  | _, _, .dct q n e r => .dct q (fun c => n (h _ c)) e (Reps.less h r)
theorem Reps.less (h : ∀ a, nb' a → nb a) : ∀ {vs : List V} {ds : List D}, Reps Γ H nb ad vs ds → Reps Γ H nb' ad vs ds
  | _, _, .nil => .nil
  | _, _, .cons q r => .cons (Rep.less h q) (Reps.less h r)
end
theorem Reps.length : ∀ {vs : List V} {ds : List D}, Reps Γ H nb ad vs ds → vs.length = ds.length
  | _, _, .nil => rfl
  | _, _, .cons _ r => by simp [Reps.length r]
theorem Reps.get : ∀ {vs : List V} {ds : List D} {i : Nat} {v : V}, Reps Γ H nb ad vs ds → vs[i]? = some v → ∃ d, ds[i]? = some d ∧ Rep Γ H nb ad v d
  | _, _, _, _, .nil, e => nomatch e
  | _, _, 0, _, .cons h _, e => by simp at e; subst e; exact ⟨_, rfl, h⟩
  | _, _, i + 1, v, .cons _ r, e => by
    obtain ⟨d, h1, h2⟩ := Reps.get (i := i) (v := v) r (by simpa using e)
    exact ⟨d, by simpa using h1, h2⟩
theorem Reps.getD : ∀ {vs : List V} {ds : List D} {i : Nat} {d : D}, Reps Γ H nb ad vs ds → ds[i]? = some d → ∃ v, vs[i]? = some v ∧ Rep Γ H nb ad v d
  | _, _, _, _, .nil, e => nomatch e
  | _, _, 0, _, .cons h _, e => by simp at e; subst e; exact ⟨_, rfl, h⟩
  | _, _, i + 1, d, .cons _ r, e => by
    obtain ⟨v, h1, h2⟩ := Reps.getD (i := i) (d := d) r (by simpa using e)
    exact ⟨v, by simpa using h1, h2⟩
theorem Reps.append : ∀ {vs us : List V} {ds es : List D}, Reps Γ H nb ad vs ds → Reps Γ H nb ad us es → Reps Γ H nb ad (vs ++ us) (ds ++ es)
  | _, _, _, _, .nil, s => s
  | _, _, _, _, .cons h r, s => .cons h (Reps.append r s)
theorem Reps.take : ∀ {vs : List V} {ds : List D} (n : Nat), Reps Γ H nb ad vs ds → Reps Γ H nb ad (vs.take n) (ds.take n)
  | _, _, 0, _ => .nil
  | _, _, _ + 1, .nil => .nil
  | _, _, n + 1, .cons h r => .cons h (Reps.take n r)
theorem Reps.drop : ∀ {vs : List V} {ds : List D} (n : Nat), Reps Γ H nb ad vs ds → Reps Γ H nb ad (vs.drop n) (ds.drop n)
  | _, _, 0, r => r
  | _, _, _ + 1, .nil => .nil
  | _, _, n + 1, .cons _ r => Reps.drop n r
theorem Reps.reverse : ∀ {vs : List V} {ds : List D}, Reps Γ H nb ad vs ds → Reps Γ H nb ad vs.reverse ds.reverse
  | _, _, .nil => .nil
  | _, _, .cons h r => by simp only [List.reverse_cons]; exact (Reps.reverse r).append (.cons h .nil)
theorem Reps.set {v : V} {d : D} (h : Rep Γ H nb ad v d) : ∀ {vs : List V} {ds : List D} (n : Nat), Reps Γ H nb ad vs ds → Reps Γ H nb ad (vs.set n v) (ds.set n d)
  | _, _, _, .nil => .nil
  | _, _, 0, .cons _ r => .cons h r
  | _, _, n + 1, .cons q r => .cons q (Reps.set h n r)
theorem Reps.erase : ∀ {vs : List V} {ds : List D} (n : Nat), Reps Γ H nb ad vs ds → Reps Γ H nb ad (vs.eraseIdx n) (ds.eraseIdx n)
  | _, _, _, .nil => .nil
  | _, _, 0, .cons _ r => r
  | _, _, n + 1, .cons q r => .cons q (Reps.erase n r)
theorem Reps.ints : ∀ ns : List Int, Reps Γ H nb ad (ns.map V.int) (ns.map D.int)
  | [] => .nil
  | n :: ns => .cons (.int n) (Reps.ints ns)
theorem Reps.ints_inv : ∀ {ns : List Int} {vs : List V}, Reps Γ H nb ad vs (ns.map D.int) → vs = ns.map V.int
  | [], _, h => by cases h; rfl
  | n :: ns, _, h => by
    cases h with
    | cons q r =>
      cases q
      rw [Reps.ints_inv r]; rfl
end

/-- a chooser's state -/
structure Ch where
  n : Int
  ranks : List Int
  kept : Int
structure GS where
  scr : List Int
  town : Option Nat
  chs : List Ch
/-- the script, tracked or written -/
def SqS (K : PySem.W.Frag) (H : Hp) (a : Addr) (ns : List Int) : Prop := (∃ o, H a = some (.frz o (.lst (ns.map V.int)))) ∨ SqL K (fun _ => none) a (ns.map V.int)
theorem SqS.l {K : PySem.W.Frag} {H : Hp} {a : Addr} {ns : List Int} (h : SqS K H a ns) : SqL K H a (ns.map V.int) := by
  rcases h with ⟨o, e⟩ | (h | ⟨o, h⟩) | h
  · exact .inl (.inr ⟨o, e⟩)
  · cases h
  · cases h
  · exact .inr h
theorem SqS.keep {K : PySem.W.Frag} {H H' : Hp} {a : Addr} {ns : List Int} (k : ∀ a o u, H a = some (.frz o u) → H' a = some (.frz o u)) (h : SqS K H a ns) : SqS K H' a ns := h.imp (fun ⟨o, e⟩ => ⟨o, k _ _ _ e⟩) id
/-- the shared things stand as g says -/
structure GR (Γ : Gm) (H : Hp) (ad : Ad) (g : GS) : Prop where
  S : ∀ a, ad.S = some a → SqS Γ.K H a g.scr
  T : ∀ a, ad.T = some a → ∃ n, g.town = some n ∧ H a = some (.lst (List.replicate n (.int 0)))
  T0 : g.town = none → ad.T = none
  cl : ad.cs.length = g.chs.length
  cs : ∀ (k : Nat) a c, ad.cs[k]? = some a → g.chs[k]? = some c → ∃ dx p, H a = some (.ins Γ.C dx [("n", .int c.n), ("ranks", .ref p), ("kept", .int c.kept)]) ∧ H p = some (.tup (c.ranks.map V.int))
  nd : ad.cs.Nodup
  nT : ∀ a, ad.T = some a → a ∉ ad.cs
theorem GR.at {Γ : Gm} {H : Hp} {ad : Ad} {g : GS} (G : GR Γ H ad g) {a : Addr} (h : gad ad a) : (∃ xs, H a = some (.lst xs)) ∨ ∃ dx fs, H a = some (.ins Γ.C dx fs) := by
  rcases h with h | h
  · obtain ⟨n, _, e⟩ := G.T a h
    exact .inl ⟨_, e⟩
  · obtain ⟨k, hk, e⟩ := List.getElem_of_mem h
    have e1 : ad.cs[k]? = some a := by rw [List.getElem?_eq_some_iff]; exact ⟨hk, e⟩
    have hk2 : k < g.chs.length := by rw [← G.cl]; exact hk
    obtain ⟨dx, p, q, _⟩ := G.cs k a _ e1 (List.getElem?_eq_getElem hk2)
    exact .inr ⟨dx, _, q⟩
theorem GR.notTup {Γ : Gm} {H : Hp} {ad : Ad} {g : GS} (G : GR Γ H ad g) {a : Addr} {xs : List V} (h : H a = some (.tup xs)) : ¬ gad ad a := fun c => by
  rcases G.at c with ⟨ys, e⟩ | ⟨dx, fs, e⟩
  · rw [h] at e; cases e
  · rw [h] at e; cases e
/-- where nothing shared has changed -/
theorem GR.stay {Γ : Gm} {H H' : Hp} {ad : Ad} {g : GS} (G : GR Γ H ad g) (k : ∀ a o, H a = some o → gad ad a → H' a = some o) (ks : ∀ a o u, H a = some (.frz o u) → H' a = some (.frz o u)) (t : ∀ a xs, H a = some (.tup xs) → H' a = some (.tup xs)) : GR Γ H' ad g where
  S := fun a h => (G.S a h).keep ks
  T := fun a h => let ⟨n, e1, e2⟩ := G.T a h; ⟨n, e1, k a _ e2 (.inl h)⟩
  T0 := G.T0
  cl := G.cl
  cs := fun i a c h1 h2 => by
    obtain ⟨dx, p, e, r⟩ := G.cs i a c h1 h2
    exact ⟨dx, p, k a _ e (.inr (List.mem_of_getElem? h1)), t _ _ r⟩
  nd := G.nd
  nT := G.nT

/-- what a def's own mutable things hold -/
inductive OO where
  | l (ds : List D)
  | t (ks : List (List Int)) (vs : List D)
  | o (fs : List (Str × D))
/-- a local value: data, or one of the def's own mutable things -/
inductive Lv where
  | d (x : D)
  | own (k : Nat)
structure LS where
  loc : List (Option Lv)
  own : List (Option OO)
  g : GS
/-- ghosts of a run: the entry's heap and shared things; what callers keep apart -/
structure Gh where
  Γ : Gm
  H0 : Hp
  ad0 : Ad
  B : Addr → Prop
structure Wd where
  ad : Ad
  oa : List Addr
def live (w : Wd) (own : List (Option OO)) (a : Addr) : Prop := ∃ (k : Nat) (o : OO), w.oa[k]? = some a ∧ own[k]? = some (some o)
def nbW (P : Gh) (w : Wd) (own : List (Option OO)) (a : Addr) : Prop := P.B a ∨ gad w.ad a ∨ live w own a
abbrev vwE (P : Gh) (w : Wd) (own : List (Option OO)) (H : Hp) : Vw := ⟨gad w.ad, nbW P w own, w.ad, H⟩
abbrev vwS (P : Gh) (w : Wd) (own : List (Option OO)) (H : Hp) : Vw := ⟨nbW P w own, nbW P w own, w.ad, H⟩
theorem subE {P : Gh} {w : Wd} {own : List (Option OO)} {H : Hp} : ∀ a, (vwE P w own H).ch a → (vwE P w own H).nb a := fun _ h => .inr (.inl h)
theorem subS {P : Gh} {w : Wd} {own : List (Option OO)} {H : Hp} : ∀ a, (vwS P w own H).ch a → (vwS P w own H).nb a := fun _ h => h
abbrev Adv.E (P : Gh) (w : Wd) (s : LS) (H : Hp) (w' : Wd) (s' : LS) (H' : Hp) : Prop := Adv (vwE P w s.own H) (vwE P w' s'.own H') ∧ ∀ (k : Nat) a, w.oa[k]? = some a → w'.oa[k]? = some a
abbrev Adv.S (P : Gh) (w : Wd) (s : LS) (H : Hp) (w' : Wd) (s' : LS) (H' : Hp) : Prop := Adv (vwS P w s.own H) (vwS P w' s'.own H') ∧ ∀ (k : Nat) a, w.oa[k]? = some a → w'.oa[k]? = some a
theorem Adv.toS {P : Gh} {w w' : Wd} {s s' : LS} {H H' : Hp} (p : Adv.E P w s H w' s' H') : Adv.S P w s H w' s' H' :=
  ⟨⟨fun a o h n => p.1.keep a o h fun c => n (.inr (.inl c)), p.1.tups, p.1.nbm, p.1.nbm, p.1.ad⟩, p.2⟩
def RepO (Γ : Gm) (H : Hp) (nb : Addr → Prop) (ad : Ad) : HO → OO → Prop
  | .lst xs, .l ds => Reps Γ H nb ad xs ds
  | .dT ws, .t ks vs => ws.map (·.1) = tkeys ks ∧ Reps Γ H nb ad (ws.map (·.2)) vs
  | .ins C _ us, .o fs => C = Γ.C ∧ us.map (·.1) = fs.map (·.1) ∧ Reps Γ H nb ad (us.map (·.2)) (fs.map (·.2))
  | _, _ => False
def RepL (P : Gh) (w : Wd) (own : List (Option OO)) (H : Hp) (v : V) : Lv → Prop
  | .d x => Rep P.Γ H (nbW P w own) w.ad v x
  | .own k => ∃ a, w.oa[k]? = some a ∧ v = .ref a
theorem RepL.adv {P : Gh} {w w' : Wd} {s s' : LS} {H H' : Hp} (p : Adv.E P w s H w' s' H') {v : V} : ∀ {x : Lv}, RepL P w s.own H v x → RepL P w' s'.own H' v x
  | .d x, h => Rep.mono (x := vwE P w s.own H) (y := vwE P w' s'.own H') subE p.1 h
  | .own k, ⟨a, e, r⟩ => ⟨a, p.2 k a e, r⟩
theorem RepL.advS {P : Gh} {w w' : Wd} {s s' : LS} {H H' : Hp} (p : Adv.S P w s H w' s' H') {v : V} : ∀ {x : Lv}, RepL P w s.own H v x → RepL P w' s'.own H' v x
  | .d x, h => Rep.mono (x := vwS P w s.own H) (y := vwS P w' s'.own H') subS p.1 h
  | .own k, ⟨a, e, r⟩ => ⟨a, p.2 k a e, r⟩

/-- the state: slots, own things, shared things, and how it stands to the entry -/
structure SR (P : Gh) (w : Wd) (σ : St) (H : Hp) (s : LS) : Prop where
  slot : ∀ (i : Nat) x, s.loc[i]? = some (some x) → ∃ v, σ[i]? = some (some v) ∧ RepL P w s.own H v x
  len : σ.length = s.loc.length
  ol : w.oa.length = s.own.length
  nd : w.oa.Nodup
  orel : ∀ (k : Nat) a o, w.oa[k]? = some a → s.own[k]? = some (some o) → ∃ u, H a = some u ∧ RepO P.Γ H (nbW P w s.own) w.ad u o
  oth : ∀ a, a ∈ w.oa → ∃ u, H a = some u
  ofr : ∀ a, a ∈ w.oa → P.H0 a = none
  ogd : ∀ a, a ∈ w.oa → ¬ gad w.ad a
  gr : GR P.Γ H w.ad s.g
  keep : ∀ a o, P.H0 a = some o → ¬ gad P.ad0 a → H a = some o
  tups : ∀ a xs, P.H0 a = some (.tup xs) → H a = some (.tup xs)
  gnew : ∀ a, gad w.ad a → gad P.ad0 a ∨ P.H0 a = none
  le : P.ad0.Le w.ad
  bh : ∀ a, P.B a → (∃ o, P.H0 a = some o) ∧ ¬ gad P.ad0 a

/-- what comes of running: a value, an exception of the named class, or nothing that is told -/
inductive Out (α : Type) where
  | ok (x : α) (s : LS)
  | exc (c : Str) (s : LS)
  | bad
def Out.bind {α β : Type} : Out α → (α → LS → Out β) → Out β
  | .ok x s, k => k x s
  | .exc c s, _ => .exc c s
  | .bad, _ => .bad
inductive Fl where
  | nx | ret (d : D) | bk | ct

/-- an outcome reached from (w, s, H), its value by rel -/
def At {α ν : Type} (P : Gh) (W : WX) (rel : Wd → LS → Hp → ν → α → Prop) (w : Wd) (s : LS) (σ : St) (H : Hp) (Q : ν → Hp → Prop) : Out α → Prop
  | .ok x s' => ∀ w' H' v, Adv.E P w s H w' s' H' → SR P w' σ H' s' → rel w' s' H' v x → Q v H'
  | .exc c s' => ∀ w' H', Adv.E P w s H w' s' H' → SR P w' σ H' s' → ∀ C, P.Γ.mg c = some (.ref C) → W (.ref C) none σ H'
  | .bad => False
def Rn {α ν : Type} (P : Gh) (W : WX) (rel : Wd → LS → Hp → ν → α → Prop) (f : LS → Out α) (σ : St) (H : Hp) (Q : ν → Hp → Prop) : Prop :=
  ∃ w s, SR P w σ H s ∧ At P W rel w s σ H Q (f s)
def relE (P : Gh) (w : Wd) (s : LS) (H : Hp) (v : V) (x : Lv) : Prop := RepL P w s.own H v x
def relB (P : Gh) (_ : Wd) (_ : LS) (_ : Hp) (b : Bool) (c : Bool) : Prop := b = c
inductive RepLs (P : Gh) (w : Wd) (own : List (Option OO)) (H : Hp) : List V → List Lv → Prop
  | nil : RepLs P w own H [] []
  | cons {v : V} {vs : List V} {x : Lv} {xs : List Lv} : RepL P w own H v x → RepLs P w own H vs xs → RepLs P w own H (v :: vs) (x :: xs)
def relA (P : Gh) (w : Wd) (s : LS) (H : Hp) (vs : List V) (xs : List Lv) : Prop := RepLs P w s.own H vs xs
theorem RepLs.adv {P : Gh} {w w' : Wd} {s s' : LS} {H H' : Hp} (p : Adv.E P w s H w' s' H') : ∀ {vs : List V} {xs : List Lv}, RepLs P w s.own H vs xs → RepLs P w' s'.own H' vs xs
  | _, _, .nil => .nil
  | _, _, .cons h r => .cons (h.adv p) (RepLs.adv p r)
def RE (P : Gh) (W : WX) (f : LS → Out Lv) : TE := fun σ H Q => Rn P W (relE P) f σ H Q
def RT (P : Gh) (W : WX) (f : LS → Out Bool) : TT := fun σ H Q => Rn P W (relB P) f σ H Q
def RA (P : Gh) (W : WX) (f : LS → Out (List Lv)) : TA := fun σ H Q => Rn P W (relA P) f σ H Q

theorem Adv.E.refl {P : Gh} {w : Wd} {s : LS} {H : Hp} : Adv.E P w s H w s H := ⟨Adv.refl _, fun _ _ h => h⟩
theorem Adv.E.trans {P : Gh} {w w1 w2 : Wd} {s s1 s2 : LS} {H H1 H2 : Hp} (p : Adv.E P w s H w1 s1 H1) (q : Adv.E P w1 s1 H1 w2 s2 H2) : Adv.E P w s H w2 s2 H2 :=
  ⟨Adv.trans subE p.1 q.1, fun k a h => q.2 k a (p.2 k a h)⟩
theorem Adv.S.refl {P : Gh} {w : Wd} {s : LS} {H : Hp} : Adv.S P w s H w s H := ⟨Adv.refl _, fun _ _ h => h⟩
theorem Adv.S.trans {P : Gh} {w w1 w2 : Wd} {s s1 s2 : LS} {H H1 H2 : Hp} (p : Adv.S P w s H w1 s1 H1) (q : Adv.S P w1 s1 H1 w2 s2 H2) : Adv.S P w s H w2 s2 H2 :=
  ⟨Adv.trans subS p.1 q.1, fun k a h => q.2 k a (p.2 k a h)⟩

section
variable {α β ν μ : Type} {P : Gh} {W : WX} {relX : Wd → LS → Hp → ν → α → Prop} {relY : Wd → LS → Hp → μ → β → Prop} {w w1 : Wd} {s s1 : LS} {σ : St} {H H1 : Hp}
theorem At.step {Q : ν → Hp → Prop} (p : Adv.E P w s H w1 s1 H1) : ∀ {o : Out α}, At P W relX w s σ H Q o → At P W relX w1 s1 σ H1 Q o
  | .ok _ _, h => fun w' H' v a S r => h w' H' v (p.trans a) S r
  | .exc _ _, h => fun w' H' a S C e => h w' H' (p.trans a) S C e
  | .bad, h => h
theorem At.imp {Q Q' : ν → Hp → Prop} (hq : ∀ v H', Q v H' → Q' v H') : ∀ {o : Out α}, At P W relX w s σ H Q o → At P W relX w s σ H Q' o
  | .ok _ _, h => fun w' H' v a S r => hq _ _ (h w' H' v a S r)
  | .exc _ _, h => h
  | .bad, h => h
/-- the first of two: what holds behind it -/
def Mid (P : Gh) (W : WX) (relX : Wd → LS → Hp → ν → α → Prop) (relY : Wd → LS → Hp → μ → β → Prop) (w : Wd) (s : LS) (σ : St) (H : Hp) (k : α → LS → Out β) (Q : μ → Hp → Prop) (v : ν) (H1 : Hp) : Prop :=
  ∃ w1 s1 x, SR P w1 σ H1 s1 ∧ relX w1 s1 H1 v x ∧ Adv.E P w s H w1 s1 H1 ∧ At P W relY w1 s1 σ H1 Q (k x s1)
theorem At.first {Q : μ → Hp → Prop} {k : α → LS → Out β} : ∀ {o : Out α}, At P W relY w s σ H Q (o.bind k) → At P W relX w s σ H (Mid P W relX relY w s σ H k Q) o
  | .ok x s1, h => fun w1 H1 v a S r => ⟨w1, s1, x, S, r, a, At.step a h⟩
  | .exc _ _, h => h
  | .bad, h => h
theorem At.done {Q : ν → Hp → Prop} {x : α} {v : ν} (h : At P W relX w s σ H Q (.ok x s)) (S : SR P w σ H s) (r : relX w s H v x) : Q v H := h w H v Adv.E.refl S r
end

/-- the promise of a def: its arguments and shared things as data, what it gives -/
inductive FOut where
  | ok (d : D) (g : GS)
  | exc (c : Str) (g : GS)
  | bad
structure AdvF (H : Hp) (ad : Ad) (H' : Hp) (ad' : Ad) : Prop where
  keep : ∀ a o, H a = some o → ¬ gad ad a → H' a = some o
  tups : ∀ a xs, H a = some (.tup xs) → H' a = some (.tup xs)
  gnew : ∀ a, gad ad' a → gad ad a ∨ H a = none
  le : ad.Le ad'
def nbF (B : Addr → Prop) (ad : Ad) (a : Addr) : Prop := B a ∨ gad ad a
def spF (Γ : Gm) (m : List D → GS → FOut) : Sp := fun vs H Q E => ∃ (ad : Ad) (B : Addr → Prop) (g : GS) (ds : List D), GR Γ H ad g ∧ Reps Γ H (nbF B ad) ad vs ds ∧ (∀ a, B a → (∃ o, H a = some o) ∧ ¬ gad ad a) ∧
  match m ds g with
  | .ok d g' => ∀ ad' H' v, AdvF H ad H' ad' → GR Γ H' ad' g' → Rep Γ H' (nbF B ad') ad' v d → Q v H'
  | .exc c g' => ∀ ad' H', AdvF H ad H' ad' → GR Γ H' ad' g' → ∀ C, Γ.mg c = some (.ref C) → E (.ref C) none H'
  | .bad => False
end Br

/-! Expressions over data. -/
namespace Br
open PySem L2

theorem RepO.mono {Γ : Gm} {x y : Vw} (hs : ∀ a, x.ch a → x.nb a) (p : Adv x y) : ∀ {u : HO} {o : OO}, RepO Γ x.H x.nb x.ad u o → RepO Γ y.H y.nb y.ad u o := by
  intro u o h
  cases u <;> cases o <;> first | exact (h : False).elim | exact Reps.mono hs p h | exact ⟨h.1, Reps.mono hs p h.2⟩ | exact ⟨h.1, h.2.1, Reps.mono hs p h.2.2⟩


section
variable {P : Gh} {W : WX} {w : Wd} {σ : St} {H H' : Hp} {s : LS}
theorem ext_adv (k : ∀ a o, H a = some o → H' a = some o) : Adv.E P w s H w s H' :=
  ⟨⟨fun a o h _ => k a o h, fun a xs h => k _ _ h, fun _ h => .inl h, fun _ h => .inl h, Ad.Le.refl _⟩, fun _ _ h => h⟩
/-- more objects, nothing else -/
theorem SR.more (S : SR P w σ H s) (k : ∀ a o, H a = some o → H' a = some o) : SR P w σ H' s where
  slot := fun i x h => let ⟨v, e, r⟩ := S.slot i x h; ⟨v, e, r.adv (ext_adv k)⟩
  len := S.len
  ol := S.ol
  nd := S.nd
  orel := fun i a o h1 h2 => let ⟨u, e, r⟩ := S.orel i a o h1 h2; ⟨u, k _ _ e, RepO.mono (x := vwE P w s.own H) (y := vwE P w s.own H') subE (ext_adv k : Adv.E P w s H w s H').1 r⟩
  oth := fun a h => let ⟨u, e⟩ := S.oth a h; ⟨u, k _ _ e⟩
  ofr := S.ofr
  ogd := S.ogd
  gr := S.gr.stay (fun a o h _ => k a o h) (fun a o u h => k _ _ h) fun _ _ r => k _ _ r
  keep := fun a o h n => k _ _ (S.keep a o h n)
  tups := fun a xs h => k _ _ (S.tups a xs h)
  gnew := S.gnew
  le := S.le
  bh := S.bh
theorem upd_more {p : Addr} {o : HO} (hp : H p = none) : ∀ a u, H a = some u → upd H p o a = some u := fun a u h => by
  rw [upd_ne (ne_of_none h hp)]; exact h
end

/-! ### borrowing -/
def borrow (s : LS) : Lv → Option D
  | .d x => some x
  | .own k => match s.own[k]? with
    | some (some (.l ds)) => some (.lst ds)
    | _ => none
/-- v stands for d; v itself may be a def's own list -/
def RepC (Γ : Gm) (H : Hp) (nb : Addr → Prop) (ad : Ad) (v : V) : D → Prop
  | .lst ds => ∃ a xs, v = .ref a ∧ H a = some (.lst xs) ∧ Reps Γ H nb ad xs ds
  | .non => v = .non
  | .bl b => v = .bl b
  | .int i => v = .int i
  | .str x => v = .str x
  | .ty n => v = .ty n
  | .tup ds => ∃ a xs, v = .ref a ∧ H a = some (.tup xs) ∧ Reps Γ H nb ad xs ds
  | .gl x => ∃ f, Γ.mg x = some (.ref f) ∧ v = .ref f
  | .scr => ∃ a, ad.S = some a ∧ v = .ref a
  | .town => ∃ a, ad.T = some a ∧ v = .ref a
  | .obj k => ∃ a, ad.cs[k]? = some a ∧ v = .ref a
  | .dct ks vs => ∃ a ws, v = .ref a ∧ Rd H a (.dT ws) ∧ ws.map (·.1) = tkeys ks ∧ Reps Γ H nb ad (ws.map (·.2)) vs
theorem Rep.c {Γ : Gm} {H : Hp} {nb : Addr → Prop} {ad : Ad} {v : V} {d : D} (h : Rep Γ H nb ad v d) : RepC Γ H nb ad v d := by
  cases h with
  | non => rfl
  | bl => rfl
  | int => rfl
  | str => rfl
  | ty => rfl
  | tup h r => exact ⟨_, _, rfl, h, r⟩
  | lst h n r => exact ⟨_, _, rfl, h, r⟩
  | gl h => exact ⟨_, h, rfl⟩
  | scr h => exact ⟨_, h, rfl⟩
  | town h => exact ⟨_, h, rfl⟩
  | obj h => exact ⟨_, h, rfl⟩
  | dct h n e r => exact ⟨_, _, rfl, h, e, r⟩
abbrev RepCW (P : Gh) (w : Wd) (s : LS) (H : Hp) (v : V) (d : D) : Prop := RepC P.Γ H (nbW P w s.own) w.ad v d
abbrev RepW (P : Gh) (w : Wd) (s : LS) (H : Hp) (v : V) (d : D) : Prop := Rep P.Γ H (nbW P w s.own) w.ad v d
abbrev RepsW (P : Gh) (w : Wd) (s : LS) (H : Hp) (v : List V) (d : List D) : Prop := Reps P.Γ H (nbW P w s.own) w.ad v d
section
variable {P : Gh} {W : WX} {w : Wd} {σ : St} {H H' : Hp} {s : LS}
theorem own_at (S : SR P w σ H s) {k : Nat} {a : Addr} {ds : List D} (ha : w.oa[k]? = some a) (e : s.own[k]? = some (some (.l ds))) : ∃ xs, H a = some (.lst xs) ∧ RepsW P w s H xs ds := by
  obtain ⟨u, hu, r⟩ := S.orel k a _ ha e
  cases u with
  | lst xs => exact ⟨xs, hu, r⟩
  | _ => exact r.elim
theorem borrowed (S : SR P w σ H s) {v : V} {x : Lv} {d : D} (r : RepL P w s.own H v x) (e : borrow s x = some d) : RepCW P w s H v d := by
  cases x with
  | d y => cases e; exact Rep.c r
  | own k =>
    obtain ⟨a, ha, rfl⟩ := r
    simp only [borrow] at e
    split at e
    · rename_i ds hk
      cases e
      obtain ⟨xs, h1, h2⟩ := own_at S ha hk
      exact ⟨a, xs, rfl, h1, h2⟩
    · cases e
end

/-! ### sequencing -/
def eC (d : D) : LS → Out Lv := fun s => .ok (.d d) s
def eVar (i : Nat) : LS → Out Lv := fun s => match s.loc[i]? with
  | some (some x) => .ok x s
  | _ => .bad
def aNil : LS → Out (List Lv) := fun s => .ok [] s
def aCons (f : LS → Out Lv) (g : LS → Out (List Lv)) : LS → Out (List Lv) := fun s => (f s).bind fun x s1 => (g s1).bind fun xs s2 => .ok (x :: xs) s2
/-- go on with what is there -/
def onO {α β : Type} (o : Option α) (k : α → Out β) : Out β := match o with
  | some x => k x
  | none => .bad
theorem At.onO {α β ν : Type} {P : Gh} {W : WX} {rel : Wd → LS → Hp → ν → β → Prop} {w : Wd} {s : LS} {σ : St} {H : Hp} {Q : ν → Hp → Prop} {o : Option α} {k : α → Out β} (h : At P W rel w s σ H Q (onO o k)) : ∃ x, o = some x ∧ At P W rel w s σ H Q (k x) := by
  cases o with
  | none => exact h.elim
  | some x => exact ⟨x, rfl, h⟩
def eOp (sem : D → D → LS → Out Lv) (fa fb : LS → Out Lv) : LS → Out Lv := fun s => (fa s).bind fun x s1 => (fb s1).bind fun y s2 => onO (borrow s2 x) fun d => onO (borrow s2 y) fun e => sem d e s2
def eUn (sem : D → LS → Out Lv) (fa : LS → Out Lv) : LS → Out Lv := fun s => (fa s).bind fun x s1 => onO (borrow s1 x) fun d => sem d s1
def borrows (s : LS) : List Lv → Option (List D)
  | [] => some []
  | x :: xs => match borrow s x, borrows s xs with
    | some one, some more => some (one :: more)
    | _, _ => none
def eB (sem : List D → LS → Out Lv) (f : LS → Out (List Lv)) : LS → Out Lv := fun s => (f s).bind fun xs s1 => onO (borrows s1 xs) fun ds => sem ds s1
inductive RepCs (P : Gh) (w : Wd) (s : LS) (H : Hp) : List V → List D → Prop
  | nil : RepCs P w s H [] []
  | cons {v : V} {vs : List V} {d : D} {ds : List D} : RepCW P w s H v d → RepCs P w s H vs ds → RepCs P w s H (v :: vs) (d :: ds)
theorem borroweds {P : Gh} {w : Wd} {σ : St} {H : Hp} {s : LS} (S : SR P w σ H s) : ∀ {vs : List V} {xs : List Lv} {ds : List D}, RepLs P w s.own H vs xs → borrows s xs = some ds → RepCs P w s H vs ds
  | _, _, _, .nil, e => by cases e; exact .nil
  | _, _, _, .cons (x := x) (xs := xs) h r, e => by
    simp only [borrows] at e
    split at e
    · rename_i d ds h1 h2
      cases e
      exact .cons (borrowed S h h1) (borroweds S r h2)
    · cases e

theorem PE.mono {X : Cx} {e : Expr} {t t' : TE} (h : PE X e t) (m : ∀ σ H Q, t' σ H Q → t σ H Q) : PE X e t' := ⟨fun pins s σ H Q I q => h.run pins s σ H Q I (m σ H Q q)⟩
theorem PT.mono {X : Cx} {e : Expr} {t t' : TT} (h : PT X e t) (m : ∀ σ H Q, t' σ H Q → t σ H Q) : PT X e t' := ⟨fun pins s σ H Q I q => h.run pins s σ H Q I (m σ H Q q)⟩
theorem PW.mono {X : Cx} {e : Expr} {t t' : TT} (h : PW X e t) (m : ∀ σ H Q, t' σ H Q → t σ H Q) : PW X e t' := ⟨fun whole pins s σ H Q I q => h.run whole pins s σ H Q I (m σ H Q q)⟩
theorem PA.mono {X : Cx} {es : List Expr} {t t' : TA} (h : PA X es t) (m : ∀ σ H Q, t' σ H Q → t σ H Q) : PA X es t' := ⟨fun pos pins s σ H Q I q => h.run pos pins s σ H Q I (m σ H Q q)⟩

/-- a two-place operation on data: r serves it -/
def OpS (P : Gh) (W : WX) (r : R2) (sem : D → D → LS → Out Lv) : Prop := ∀ (w : Wd) (σ : St) (H : Hp) (s : LS) (v u : V) (d e : D) (Q : VK), SR P w σ H s → RepCW P w s H v d → RepCW P w s H u e → At P W (relE P) w s σ H Q (sem d e s) → r v u H Q
def UnS (P : Gh) (W : WX) (r : V → Hp → VK → Prop) (sem : D → LS → Out Lv) : Prop := ∀ (w : Wd) (σ : St) (H : Hp) (s : LS) (v : V) (d : D) (Q : VK), SR P w σ H s → RepCW P w s H v d → At P W (relE P) w s σ H Q (sem d s) → r v H Q
def CallS (P : Gh) (W : WX) (r : List V → Hp → VK → Prop) (sem : List D → LS → Out Lv) : Prop := ∀ (w : Wd) (σ : St) (H : Hp) (s : LS) (vs : List V) (ds : List D) (Q : VK), SR P w σ H s → RepCs P w s H vs ds → At P W (relE P) w s σ H Q (sem ds s) → r vs H Q
section
variable {X : Cx} {P : Gh} {W : WX} {a b c : Expr} {es : List Expr} {fa fb fc : LS → Out Lv} {ga : LS → Out (List Lv)} {pos : Pos}
theorem re_op {r : R2} {sem : D → D → LS → Out Lv} (hs : OpS P W r sem) : ∀ σ H Q, RE P W (eOp sem fa fb) σ H Q → tOp r (RE P W fa) (RE P W fb) σ H Q := by
  rintro σ H Q ⟨w, s, S, h⟩
  refine ⟨w, s, S, (At.first h).imp ?_⟩
  rintro v H1 ⟨w1, s1, x, S1, r1, a1, h1⟩
  refine ⟨w1, s1, S1, (At.first h1).imp ?_⟩
  rintro u H2 ⟨w2, s2, y, S2, r2, a2, h2⟩
  obtain ⟨d, hx, h2⟩ := At.onO h2
  obtain ⟨e, hy, h2⟩ := At.onO h2
  exact hs w2 σ H2 s2 v u d e Q S2 (borrowed S2 (RepL.adv a2 r1) hx) (borrowed S2 r2 hy) h2
theorem de_bin {op : Operator} {r : R2} {sem : D → D → LS → Out Lv} (ho : OpR X (binaryOp op) r) (hs : OpS P W r sem) (ha : PE X a (RE P W fa)) (hb : PE X b (RE P W fb)) : PE X (.BinOp a op b pos) (RE P W (eOp sem fa fb)) :=
  PE.mono (pe_op ho ha hb) (re_op hs)
theorem de_cmp {op : CmpOp} {r : R2} {sem : D → D → LS → Out Lv} (ho : OpR X (compareOp op) r) (hs : OpS P W r sem) (ha : PE X a (RE P W fa)) (hb : PE X b (RE P W fb)) (hm : behindInMarks op b = false) : PE X (.Compare a [op] [b] pos) (RE P W (eOp sem fa fb)) :=
  PE.mono (pe_cmpR ho ha hb hm) (re_op hs)
theorem re_un {r : V → Hp → VK → Prop} {sem : D → LS → Out Lv} (hs : UnS P W r sem) : ∀ σ H Q, RE P W (eUn sem fa) σ H Q → tUn r (RE P W fa) σ H Q := by
  rintro σ H Q ⟨w, s, S, h⟩
  refine ⟨w, s, S, (At.first h).imp ?_⟩
  rintro v H1 ⟨w1, s1, x, S1, r1, a1, h1⟩
  obtain ⟨d, hx, h1⟩ := At.onO h1
  exact hs w1 σ H1 s1 v d Q S1 (borrowed S1 r1 hx) h1
theorem re_call {r : List V → Hp → VK → Prop} {sem : List D → LS → Out Lv} (hs : CallS P W r sem) : ∀ σ H Q, RE P W (eB sem ga) σ H Q → tCB r (RA P W ga) σ H Q := by
  rintro σ H Q ⟨w, s, S, h⟩
  refine ⟨w, s, S, (At.first h).imp ?_⟩
  rintro vs H1 ⟨w1, s1, x, S1, r1, a1, h1⟩
  obtain ⟨ds, hx, h1⟩ := At.onO h1
  exact hs w1 σ H1 s1 vs ds Q S1 (borroweds S1 r1 hx) h1
theorem da_nil : PA X [] (RA P W aNil) := PA.mono pa_nil fun σ H Q ⟨w, s, S, h⟩ => At.done h S RepLs.nil
theorem da_cons (ha : PE X a (RE P W fa)) (hr : PA X es (RA P W ga)) (hs : starEach (a :: es) X.env = (false, eval a X.env) :: starEach es X.env := by rfl) : PA X (a :: es) (RA P W (aCons fa ga)) :=
  PA.mono (pa_cons ha hr hs) fun σ H Q ⟨w, s, S, h⟩ => by
    refine ⟨w, s, S, (At.first h).imp ?_⟩
    rintro v H1 ⟨w1, s1, x, S1, r1, a1, h1⟩
    refine ⟨w1, s1, S1, (At.first h1).imp ?_⟩
    rintro u H2 ⟨w2, s2, y, S2, r2, a2, h2⟩
    exact At.done h2 S2 (RepLs.cons (r1.adv a2) r2)
theorem de_c {e : Expr} {v : V} {d : D} (he : PE X e (tC v)) (hr : ∀ w s H, RepW P w s H v d) : PE X e (RE P W (eC d)) := PE.mono he fun σ H Q ⟨w, s, S, h⟩ => At.done h S (hr w s H)
theorem de_int {i : Int} {j : Nat} : PE X (.Constant (.int i) j pos) (RE P W (eC (.int i))) := de_c pe_int fun _ _ _ => .int i
theorem de_bl {i : Bool} {j : Nat} : PE X (.Constant (.bool i) j pos) (RE P W (eC (.bl i))) := de_c pe_bl fun _ _ _ => .bl i
theorem de_non {j : Nat} : PE X (.Constant .none j pos) (RE P W (eC .non)) := de_c pe_non fun _ _ _ => .non
theorem de_str {x : Str} {j : Nat} : PE X (.Constant (.str x) j pos) (RE P W (eC (.str x))) := de_c pe_str fun _ _ _ => .str x
theorem de_var (i : Nat) {x : Str} (hN : X.N[i]? = some x := by rfl) (hv : Vis X.env.scope x := by first | exact Or.inl rfl | exact Or.inr (Or.inl rfl) | exact Or.inr (Or.inr rfl)) (hd : (x == ("__debug__" : Str)) = false := by decide)
    (hcd : (x == ("__classdict__" : Str)) = false := by decide) : PE X (.Name x pos) (RE P W (eVar i)) := PE.mono (pv i hN hv hd hcd) fun σ H Q ⟨w, s, S, h⟩ => by
  revert h
  simp only [eVar]
  cases hx : s.loc[i]? with
  | none => exact fun z => z.elim
  | some y =>
    cases y with
    | none => exact fun z => z.elim
    | some x =>
      intro h
      obtain ⟨v, e, r⟩ := S.slot i x hx
      exact ⟨v, e, At.done h S r⟩
/-- f(..), f a built-in function | a built-in type -/
theorem de_callB {x : Str} {id : String} {p : Pos} {r : List V → Hp → VK → Prop} {sem : List D → LS → Out Lv} {e : Expr} (hc : CallR X (.builtin id) r) (hs : CallS P W r sem) (hg : Gl X x) (hm : X.mg x = none) (hv : bootBuiltins x = some (.builtin id)) (ha : PA X (e :: es) (RA P W ga))
    (hn : x ≠ "__name__" := by decide) (hdb : (x == ("__debug__" : Str)) = false := by decide) (he : starEach (e :: es) X.env = (false, eval e X.env) :: starEach es X.env := by rfl) (hpl : (backTo pos (starEach es X.env)).any (·.1) = false := by rfl) :
    PE X (.Call (.Name x p) (e :: es) [] pos) (RE P W (eB sem ga)) := PE.mono (pe_callB hc hg hm hv ha hn hdb he hpl) (re_call hs)
theorem de_callTy {x : Str} {T : String} {p : Pos} {r : List V → Hp → VK → Prop} {sem : List D → LS → Out Lv} {e : Expr} (hc : CallR X (.type T) r) (hs : CallS P W r sem) (hg : Gl X x) (hm : X.mg x = none) (hv : bootBuiltins x = some (.type T)) (ha : PA X (e :: es) (RA P W ga))
    (hn : x ≠ "__name__" := by decide) (hdb : (x == ("__debug__" : Str)) = false := by decide) (he : starEach (e :: es) X.env = (false, eval e X.env) :: starEach es X.env := by rfl) (hpl : (backTo pos (starEach es X.env)).any (·.1) = false := by rfl) :
    PE X (.Call (.Name x p) (e :: es) [] pos) (RE P W (eB sem ga)) := PE.mono (pe_callTy hc hg hm hv ha hn hdb he hpl) (re_call hs)
end

/-! ### results -/
section
variable {P : Gh} {W : WX} {w : Wd} {σ : St} {H : Hp} {s : LS} {Q : VK}
theorem give {v : V} {d : D} (h : At P W (relE P) w s σ H Q (.ok (.d d) s)) (S : SR P w σ H s) (r : RepW P w s H v d) : Q v H := At.done h S r
theorem give_tup {xs : List V} {ds : List D} (h : At P W (relE P) w s σ H Q (.ok (.d (.tup ds)) s)) (S : SR P w σ H s) (r : RepsW P w s H xs ds) (p : Addr) (hp : H p = none) : Q (.ref p) (upd H p (.tup xs)) := by
  have k := upd_more (o := .tup xs) hp
  exact h w _ _ (ext_adv k) (S.more k) (Rep.tup upd_same (Reps.mono (x := vwE P w s.own H) (y := vwE P w s.own (upd H p (.tup xs))) subE (ext_adv k : Adv.E P w s H w s _).1 r))
theorem nb_some (S : SR P w σ H s) {a : Addr} (h : nbW P w s.own a) : ∃ o, H a = some o := by
  rcases h with h | h | ⟨k, o, h1, h2⟩
  · obtain ⟨⟨o, e⟩, n⟩ := S.bh a h
    exact ⟨o, S.keep a o e n⟩
  · rcases S.gr.at h with ⟨_, e⟩ | ⟨_, _, e⟩ <;> exact ⟨_, e⟩
  · exact S.oth a (List.mem_of_getElem? h1)
theorem give_lst {xs : List V} {ds : List D} (h : At P W (relE P) w s σ H Q (.ok (.d (.lst ds)) s)) (S : SR P w σ H s) (r : RepsW P w s H xs ds) (p : Addr) (hp : H p = none) : Q (.ref p) (upd H p (.lst xs)) := by
  have k := upd_more (o := .lst xs) hp
  refine h w _ _ (ext_adv k) (S.more k) (Rep.lst upd_same (fun c => ?_) (Reps.mono (x := vwE P w s.own H) (y := vwE P w s.own (upd H p (.lst xs))) subE (ext_adv k : Adv.E P w s H w s _).1 r))
  obtain ⟨o, e⟩ := nb_some S c
  rw [hp] at e; cases e
end
end Br

/-! What the operators and built-ins do to data. -/
namespace Br
open PySem L2

def gd {α : Type} (c : Bool) (k : Out α) : Out α := match c with
  | true => k
  | false => .bad
theorem At.gd {β ν : Type} {P : Gh} {W : WX} {rel : Wd → LS → Hp → ν → β → Prop} {w : Wd} {s : LS} {σ : St} {H : Hp} {Q : ν → Hp → Prop} {c : Bool} {k : Out β} (h : At P W rel w s σ H Q (gd c k)) : c = true ∧ At P W rel w s σ H Q k := by
  cases c with
  | false => exact h.elim
  | true => exact ⟨rfl, h⟩
theorem lim_le {n : Nat} (h : decide (n ≤ 100000) = true) : n ≤ sizeLine := Nat.le_trans (of_decide_eq_true h) (by decide)

abbrev okD (d : D) (s : LS) : Out Lv := .ok (.d d) s
def sAdd : D → D → LS → Out Lv
  | .int i, .int j, s => okD (.int (i + j)) s
  | .str x, .str y, s => gd (decide (x.length + y.length ≤ 100000)) (okD (.str (x ++ y)) s)
  | .tup xs, .tup ys, s => gd (decide (xs.length + ys.length ≤ 100000)) (okD (.tup (xs ++ ys)) s)
  | .lst xs, .lst ys, s => gd (decide (xs.length + ys.length ≤ 100000)) (okD (.lst (xs ++ ys)) s)
  | _, _, _ => .bad
def sSub : D → D → LS → Out Lv
  | .int i, .int j, s => okD (.int (i - j)) s
  | _, _, _ => .bad
def sMul : D → D → LS → Out Lv
  | .int i, .int j, s => gd ((decide (-(2 ^ 64) < i) && decide (i < 2 ^ 64)) || (decide (-(2 ^ 64) < j) && decide (j < 2 ^ 64))) (okD (.int (i * j)) s)
  | .lst xs, .int k, s => gd (decide (-(2 ^ 63) ≤ k) && decide (k < 2 ^ 63) && decide (xs.length * k.toNat ≤ 100000)) (okD (.lst (List.replicate k.toNat xs).flatten) s)
  | .tup xs, .int k, s => gd (decide (0 ≤ k) && decide (k ≤ 1000) && decide (xs.length = 1)) (okD (.tup (List.replicate k.toNat xs).flatten) s)
  | _, _, _ => .bad
def sFdiv : D → D → LS → Out Lv
  | .int i, .int j, s => gd (decide (0 < j) && decide (j < 18446744073709551616)) (okD (.int (i / j)) s)
  | _, _, _ => .bad
def sMod : D → D → LS → Out Lv
  | .int i, .int j, s => gd (decide (0 < j)) (okD (.int (i % j)) s)
  | _, _, _ => .bad
def sPow : D → D → LS → Out Lv
  | .int i, .int j, s => gd (decide (0 ≤ j) && decide (j ≤ 1000000) && decide (i.natAbs < 2 ^ 64)) (okD (.int (i ^ j.toNat)) s)
  | _, _, _ => .bad
def sLt : D → D → LS → Out Lv
  | .int i, .int j, s => okD (.bl (decide (i < j))) s
  | _, _, _ => .bad
def sLe : D → D → LS → Out Lv
  | .int i, .int j, s => okD (.bl (decide (i ≤ j))) s
  | _, _, _ => .bad
def sGt : D → D → LS → Out Lv
  | .int i, .int j, s => okD (.bl (decide (j < i))) s
  | _, _, _ => .bad
def sGe : D → D → LS → Out Lv
  | .int i, .int j, s => okD (.bl (decide (j ≤ i))) s
  | _, _, _ => .bad
def sNeg : D → LS → Out Lv
  | .int i, s => okD (.int (-i)) s
  | _, _ => .bad
mutual
def toPy : D → Option PyData
  | .non => some .none
  | .bl b => some (.bool b)
  | .int i => some (.int i)
  | .str x => some (.str x)
  | .tup ds => (toPys ds).map PyData.tuple
  | .lst ds => (toPys ds).map PyData.list
  | .ty _ => none
  | .gl _ => none
  | .scr => none
  | .town => none
  | .obj _ => none
  | .dct _ _ => none
def toPys : List D → Option (List PyData)
  | [] => some []
  | d :: ds => match toPy d, toPys ds with
    | some p, some ps => some (p :: ps)
    | _, _ => none
end
/-- as data, the script too -/
def toPyG (g : GS) : D → Option PyData
  | .scr => g.town.map fun _ => .list (g.scr.map PyData.int)
  | d => toPy d
def eqG (g : GS) (d e : D) : Option Bool := match toPyG g d, toPyG g e with
  | some p, some q => match SeqAt.shaped p && SeqAt.shaped q with
    | true => some (PyData.eqv p q)
    | false => none
  | _, _ => none
def sEq : D → D → LS → Out Lv := fun d e s => onO (eqG s.g d e) fun b => okD (.bl b) s
def sNe : D → D → LS → Out Lv := fun d e s => onO (eqG s.g d e) fun b => okD (.bl (!b)) s
def sIs : D → D → LS → Out Lv
  | .bl a, .bl b, s => okD (.bl (a == b)) s
  | .non, .non, s => okD (.bl true) s
  | .int _, .non, s => okD (.bl false) s
  | .tup _, .non, s => okD (.bl false) s
  | .lst _, .non, s => okD (.bl false) s
  | _, _, _ => .bad
def sIsNot : D → D → LS → Out Lv
  | .bl a, .bl b, s => okD (.bl (!(a == b))) s
  | .non, .non, s => okD (.bl false) s
  | .int _, .non, s => okD (.bl true) s
  | .tup _, .non, s => okD (.bl true) s
  | .lst _, .non, s => okD (.bl true) s
  | _, _, _ => .bad
/-- flat data, as values -/
def flat : D → Option V
  | .non => some .non
  | .bl b => some (.bl b)
  | .int i => some (.int i)
  | .str x => some (.str x)
  | _ => none
def flats : List D → Option (List V)
  | [] => some []
  | d :: ds => match flat d, flats ds with
    | some v, some vs => some (v :: vs)
    | _, _ => none
def sIn : D → D → LS → Out Lv
  | d, .tup ds, s => onO (flat d) fun v => onO (flats ds) fun vs => okD (.bl (inV v vs)) s
  | d, .lst ds, s => onO (flat d) fun v => onO (flats ds) fun vs => okD (.bl (inV v vs)) s
  | .str x, .str y, s => okD (.bl (!(Builtin.Str.occurrences y x 0 y.length 1).isEmpty)) s
  | _, _, _ => .bad
def sNotIn : D → D → LS → Out Lv
  | d, .tup ds, s => onO (flat d) fun v => onO (flats ds) fun vs => okD (.bl (!inV v vs)) s
  | d, .lst ds, s => onO (flat d) fun v => onO (flats ds) fun vs => okD (.bl (!inV v vs)) s
  | .str x, .str y, s => okD (.bl (!(!(Builtin.Str.occurrences y x 0 y.length 1).isEmpty))) s
  | _, _, _ => .bad
def sIx : D → D → LS → Out Lv
  | .lst ds, .int i, s => onO (atI ds i) fun d => okD d s
  | .tup ds, .int i, s => onO (atI ds i) fun d => okD d s
  | .scr, .int i, s => onO s.g.town fun _ => onO (atI s.g.scr i) fun n => okD (.int n) s
  | _, _, _ => .bad

section
variable {X : Cx} {P : Gh} {W : WX}
theorem os_add {K : PySem.W.Frag} : OpS P W (fun x y H Q => rI0 (fun i j => .int (i + j)) x y H Q ∨ (∃ i j, x = .str i ∧ y = .str j ∧ i.length + j.length ≤ sizeLine ∧ Q (.str (i ++ j)) H) ∨ rCatA K x y H Q ∨ rCat x y H Q) sAdd := by
  intro w σ H s v u d e Q S hd he h
  cases d <;> cases e <;> first | exact h.elim | skip
  · cases hd; cases he
    exact .inl ⟨_, _, rfl, rfl, give h S (.int _)⟩
  · cases hd; cases he
    obtain ⟨c, h⟩ := At.gd h
    exact .inr (.inl ⟨_, _, rfl, rfl, lim_le c, give h S (.str _)⟩)
  · obtain ⟨a, xs, rfl, ha, ra⟩ := hd
    obtain ⟨b, ys, rfl, hb, rb⟩ := he
    obtain ⟨c, h⟩ := At.gd h
    refine .inr (.inr (.inl ⟨a, b, xs, ys, rfl, rfl, SqT.of ha, SqT.of hb, ?_, ?_, ?_, ?_⟩))
    · rw [ra.length, rb.length]; exact lim_le c
    · rintro rfl
      cases ra
      exact give h S (.tup hb rb)
    · rintro _ rfl
      cases rb
      rw [List.append_nil] at h
      exact give h S (.tup ha ra)
    · exact fun _ _ p hp => give_tup h S (ra.append rb) p hp
  · obtain ⟨a, xs, rfl, ha, ra⟩ := hd
    obtain ⟨b, ys, rfl, hb, rb⟩ := he
    obtain ⟨c, h⟩ := At.gd h
    refine .inr (.inr (.inr ⟨a, b, xs, ys, rfl, rfl, ha, hb, ?_, ?_⟩))
    · rw [ra.length, rb.length]; exact lim_le c
    · exact fun p hp => give_lst h S (ra.append rb) p hp
theorem or_add : OpR X (binaryOp .Add) (fun x y H Q => rI0 (fun i j => .int (i + j)) x y H Q ∨ (∃ i j, x = .str i ∧ y = .str j ∧ i.length + j.length ≤ sizeLine ∧ Q (.str (i ++ j)) H) ∨ rCatA X.K x y H Q ∨ rCat x y H Q) :=
  op_add.or (op_add_str.or (op_catA.or op_cat))
theorem os_sub : OpS P W (rI0 fun i j => .int (i - j)) sSub := by
  intro w σ H s v u d e Q S hd he h
  cases d <;> cases e <;> first | exact h.elim | skip
  cases hd; cases he
  exact ⟨_, _, rfl, rfl, give h S (.int _)⟩
theorem os_fdiv : OpS P W (rI CDivW fun i j => .int (i / j)) sFdiv := by
  intro w σ H s v u d e Q S hd he h
  cases d <;> cases e <;> first | exact h.elim | skip
  cases hd; cases he
  obtain ⟨c, h⟩ := At.gd h
  rw [Bool.and_eq_true] at c
  have c1 := of_decide_eq_true c.1
  have c2 := of_decide_eq_true c.2
  exact ⟨_, _, rfl, rfl, wide_div (b := 64) c1 (by omega) (by decide) (by decide), give h S (.int _)⟩
theorem os_mod : OpS P W (rI (fun _ j => 0 < j) fun i j => .int (i % j)) sMod := by
  intro w σ H s v u d e Q S hd he h
  cases d <;> cases e <;> first | exact h.elim | skip
  cases hd; cases he
  obtain ⟨c, h⟩ := At.gd h
  exact ⟨_, _, rfl, rfl, of_decide_eq_true c, give h S (.int _)⟩
theorem os_pow : OpS P W (rI CPow fun i j => .int (i ^ j.toNat)) sPow := by
  intro w σ H s v u d e Q S hd he h
  cases d <;> cases e <;> first | exact h.elim | skip
  cases hd; cases he
  obtain ⟨c, h⟩ := At.gd h
  rw [Bool.and_eq_true, Bool.and_eq_true] at c
  exact ⟨_, _, rfl, rfl, ⟨of_decide_eq_true c.1.1, of_decide_eq_true c.1.2, of_decide_eq_true c.2⟩, give h S (.int _)⟩
theorem os_lt : OpS P W (rI0 fun i j => .bl (decide (i < j))) sLt := by
  intro w σ H s v u d e Q S hd he h
  cases d <;> cases e <;> first | exact h.elim | skip
  cases hd; cases he
  exact ⟨_, _, rfl, rfl, give h S (.bl _)⟩
theorem os_le : OpS P W (rI0 fun i j => .bl (decide (i ≤ j))) sLe := by
  intro w σ H s v u d e Q S hd he h
  cases d <;> cases e <;> first | exact h.elim | skip
  cases hd; cases he
  exact ⟨_, _, rfl, rfl, give h S (.bl _)⟩
theorem os_gt : OpS P W (rI0 fun i j => .bl (decide (j < i))) sGt := by
  intro w σ H s v u d e Q S hd he h
  cases d <;> cases e <;> first | exact h.elim | skip
  cases hd; cases he
  exact ⟨_, _, rfl, rfl, give h S (.bl _)⟩
theorem os_ge : OpS P W (rI0 fun i j => .bl (decide (j ≤ i))) sGe := by
  intro w σ H s v u d e Q S hd he h
  cases d <;> cases e <;> first | exact h.elim | skip
  cases hd; cases he
  exact ⟨_, _, rfl, rfl, give h S (.bl _)⟩
theorem us_neg : UnS P W (rU fun i => .int (-i)) sNeg := by
  intro w σ H s v d Q S hd h
  cases d <;> first | exact h.elim | skip
  cases hd
  exact ⟨_, rfl, give h S (.int _)⟩

mutual
theorem toPy_dp {Γ : Gm} {H : Hp} {nb : Addr → Prop} {ad : Ad} : ∀ {v : V} {d : D} {p : PyData}, Rep Γ H nb ad v d → toPy d = some p → Dp Γ.K H v p
  | _, _, _, .non, e => by simp only [toPy] at e; cases e; exact .non
  | _, _, _, .bl b, e => by simp only [toPy] at e; cases e; exact .bl b
  | _, _, _, .int i, e => by simp only [toPy] at e; cases e; exact .int i
  | _, _, _, .str x, e => by simp only [toPy] at e; cases e; exact .str x
  | _, _, _, .tup (ds := ds) h r, e => by
    simp only [toPy] at e
    cases hp : toPys ds with
    | none => rw [hp] at e; cases e
    | some ps => rw [hp] at e; cases e; exact .tup (SqT.of h) (toPys_dp r hp)
  | _, _, _, .lst (ds := ds) h n r, e => by
    simp only [toPy] at e
    cases hp : toPys ds with
    | none => rw [hp] at e; cases e
    | some ps => rw [hp] at e; cases e; exact .lst (SqL.of h) (toPys_dp r hp)
  | _, _, _, .ty _, e => by simp only [toPy] at e; cases e
  | _, _, _, .gl _, e => by simp only [toPy] at e; cases e
  | _, _, _, .scr _, e => by simp only [toPy] at e; cases e
  | _, _, _, .town _, e => by simp only [toPy] at e; cases e
  | _, _, _, .obj _, e => by simp only [toPy] at e; cases e
  | _, _, _, .dct _ _ _ _, e => by simp only [toPy] at e; cases e
theorem toPys_dp {Γ : Gm} {H : Hp} {nb : Addr → Prop} {ad : Ad} : ∀ {vs : List V} {ds : List D} {ps : List PyData}, Reps Γ H nb ad vs ds → toPys ds = some ps → DpAll Γ.K H vs ps
  | _, _, _, .nil, e => by simp only [toPys] at e; cases e; exact .nil
  | _, _, _, .cons (d := d) (ds := ds) h r, e => by
    simp only [toPys] at e
    cases hp : toPy d with
    | none => rw [hp] at e; cases e
    | some p =>
      cases hq : toPys ds with
      | none => rw [hp, hq] at e; cases e
      | some ps => rw [hp, hq] at e; cases e; exact .cons (toPy_dp h hp) (toPys_dp r hq)
end
theorem toPyC {Γ : Gm} {H : Hp} {nb : Addr → Prop} {ad : Ad} {v : V} {d : D} {p : PyData} (h : RepC Γ H nb ad v d) (e : toPy d = some p) : Dp Γ.K H v p := by
  cases d with
  | lst ds =>
    obtain ⟨a, xs, rfl, h1, h2⟩ := h
    simp only [toPy] at e
    cases hp : toPys ds with
    | none => rw [hp] at e; cases e
    | some ps => rw [hp] at e; cases e; exact .lst (SqL.of h1) (toPys_dp h2 hp)
  | tup ds =>
    obtain ⟨a, xs, rfl, h1, h2⟩ := h
    exact toPy_dp (.tup h1 h2) e
  | non => cases h; exact toPy_dp (nb := nb) (ad := ad) .non e
  | bl b => cases h; exact toPy_dp (nb := nb) (ad := ad) (.bl b) e
  | int b => cases h; exact toPy_dp (nb := nb) (ad := ad) (.int b) e
  | str b => cases h; exact toPy_dp (nb := nb) (ad := ad) (.str b) e
  | _ => simp only [toPy] at e; cases e
theorem dp_ints {K : PySem.W.Frag} {H : Hp} : ∀ ns : List Int, DpAll K H (ns.map V.int) (ns.map PyData.int)
  | [] => .nil
  | n :: ns => .cons (.int n) (dp_ints ns)
theorem scr_at {w : Wd} {σ : St} {H : Hp} {s : LS} (S : SR P w σ H s) {a : Addr} (h : w.ad.S = some a) : SqL P.Γ.K H a (s.g.scr.map V.int) := (S.gr.S a h).l
theorem toPyGC {w : Wd} {σ : St} {H : Hp} {s : LS} (S : SR P w σ H s) {v : V} {d : D} {p : PyData} (h : RepCW P w s H v d) (e : toPyG s.g d = some p) : Dp P.Γ.K H v p := by
  cases d with
  | scr =>
    obtain ⟨a, ha, rfl⟩ := h
    have e : s.g.town.map (fun _ => PyData.list (s.g.scr.map PyData.int)) = some p := e
    rw [Option.map_eq_some_iff] at e
    obtain ⟨_, _, rfl⟩ := e
    exact .lst (scr_at S ha) (dp_ints _)
  | _ => exact toPyC h e
theorem eqG_some {g : GS} {d e : D} {b : Bool} (h : eqG g d e = some b) : ∃ p q, toPyG g d = some p ∧ toPyG g e = some q ∧ SeqAt.shaped p = true ∧ SeqAt.shaped q = true ∧ b = PyData.eqv p q := by
  unfold eqG at h
  split at h
  · rename_i p q hp hq
    split at h
    · rename_i hs
      rw [Bool.and_eq_true] at hs
      cases h
      exact ⟨p, q, hp, hq, hs.1, hs.2, rfl⟩
    · cases h
  · cases h
theorem os_eq : OpS P W (rEqD P.Γ.K) sEq := by
  intro w σ H s v u d e Q S hd he h
  obtain ⟨b, hb, h⟩ := At.onO h
  obtain ⟨p, q, hp, hq, sp, sq, rfl⟩ := eqG_some hb
  exact ⟨p, q, toPyGC S hd hp, toPyGC S he hq, sp, sq, give h S (.bl _)⟩
theorem os_ne : OpS P W (rNeD P.Γ.K) sNe := by
  intro w σ H s v u d e Q S hd he h
  obtain ⟨b, hb, h⟩ := At.onO h
  obtain ⟨p, q, hp, hq, sp, sq, rfl⟩ := eqG_some hb
  exact ⟨p, q, toPyGC S hd hp, toPyGC S he hq, sp, sq, give h S (.bl _)⟩
theorem os_is : OpS P W (fun x y H Q => rIsB x y H Q ∨ (y = .non ∧ Q (.bl (decide (x = .non))) H)) sIs := by
  intro w σ H s v u d e Q S hd he h
  cases d <;> cases e <;> first | exact h.elim | skip
  · cases hd; cases he
    exact .inr ⟨rfl, give h S (.bl true)⟩
  · cases hd; cases he
    simp only [sIs, Bool.beq_eq_decide_eq] at h
    exact .inl ⟨_, _, rfl, rfl, give h S (.bl _)⟩
  · cases hd; cases he
    exact .inr ⟨rfl, give h S (.bl false)⟩
  · obtain ⟨a, xs, rfl, _⟩ := hd; cases he
    exact .inr ⟨rfl, give h S (.bl false)⟩
  · obtain ⟨a, xs, rfl, _⟩ := hd; cases he
    exact .inr ⟨rfl, give h S (.bl false)⟩
theorem os_isNot : OpS P W (fun x y H Q => rNotB x y H Q ∨ (y = .non ∧ Q (.bl (!decide (x = .non))) H)) sIsNot := by
  intro w σ H s v u d e Q S hd he h
  cases d <;> cases e <;> first | exact h.elim | skip
  · cases hd; cases he
    exact .inr ⟨rfl, give h S (.bl false)⟩
  · cases hd; cases he
    simp only [sIsNot, Bool.beq_eq_decide_eq] at h
    exact .inl ⟨_, _, rfl, rfl, give h S (.bl _)⟩
  · cases hd; cases he
    exact .inr ⟨rfl, give h S (.bl true)⟩
  · obtain ⟨a, xs, rfl, _⟩ := hd; cases he
    exact .inr ⟨rfl, give h S (.bl true)⟩
  · obtain ⟨a, xs, rfl, _⟩ := hd; cases he
    exact .inr ⟨rfl, give h S (.bl true)⟩
theorem or_is : OpR X (compareOp .Is) (fun x y H Q => rIsB x y H Q ∨ (y = .non ∧ Q (.bl (decide (x = .non))) H)) := op_isBl.or op_isN
theorem or_isNot : OpR X (compareOp .IsNot) (fun x y H Q => rNotB x y H Q ∨ (y = .non ∧ Q (.bl (!decide (x = .non))) H)) := op_notBl.or op_notN
theorem flat_rep {Γ : Gm} {H : Hp} {nb : Addr → Prop} {ad : Ad} {v u : V} {d : D} (h : RepC Γ H nb ad v d) (e : flat d = some u) : v = u ∧ flatV u = true := by
  cases d <;> simp only [flat] at e <;> cases e <;> (cases h; exact ⟨rfl, rfl⟩)
theorem flats_rep {Γ : Gm} {H : Hp} {nb : Addr → Prop} {ad : Ad} : ∀ {vs us : List V} {ds : List D}, Reps Γ H nb ad vs ds → flats ds = some us → vs = us ∧ us.all flatV = true
  | _, _, _, .nil, e => by simp only [flats] at e; cases e; exact ⟨rfl, rfl⟩
  | _, _, _, .cons (d := d) (ds := ds) h r, e => by
    simp only [flats] at e
    cases hp : flat d with
    | none => rw [hp] at e; cases e
    | some p =>
      cases hq : flats ds with
      | none => rw [hp, hq] at e; cases e
      | some ps =>
        rw [hp, hq] at e; cases e
        obtain ⟨rfl, f⟩ := flat_rep h.c hp
        obtain ⟨rfl, g⟩ := flats_rep r hq
        exact ⟨rfl, by rw [List.all_cons, f, g]; rfl⟩
theorem os_in {K : PySem.W.Frag} : OpS P W (fun x y H Q => rIn K false x y H Q ∨ (∃ i j, x = .str i ∧ y = .str j ∧ Q (.bl (!(Builtin.Str.occurrences j i 0 j.length 1).isEmpty)) H)) sIn := by
  intro w σ H s v u d e Q S hd he h
  cases e with
  | tup ds =>
    have h : At P W (relE P) w s σ H Q (onO (flat d) fun v => onO (flats ds) fun vs => okD (.bl (inV v vs)) s) := by cases d <;> exact h
    obtain ⟨a, xs, rfl, h1, h2⟩ := he
    obtain ⟨v', hv, h⟩ := At.onO h
    obtain ⟨vs, hvs, h⟩ := At.onO h
    obtain ⟨rfl, f⟩ := flat_rep hd hv
    obtain ⟨rfl, g⟩ := flats_rep h2 hvs
    exact .inl ⟨a, xs, rfl, .inr (SqT.of h1), f, g, give h S (.bl _)⟩
  | lst ds =>
    have h : At P W (relE P) w s σ H Q (onO (flat d) fun v => onO (flats ds) fun vs => okD (.bl (inV v vs)) s) := by cases d <;> exact h
    obtain ⟨a, xs, rfl, h1, h2⟩ := he
    obtain ⟨v', hv, h⟩ := At.onO h
    obtain ⟨vs, hvs, h⟩ := At.onO h
    obtain ⟨rfl, f⟩ := flat_rep hd hv
    obtain ⟨rfl, g⟩ := flats_rep h2 hvs
    exact .inl ⟨a, xs, rfl, .inl (SqL.of h1), f, g, give h S (.bl _)⟩
  | str y =>
    cases d <;> first | exact h.elim | skip
    cases hd; cases he
    exact .inr ⟨_, _, rfl, rfl, give h S (.bl _)⟩
  | _ => cases d <;> exact h.elim
theorem os_notIn {K : PySem.W.Frag} : OpS P W (fun x y H Q => rIn K true x y H Q ∨ (∃ i j, x = .str i ∧ y = .str j ∧ Q (.bl (!(!(Builtin.Str.occurrences j i 0 j.length 1).isEmpty))) H)) sNotIn := by
  intro w σ H s v u d e Q S hd he h
  cases e with
  | tup ds =>
    have h : At P W (relE P) w s σ H Q (onO (flat d) fun v => onO (flats ds) fun vs => okD (.bl (!inV v vs)) s) := by cases d <;> exact h
    obtain ⟨a, xs, rfl, h1, h2⟩ := he
    obtain ⟨v', hv, h⟩ := At.onO h
    obtain ⟨vs, hvs, h⟩ := At.onO h
    obtain ⟨rfl, f⟩ := flat_rep hd hv
    obtain ⟨rfl, g⟩ := flats_rep h2 hvs
    exact .inl ⟨a, xs, rfl, .inr (SqT.of h1), f, g, give h S (.bl _)⟩
  | lst ds =>
    have h : At P W (relE P) w s σ H Q (onO (flat d) fun v => onO (flats ds) fun vs => okD (.bl (!inV v vs)) s) := by cases d <;> exact h
    obtain ⟨a, xs, rfl, h1, h2⟩ := he
    obtain ⟨v', hv, h⟩ := At.onO h
    obtain ⟨vs, hvs, h⟩ := At.onO h
    obtain ⟨rfl, f⟩ := flat_rep hd hv
    obtain ⟨rfl, g⟩ := flats_rep h2 hvs
    exact .inl ⟨a, xs, rfl, .inl (SqL.of h1), f, g, give h S (.bl _)⟩
  | str y =>
    cases d <;> first | exact h.elim | skip
    cases hd; cases he
    exact .inr ⟨_, _, rfl, rfl, give h S (.bl _)⟩
  | _ => cases d <;> exact h.elim
theorem or_in : OpR X (compareOp .In) (fun x y H Q => rIn X.K false x y H Q ∨ (∃ i j, x = .str i ∧ y = .str j ∧ Q (.bl (!(Builtin.Str.occurrences j i 0 j.length 1).isEmpty)) H)) := op_in_seq.or op_in_str
theorem or_notIn : OpR X (compareOp .NotIn) (fun x y H Q => rIn X.K true x y H Q ∨ (∃ i j, x = .str i ∧ y = .str j ∧ Q (.bl (!(!(Builtin.Str.occurrences j i 0 j.length 1).isEmpty))) H)) := op_notIn_seq.or op_notin_str
theorem atI_reps {Γ : Gm} {H : Hp} {nb : Addr → Prop} {ad : Ad} {vs : List V} {ds : List D} {i : Int} {d : D} (r : Reps Γ H nb ad vs ds) (e : atI ds i = some d) : ∃ v, atI vs i = some v ∧ Rep Γ H nb ad v d := by
  unfold atI at e ⊢
  rw [r.length]
  cases hi : ixN ds.length i with
  | none => rw [hi] at e; cases e
  | some j =>
    rw [hi] at e
    exact r.getD e
theorem os_ix : OpS P W (rIx P.Γ.K) sIx := by
  intro w σ H s v u d e Q S hd he h
  cases d <;> cases e <;> first | exact h.elim | skip
  · obtain ⟨a, xs, rfl, h1, h2⟩ := hd
    cases he
    obtain ⟨x, hx, h⟩ := At.onO h
    obtain ⟨v, hv, r⟩ := atI_reps h2 hx
    exact .inr (.inl ⟨a, xs, _, v, rfl, rfl, SqT.of h1, hv, give h S r⟩)
  · obtain ⟨a, xs, rfl, h1, h2⟩ := hd
    cases he
    obtain ⟨x, hx, h⟩ := At.onO h
    obtain ⟨v, hv, r⟩ := atI_reps h2 hx
    exact .inl ⟨a, xs, _, v, rfl, rfl, SqL.of h1, hv, give h S r⟩
  · obtain ⟨a, ha, rfl⟩ := hd
    cases he
    obtain ⟨_, _, h⟩ := At.onO h
    obtain ⟨x, hx, h⟩ := At.onO h
    refine .inl ⟨a, _, _, .int x, rfl, rfl, scr_at S ha, ?_, give h S (.int x)⟩
    unfold atI at hx ⊢
    rw [List.length_map]
    cases hi : ixN s.g.scr.length _ with
    | none => rw [hi] at hx; cases hx
    | some j =>
      rw [hi] at hx
      have hx : s.g.scr[j]? = some x := hx
      show (s.g.scr.map V.int)[j]? = some (.int x)
      rw [List.getElem?_map, hx]; rfl
end
end Br

/-! tuple * int, any small count. -/
namespace Br
open PySem L2
/-! ### (x, ..) * 1 and (x, ..) * 0, beside the library's rule from 2 on -/
theorem times_one (l : Addr) (us : Array Value) (c : Nat) (dt : Option Addr) (sl : Array (Option Value)) (k : Tok) :
    PySem.Meets (Builtin.«tuple.__mul__» ⟨[.ref l, .int 1 k], []⟩) (fun _ R s => s.heap.get? l = some ⟨.type "tuple", dt, .seq us c, sl⟩ ∧ R (.ok (.ret (.ref l))) s) := by
  refine .of_wp fun prog w A R s both => ?_
  cases s with
  | mk heap gens drawn toks os =>
    have place := AutoSeq1.idx_int
    have here : heap.get? l = some ⟨.type "tuple", dt, .seq us c, sl⟩ := both.1
    wp_walk using wpAny_loadPart' here
    exact ⟨_, rfl, both.2⟩
theorem times_zero (l : Addr) (us : Array Value) (c : Nat) (dt : Option Addr) (sl : Array (Option Value)) (k : Tok) (some_ : us.isEmpty = false) :
    PySem.Meets (Builtin.«tuple.__mul__» ⟨[.ref l, .int 0 k], []⟩) (fun _ R s => s.heap.get? l = some ⟨.type "tuple", dt, .seq us c, sl⟩ ∧ R (.ok (.ret (.ref s.heap.objs.size))) { s with heap := s.heap.push { cls := .type "tuple", data := .seq #[] } }) := by
  refine .of_wp fun prog w A R s both => ?_
  cases s with
  | mk heap gens drawn toks os =>
    have place := AutoSeq1.idx_int
    have here : heap.get? l = some ⟨.type "tuple", dt, .seq us c, sl⟩ := both.1
    wp_walk using wpAny_loadPart' here
    exact ⟨_, rfl, both.2⟩
section
variable {X : Cx} {P : Gh} {W : WX}
def rFew (K : PySem.W.Frag) : R2 := fun x y H Q => ∃ (l : Addr) (k : Int) (xs : List V), x = .ref l ∧ y = .int k ∧ SqT K H l xs ∧ 0 < xs.length ∧ (k = 1 ∧ Q (.ref l) H ∨ k = 0 ∧ ∀ p, H p = none → Q (.ref p) (upd H p (.tup [])))
open Spec PyProof.Rows in
theorem op_few : OpR X (binaryOp .Mult) (rFew X.K) := fun pins s σ H _ _ v u Q I rx ry ⟨l, k, xs, isRef, isInt, tup, some_, which⟩ => by
  subst isRef isInt
  cases rx
  obtain ⟨t, rfl⟩ := ry
  obtain ⟨ws, vals, ⟨⟨_, dt, _, sl⟩, at0, rfl, c, rfl⟩, _⟩ := I.tuple tup
  have full : ws.toArray.isEmpty = false := by
    rw [vals.length] at some_
    rw [List.isEmpty_toArray, List.isEmpty_eq_false_iff]
    exact List.ne_nil_of_length_pos some_
  rcases which with ⟨rfl, q⟩ | ⟨rfl, q⟩
  · exact wpAny_binaryOp_repeat_ref (T := "tuple") (U := "int") (by decide) ⟨_, at0, rfl⟩ (fun s1 => typeIs_int s1 1 t) noFill_tuple_mul F.fills_int_mul F.slot_int_rmul repeat_tuple F.slot_int_index.lookup
      (call_meets F.slot_int_rmul (typeIs_int s 1 t) F.entry_int_rmul (F.args_int_rmul_2 _ _) (int_rmul_tuple 1 t l _ c dt sl) ⟨at0, rfl, ⟨_, at0, rfl⟩, call_meets F.slot_tuple_mul ⟨_, at0, rfl⟩ F.entry_tuple_mul (F.args_tuple_mul_2 _ _) (times_one l _ c dt sl t) ⟨at0, .ref l, H, I, rfl, q⟩⟩)
  · exact wpAny_binaryOp_repeat_ref (T := "tuple") (U := "int") (by decide) ⟨_, at0, rfl⟩ (fun s1 => typeIs_int s1 0 t) noFill_tuple_mul F.fills_int_mul F.slot_int_rmul repeat_tuple F.slot_int_index.lookup
      (call_meets F.slot_int_rmul (typeIs_int s 0 t) F.entry_int_rmul (F.args_int_rmul_2 _ _) (int_rmul_tuple 0 t l _ c dt sl) ⟨at0, rfl, ⟨_, at0, rfl⟩, call_meets F.slot_tuple_mul ⟨_, at0, rfl⟩ F.entry_tuple_mul (F.args_tuple_mul_2 _ _) (times_zero l _ c dt sl t full)
        ⟨at0, .ref s.heap.objs.size, upd H s.heap.objs.size (.tup []), I.laid (t' := s.toks) (o := .tup []) (fun _ _ z => Heap.get?_push_of_some _ z) (Nat.le_refl _) ⟨Nat.zero_le _, [], .nil, IsTup.new _ _⟩, rfl, q _ (I.hok.fresh (Nat.le_refl _))⟩⟩)
theorem Reps.rep {Γ : Gm} {H : Hp} {nb : Addr → Prop} {ad : Ad} {vs : List V} {ds : List D} (r : Reps Γ H nb ad vs ds) : ∀ k : Nat, Reps Γ H nb ad (List.replicate k vs).flatten (List.replicate k ds).flatten
  | 0 => .nil
  | k + 1 => by
    simp only [List.replicate_succ, List.flatten_cons]
    exact r.append (Reps.rep r k)
theorem os_mul {K : PySem.W.Frag} : OpS P W (fun x y H Q => rI CMul (fun i j => .int (i * j)) x y H Q ∨ rRep x y H Q ∨ rRepT K x y H Q ∨ rFew K x y H Q) sMul := by
  intro w σ H s v u d e Q S hd he h
  cases d <;> cases e <;> first | exact h.elim | skip
  · cases hd; cases he
    obtain ⟨c, h⟩ := At.gd h
    rw [Bool.or_eq_true, Bool.and_eq_true, Bool.and_eq_true] at c
    refine .inl ⟨_, _, rfl, rfl, ?_, give h S (.int _)⟩
    rcases c with ⟨a, b⟩ | ⟨a, b⟩
    · exact .inl ⟨of_decide_eq_true a, of_decide_eq_true b⟩
    · exact .inr ⟨of_decide_eq_true a, of_decide_eq_true b⟩
  · obtain ⟨a, xs, rfl, ha, ra⟩ := hd
    cases he
    rename_i ds k
    obtain ⟨c, h⟩ := At.gd h
    rw [Bool.and_eq_true, Bool.and_eq_true] at c
    have c1 := of_decide_eq_true c.1.1
    have c2 := of_decide_eq_true c.1.2
    have c3 := of_decide_eq_true c.2
    have hl : xs.length = 1 := by rw [ra.length]; exact c3
    have hne : xs ≠ [] := fun e => by rw [e] at hl; cases hl
    by_cases two : 2 ≤ k
    · exact .inr (.inr (.inl ⟨a, k, xs, rfl, rfl, SqT.of ha, hne, two, c2, by omega, fun p hp => give_tup h S (ra.rep _) p hp⟩))
    · refine .inr (.inr (.inr ⟨a, k, xs, rfl, rfl, SqT.of ha, by omega, ?_⟩))
      obtain rfl | rfl : k = 1 ∨ k = 0 := by omega
      · have same : (List.replicate (Int.toNat 1) ds).flatten = ds := List.append_nil ds
        rw [same] at h
        exact .inl ⟨rfl, give h S (.tup ha ra)⟩
      · exact .inr ⟨rfl, fun p hp => give_tup h S .nil p hp⟩
  · obtain ⟨a, xs, rfl, ha, ra⟩ := hd
    cases he
    obtain ⟨c, h⟩ := At.gd h
    rw [Bool.and_eq_true, Bool.and_eq_true] at c
    exact .inr (.inl ⟨a, _, xs, rfl, rfl, ha, of_decide_eq_true c.1.1, of_decide_eq_true c.1.2, by rw [ra.length]; exact lim_le c.2, fun p hp => give_lst h S (ra.rep _) p hp⟩)
theorem or_mul : OpR X (binaryOp .Mult) (fun x y H Q => rI CMul (fun i j => .int (i * j)) x y H Q ∨ rRep x y H Q ∨ rRepT X.K x y H Q ∨ rFew X.K x y H Q) := op_mul.or (op_rep.or (op_repT.or op_few))
end
end Br

/-! Built-ins over data. -/
namespace Br
open PySem L2

/-! ### plain lists of ints -/
def intsD : List D → Option (List Int)
  | [] => some []
  | .int i :: r => match intsD r with
    | some ns => some (i :: ns)
    | none => none
  | _ :: _ => none
theorem intsD_eq : ∀ {ds : List D} {ns : List Int}, intsD ds = some ns → ds = ns.map D.int
  | [], _, h => by simp only [intsD] at h; cases h; rfl
  | d :: r, ns, h => by
    cases d <;> simp only [intsD] at h <;> try cases h
    cases e : intsD r with
    | none => rw [e] at h; exact nomatch h
    | some ms => rw [e] at h; cases h; rw [intsD_eq e]; rfl
theorem intsD_map : ∀ ns : List Int, intsD (ns.map D.int) = some ns
  | [] => rfl
  | n :: ns => by show (match intsD (ns.map D.int) with | some ns => some (n :: ns) | none => none) = _; rw [intsD_map ns]
def bools : List D → Option (List Bool)
  | [] => some []
  | .bl i :: r => match bools r with
    | some ns => some (i :: ns)
    | none => none
  | _ :: _ => none
theorem bools_eq : ∀ {ds : List D} {ns : List Bool}, bools ds = some ns → ds = ns.map D.bl
  | [], _, h => by simp only [bools] at h; cases h; rfl
  | d :: r, ns, h => by
    cases d <;> simp only [bools] at h <;> try cases h
    cases e : bools r with
    | none => rw [e] at h; exact nomatch h
    | some ms => rw [e] at h; cases h; rw [bools_eq e]; rfl
theorem bools_map : ∀ ns : List Bool, bools (ns.map D.bl) = some ns
  | [] => rfl
  | n :: ns => by show (match bools (ns.map D.bl) with | some ns => some (n :: ns) | none => none) = _; rw [bools_map ns]
theorem Reps.bools_inv {Γ : Gm} {H : Hp} {nb : Addr → Prop} {ad : Ad} : ∀ {ns : List Bool} {vs : List V}, Reps Γ H nb ad vs (ns.map D.bl) → vs = ns.map V.bl
  | [], _, h => by cases h; rfl
  | n :: ns, _, h => by
    cases h with
    | cons q r =>
      cases q
      rw [Reps.bools_inv r]; rfl
def strsD : List D → Option (List Str)
  | [] => some []
  | .str i :: r => match strsD r with
    | some ns => some (i :: ns)
    | none => none
  | _ :: _ => none
theorem strsD_eq : ∀ {ds : List D} {ns : List Str}, strsD ds = some ns → ds = ns.map D.str
  | [], _, h => by simp only [strsD] at h; cases h; rfl
  | d :: r, ns, h => by
    cases d <;> simp only [strsD] at h <;> try cases h
    cases e : strsD r with
    | none => rw [e] at h; exact nomatch h
    | some ms => rw [e] at h; cases h; rw [strsD_eq e]; rfl
theorem strsD_map : ∀ ns : List Str, strsD (ns.map D.str) = some ns
  | [] => rfl
  | n :: ns => by show (match strsD (ns.map D.str) with | some ns => some (n :: ns) | none => none) = _; rw [strsD_map ns]
theorem Reps.strs_inv {Γ : Gm} {H : Hp} {nb : Addr → Prop} {ad : Ad} : ∀ {ns : List Str} {vs : List V}, Reps Γ H nb ad vs (ns.map D.str) → vs = ns.map V.str
  | [], _, h => by cases h; rfl
  | n :: ns, _, h => by
    cases h with
    | cons q r =>
      cases q
      rw [Reps.strs_inv r]; rfl
theorem Reps.strsOf {Γ : Gm} {H : Hp} {nb : Addr → Prop} {ad : Ad} : ∀ ns : List Str, Reps Γ H nb ad (ns.map V.str) (ns.map D.str)
  | [] => .nil
  | n :: ns => .cons (.str n) (Reps.strsOf ns)
/-- insertion sort -/
def ins (x : Int) : List Int → List Int
  | [] => [x]
  | y :: r => if x ≤ y then x :: y :: r else y :: ins x r
def isort : List Int → List Int
  | [] => []
  | x :: r => ins x (isort r)
theorem ins_perm (x : Int) : ∀ l : List Int, (ins x l).Perm (x :: l)
  | [] => List.Perm.refl _
  | y :: r => by
    unfold ins
    split
    · exact List.Perm.refl _
    · exact ((ins_perm x r).cons y).trans (List.Perm.swap x y r)
theorem isort_perm : ∀ l : List Int, (isort l).Perm l
  | [] => List.Perm.refl _
  | x :: r => (ins_perm x (isort r)).trans ((isort_perm r).cons x)
theorem ins_sorted (x : Int) : ∀ {l : List Int}, l.Pairwise (· ≤ ·) → (ins x l).Pairwise (· ≤ ·)
  | [], _ => List.pairwise_singleton _ _
  | y :: r, h => by
    rw [List.pairwise_cons] at h
    unfold ins
    split
    · rename_i hx
      rw [List.pairwise_cons]
      refine ⟨fun z hz => ?_, List.pairwise_cons.mpr h⟩
      obtain rfl | hz := List.mem_cons.mp hz
      · exact hx
      · exact Int.le_trans hx (h.1 z hz)
    · rename_i hx
      rw [List.pairwise_cons]
      refine ⟨fun z hz => ?_, ins_sorted x h.2⟩
      rcases List.mem_cons.mp ((ins_perm x r).mem_iff.mp hz) with rfl | hz
      · omega
      · exact h.1 z hz
theorem isort_sorted : ∀ l : List Int, (isort l).Pairwise (· ≤ ·)
  | [] => List.Pairwise.nil
  | x :: r => ins_sorted x (isort_sorted r)
theorem isort_one {l m : List Int} (hp : m.Perm l) (hs : m.Pairwise (· ≤ ·)) : m = isort l := PySem.W.ksm_same (hp.trans (isort_perm l).symm) hs (isort_sorted l)
/-- the least of a list that is not empty -/
def least : List Int → Int
  | [] => 0
  | [x] => x
  | x :: y :: r => if x ≤ least (y :: r) then x else least (y :: r)
theorem least_mem : ∀ {l : List Int}, l ≠ [] → least l ∈ l
  | [], h => absurd rfl h
  | [x], _ => List.mem_singleton.mpr rfl
  | x :: y :: r, _ => by
    unfold least
    split
    · exact List.mem_cons_self
    · exact List.mem_cons_of_mem _ (least_mem (by simp))
theorem least_le : ∀ {l : List Int} {z : Int}, z ∈ l → least l ≤ z
  | [], _, h => by simp at h
  | [x], z, h => by rw [List.mem_singleton] at h; subst h; exact Int.le_refl _
  | x :: y :: r, z, h => by
    unfold least
    obtain rfl | h := List.mem_cons.mp h
    · split <;> omega
    · have := least_le h
      split <;> omega
/-- distinct members -/
def dd : List Int → List Int
  | [] => []
  | x :: r => if r.contains x then dd r else x :: dd r
theorem dd_mem {z : Int} : ∀ {l : List Int}, z ∈ dd l ↔ z ∈ l
  | [] => Iff.rfl
  | x :: r => by
    unfold dd
    split
    · rename_i h
      rw [dd_mem, List.mem_cons]
      constructor
      · exact .inr
      · rintro (rfl | h')
        · exact List.contains_iff_mem.mp h
        · exact h'
    · rw [List.mem_cons, List.mem_cons, dd_mem]
theorem dd_nodup : ∀ l : List Int, (dd l).Nodup
  | [] => List.nodup_nil
  | x :: r => by
    unfold dd
    split
    · exact dd_nodup r
    · rename_i h
      rw [List.nodup_cons]
      refine ⟨fun c => h ?_, dd_nodup r⟩
      exact List.contains_iff_mem.mpr (dd_mem.mp c)
theorem sub_len {α : Type} [BEq α] [LawfulBEq α] : ∀ {a b : List α}, a.Nodup → (∀ x, x ∈ a → x ∈ b) → a.length ≤ b.length
  | [], zs, _, _ => Nat.zero_le zs.length
  | x :: a, b, ha, h => by
    rw [List.nodup_cons] at ha
    have hx : x ∈ b := h x List.mem_cons_self
    have := sub_len (a := a) (b := b.erase x) ha.2 fun y hy => (List.mem_erase_of_ne (fun e => ha.1 (by rw [← e]; exact hy))).mpr (h y (List.mem_cons_of_mem _ hy))
    rw [List.length_erase_of_mem hx] at this
    have hp : 0 < b.length := List.length_pos_of_mem hx
    rw [List.length_cons]
    omega
theorem same_len {α : Type} [BEq α] [LawfulBEq α] {a b : List α} (ha : a.Nodup) (hb : b.Nodup) (h : ∀ x, x ∈ a ↔ x ∈ b) : a.length = b.length :=
  Nat.le_antisymm (sub_len ha fun x hx => (h x).mp hx) (sub_len hb fun x hx => (h x).mpr hx)

/-! ### sorted of a tuple: the library's collect of a sequence, then its sort of a new list -/
section
open PyProof.Rows
theorem sorted_of {prog : Program} {w : World} {A : Around} {E : Value → Shared → Prop} {s : Shared} {t : Addr} {o : Obj} {us : Array Value} {c : Nat} {ns : List Int} {Q : Value → Shared → Prop}
    (at0 : s.heap.get? t = some o) (cls : o.cls = .type "tuple") (dat : o.data = .seq us c) (allInt : IntsAre us.toList ns) (few : us.toList.length < 64)
    (k : ∀ (mid heap : Heap) (out : Array Value) (ms : List Int), (∀ b ob, s.heap.get? b = some ob → mid.get? b = some ob) → (∀ b ob, mid.get? b = some ob → heap.get? b = some ob) → (∃ e, heap.get? mid.objs.size = some (seqObj "list" out e)) → IntsAre out.toList ms → ms.Perm ns → ms.Pairwise (· ≤ ·) → Q (.ref mid.objs.size) { s with heap := heap }) :
    wpAny (model prog w) A (call (.builtin "sorted") [.ref t]) Q E s :=
  Calls.call_function_entry kind_sorted plain_sorted entry_sorted (args_sorted1 _) (by
    have fits : us.size ≤ sizeLine := by rw [sizeLine_eq, ← Array.length_toList]; omega
    unfold Builtin.«sorted»
    refine wpAny_bind (m := checkCount "sorted" 1 1 _) (wpAny_pure (wpAny_bind (wpAny_collect_seq t (.inr rfl) at0 cls dat (fun mid old => wpAny_bind (wpAny_newList ?_ (by rw [Array.length_toList]; exact fits))) fits)))
    have made : (mid.push (seqObj "list" us.toList.toArray 0)).get? mid.objs.size = some (seqObj "list" us.toList.toArray 0) := Heap.get?_push_size _ rfl
    have grown : ∀ b ob, mid.get? b = some ob → b ≠ mid.objs.size ∧ (mid.push (seqObj "list" us.toList.toArray 0)).get? b = some ob := fun b ob z => ⟨Nat.ne_of_lt (Heap.lt_size z), Heap.get?_push_of_some _ z⟩
    refine wpAny_bind (wpAny_holding (wpAny_call_entry slot_list_sort ⟨_, made, rfl⟩ entry_list_sort (list_sort_tree made allInt few fun out ms h1 h2 h3 => ⟨_, rfl, wpAny_pure ⟨_, rfl, ?_⟩⟩) (args_list_sort _)))
    exact k mid _ out ms old (fun b ob z => (sortedHeap_old (grown b ob z).1 (Heap.lt_size (grown b ob z).2)).trans (grown b ob z).2) (sortedHeap_at made) h1 h2 h3)
end
section
variable {X : Cx} {P : Gh} {W : WX}
/-- sorted of a tuple of fewer than 64 ints -/
def rSortedT (K : PySem.W.Frag) : List V → Hp → VK → Prop := fun vs H Q => ∃ (t : Addr) (ns : List Int), vs = [V.ref t] ∧ SqT K H t (ns.map V.int) ∧ ns.length < 64 ∧
  ∀ (ms : List Int) p, ms.Perm ns → ms.Pairwise (· ≤ ·) → H p = none → Q (.ref p) (upd H p (.lst (ms.map V.int)))
theorem cr_sortedT : CallR X (.builtin "sorted") (rSortedT X.K) := fun pins s σ H _ us Q I rel ⟨t, ns, one, tup, few, k⟩ => by
  subst one
  obtain ⟨ws, vals, ⟨o, at0, cls, c, dat⟩, _⟩ := I.tuple tup
  rw [Vals.ref1 rel]
  have allInt : PyProof.Rows.IntsAre ws.toArray.toList ns := by rw [List.toList_toArray]; exact vals.ints
  refine sorted_of at0 cls dat allInt (by rw [allInt.length]; exact few) fun mid heap out ms old1 old2 ⟨e, there⟩ i1 i2 i3 => ?_
  have I1 : Inv X pins σ H { s with heap := mid } := I.kept (t' := s.toks) old1
  have len : (ms.map V.int).length ≤ sizeLine := by rw [List.length_map, i2.length_eq]; exact small64 few
  exact ⟨.ref mid.objs.size, upd H mid.objs.size (.lst (ms.map V.int)), I1.laid (t' := s.toks) (o := .lst (ms.map V.int)) old2 (Nat.le_refl _) ⟨len, out.toList, e, vals_of_ints i1, there⟩, rfl, k ms _ i2 i3 (I1.hok.fresh (Nat.le_refl _))⟩
def arg1 (sem : D → LS → Out Lv) : List D → LS → Out Lv
  | [d], s => sem d s
  | _, _ => .bad
def arg2 (sem : D → D → LS → Out Lv) : List D → LS → Out Lv
  | [d, e], s => sem d e s
  | _, _ => .bad
def sSorted : D → LS → Out Lv
  | .lst ds, s => onO (intsD ds) fun ns => gd (decide (ns.length < 64)) (okD (.lst ((isort ns).map D.int)) s)
  | .tup ds, s => onO (intsD ds) fun ns => gd (decide (ns.length < 64)) (okD (.lst ((isort ns).map D.int)) s)
  | _, _ => .bad
theorem RepCs.one {w : Wd} {s : LS} {H : Hp} {vs : List V} {d : D} (h : RepCs P w s H vs [d]) : ∃ v, vs = [v] ∧ RepCW P w s H v d := by
  cases h with
  | cons h r => cases r; exact ⟨_, rfl, h⟩
theorem RepCs.two {w : Wd} {s : LS} {H : Hp} {vs : List V} {d e : D} (h : RepCs P w s H vs [d, e]) : ∃ v u, vs = [v, u] ∧ RepCW P w s H v d ∧ RepCW P w s H u e := by
  cases h with
  | cons h r =>
    cases r with
    | cons h' r => cases r; exact ⟨_, _, rfl, h, h'⟩
theorem cs_arg1 {r : List V → Hp → VK → Prop} {sem : D → LS → Out Lv} (h : UnS P W (fun v H Q => r [v] H Q) sem) : CallS P W r (arg1 sem) := by
  intro w σ H s vs ds Q S hr q
  match ds, q with
  | [], q => exact q.elim
  | _ :: _ :: _, q => exact q.elim
  | [d], q =>
    obtain ⟨v, rfl, hv⟩ := hr.one
    exact h w σ H s v d Q S hv q
theorem cs_arg2 {r : List V → Hp → VK → Prop} {sem : D → D → LS → Out Lv} (h : OpS P W (fun v u H Q => r [v, u] H Q) sem) : CallS P W r (arg2 sem) := by
  intro w σ H s vs ds Q S hr q
  match ds, q with
  | [], q => exact q.elim
  | [_], q => exact q.elim
  | _ :: _ :: _ :: _, q => exact q.elim
  | [d, e], q =>
    obtain ⟨v, u, rfl, hv, hu⟩ := hr.two
    exact h w σ H s v u d e Q S hv hu q
theorem cs_sorted {K : PySem.W.Frag} : CallS P W (fun xs H Q => rSorted K xs H Q ∨ rSortedT K xs H Q) (arg1 sSorted) := cs_arg1 (by
  intro w σ H s v d Q S hd h
  cases d <;> first | exact h.elim | skip
  · obtain ⟨a, xs, rfl, ha, ra⟩ := hd
    obtain ⟨ns, hn, h⟩ := At.onO h
    obtain ⟨c, h⟩ := At.gd h
    rw [intsD_eq hn] at ra
    cases ra.ints_inv
    refine .inr ⟨a, ns, rfl, SqT.of ha, of_decide_eq_true c, fun ns' p h1 h2 hp => ?_⟩
    rw [isort_one h1 h2]
    exact give_lst h S (Reps.ints _) p hp
  · obtain ⟨a, xs, rfl, ha, ra⟩ := hd
    obtain ⟨ns, hn, h⟩ := At.onO h
    obtain ⟨c, h⟩ := At.gd h
    rw [intsD_eq hn] at ra
    cases ra.ints_inv
    refine .inl ⟨a, ns, rfl, SqL.of ha, of_decide_eq_true c, fun ns' p h1 h2 hp => ?_⟩
    rw [isort_one h1 h2]
    exact give_lst h S (Reps.ints _) p hp)
theorem crr_sorted : CallR X (.builtin "sorted") (fun xs H Q => rSorted X.K xs H Q ∨ rSortedT X.K xs H Q) := cr_sorted.or cr_sortedT
/-! ### len -/
def sLen : D → LS → Out Lv
  | .lst ds, s => okD (.int ds.length) s
  | .tup ds, s => okD (.int ds.length) s
  | .str x, s => gd (decide (x.length ≤ 100000)) (okD (.int x.length) s)
  | .scr, s => onO s.g.town fun _ => okD (.int s.g.scr.length) s
  | .town, s => onO s.g.town fun n => okD (.int n) s
  | _, _ => .bad
theorem cs_len : CallS P W (fun xs H Q => (∃ p ys, xs = [.ref p] ∧ (SqL P.Γ.K H p ys ∨ SqT P.Γ.K H p ys) ∧ Q (.int ys.length) H) ∨ (∃ z, xs = [.str z] ∧ z.length ≤ sizeLine ∧ Q (.int z.length) H)) (arg1 sLen) := cs_arg1 (by
  intro w σ H s v d Q S hd h
  cases d <;> first | exact h.elim | skip
  · cases hd
    obtain ⟨c, h⟩ := At.gd h
    exact .inr ⟨_, rfl, lim_le c, give h S (.int _)⟩
  · obtain ⟨a, xs, rfl, ha, ra⟩ := hd
    refine .inl ⟨a, xs, rfl, .inr (SqT.of ha), ?_⟩
    rw [ra.length]
    exact give h S (.int _)
  · obtain ⟨a, xs, rfl, ha, ra⟩ := hd
    refine .inl ⟨a, xs, rfl, .inl (SqL.of ha), ?_⟩
    rw [ra.length]
    exact give h S (.int _)
  · obtain ⟨a, ha, rfl⟩ := hd
    obtain ⟨_, _, h⟩ := At.onO h
    refine .inl ⟨a, _, rfl, .inl (scr_at S ha), ?_⟩
    rw [List.length_map]
    exact give h S (.int _)
  · obtain ⟨a, ha, rfl⟩ := hd
    obtain ⟨n, hn, h⟩ := At.onO h
    obtain ⟨m, hm, e⟩ := S.gr.T a ha
    rw [hn] at hm; cases hm
    refine .inl ⟨a, _, rfl, .inl (SqL.of e), ?_⟩
    rw [List.length_replicate]
    exact give h S (.int _))
theorem crr_len : CallR X (.builtin "len") (fun xs H Q => (∃ p ys, xs = [.ref p] ∧ (SqL X.K H p ys ∨ SqT X.K H p ys) ∧ Q (.int ys.length) H) ∨ (∃ z, xs = [.str z] ∧ z.length ≤ sizeLine ∧ Q (.int z.length) H)) := call_len_seq.or call_len_str
/-! ### tuple(x), list(x) -/
def sTuple : D → LS → Out Lv
  | .lst ds, s => okD (.tup ds) s
  | .tup ds, s => okD (.tup ds) s
  | _, _ => .bad
def sList : D → LS → Out Lv
  | .lst ds, s => okD (.lst ds) s
  | .tup ds, s => okD (.lst ds) s
  | _, _ => .bad
theorem cs_tuple {K : PySem.W.Frag} : CallS P W (fun xs H Q => ∃ p ys, xs = [.ref p] ∧ ((SqL K H p ys ∧ ∀ l, H l = none → Q (.ref l) (upd H l (.tup ys))) ∨ (SqT K H p ys ∧ Q (.ref p) H))) (arg1 sTuple) := cs_arg1 (by
  intro w σ H s v d Q S hd h
  cases d <;> first | exact h.elim | skip
  · obtain ⟨a, xs, rfl, ha, ra⟩ := hd
    exact ⟨a, xs, rfl, .inr ⟨SqT.of ha, give h S (.tup ha ra)⟩⟩
  · obtain ⟨a, xs, rfl, ha, ra⟩ := hd
    exact ⟨a, xs, rfl, .inl ⟨SqL.of ha, fun p hp => give_tup h S ra p hp⟩⟩)
theorem cs_list {K : PySem.W.Frag} : CallS P W (fun xs H Q => ∃ p ys, xs = [.ref p] ∧ (SqL K H p ys ∨ SqT K H p ys) ∧ ∀ l, H l = none → Q (.ref l) (upd H l (.lst ys))) (arg1 sList) := cs_arg1 (by
  intro w σ H s v d Q S hd h
  cases d <;> first | exact h.elim | skip
  · obtain ⟨a, xs, rfl, ha, ra⟩ := hd
    exact ⟨a, xs, rfl, .inr (SqT.of ha), fun p hp => give_lst h S ra p hp⟩
  · obtain ⟨a, xs, rfl, ha, ra⟩ := hd
    exact ⟨a, xs, rfl, .inl (SqL.of ha), fun p hp => give_lst h S ra p hp⟩)
/-! ### all, sum -/
def sAll : D → LS → Out Lv
  | .lst ds, s => onO (bools ds) fun bs => okD (.bl (bs.all id)) s
  | _, _ => .bad
def sSum : D → LS → Out Lv
  | .lst ds, s => onO (intsD ds) fun ns => okD (.int ns.sum) s
  | _, _ => .bad
theorem cs_all {K : PySem.W.Frag} : CallS P W (rAll K) (arg1 sAll) := cs_arg1 (by
  intro w σ H s v d Q S hd h
  cases d <;> first | exact h.elim | skip
  obtain ⟨a, xs, rfl, ha, ra⟩ := hd
  obtain ⟨ns, hn, h⟩ := At.onO h
  rw [bools_eq hn] at ra
  cases ra.bools_inv
  exact ⟨a, ns, rfl, SqL.of ha, give h S (.bl _)⟩)
theorem cs_sum {K : PySem.W.Frag} : CallS P W (rSum K) (arg1 sSum) := cs_arg1 (by
  intro w σ H s v d Q S hd h
  cases d <;> first | exact h.elim | skip
  obtain ⟨a, xs, rfl, ha, ra⟩ := hd
  obtain ⟨ns, hn, h⟩ := At.onO h
  rw [intsD_eq hn] at ra
  cases ra.ints_inv
  exact ⟨a, ns, rfl, SqL.of ha, give h S (.int _)⟩)
/-! ### min, max of two ints; min of a tuple or list -/
def sMax2 : D → D → LS → Out Lv
  | .int i, .int j, s => okD (.int (if j > i then j else i)) s
  | _, _, _ => .bad
def sMin2 : D → D → LS → Out Lv
  | .int i, .int j, s => okD (.int (if j < i then j else i)) s
  | _, _, _ => .bad
theorem cs_max2 : CallS P W (fun xs H Q => ∃ i j, xs = [.int i, .int j] ∧ Q (.int (if j > i then j else i)) H) (arg2 sMax2) := cs_arg2 (by
  intro w σ H s v u d e Q S hd he h
  cases d <;> cases e <;> first | exact h.elim | skip
  cases hd; cases he
  exact ⟨_, _, rfl, give h S (.int _)⟩)
theorem cs_min2 : CallS P W (fun xs H Q => ∃ i j, xs = [.int i, .int j] ∧ Q (.int (if j < i then j else i)) H) (arg2 sMin2) := cs_arg2 (by
  intro w σ H s v u d e Q S hd he h
  cases d <;> cases e <;> first | exact h.elim | skip
  cases hd; cases he
  exact ⟨_, _, rfl, give h S (.int _)⟩)
/-! ### str(i), int(x) -/
def sStr : D → LS → Out Lv
  | .int i, s => gd (decide (i.natAbs < 2 ^ 64)) (okD (.str (toString i)) s)
  | _, _ => .bad
theorem cs_str : CallS P W (fun xs H Q => ∃ i, xs = [.int i] ∧ i.natAbs.log2 < 1920 ∧ Q (.str (toString i)) H) (arg1 sStr) := cs_arg1 (by
  intro w σ H s v d Q S hd h
  cases d <;> first | exact h.elim | skip
  cases hd
  rename_i i
  obtain ⟨c, h⟩ := At.gd h
  refine ⟨i, rfl, ?_, give h S (.str _)⟩
  by_cases z : i.natAbs = 0
  · rw [z]; decide
  · have c : i.natAbs < 2 ^ 64 := of_decide_eq_true c
    have := (Nat.log2_lt z).mpr c
    omega)
def sInt : D → LS → Out Lv
  | .str x, s => onO (PySem.intText? x) fun n => gd (decide (x.length ≤ 640)) (okD (.int n) s)
  | _, _ => .bad
theorem cs_int : CallS P W (fun xs H Q => ∃ a n, xs = [.str a] ∧ PySem.intText? a = some n ∧ a.length ≤ 640 ∧ Q (.int n) H) (arg1 sInt) := cs_arg1 (by
  intro w σ H s v d Q S hd h
  cases d <;> first | exact h.elim | skip
  cases hd
  obtain ⟨n, hn, h⟩ := At.onO h
  obtain ⟨c, h⟩ := At.gd h
  exact ⟨_, n, rfl, hn, of_decide_eq_true c, give h S (.int _)⟩)
end
end Br

/-! Tests, displays, slices, calls of defs. -/
namespace Br
open PySem L2

/-! ### tests -/
def asB : Lv → LS → Out Bool
  | .d (.bl b), s => .ok b s
  | _, _ => .bad
def tV (f : LS → Out Lv) : LS → Out Bool := fun s => (f s).bind asB
def tAn (f g : LS → Out Bool) : LS → Out Bool := fun s => (f s).bind fun b s1 => match b with
  | true => g s1
  | false => .ok false s1
def tOu (f g : LS → Out Bool) : LS → Out Bool := fun s => (f s).bind fun b s1 => match b with
  | true => .ok true s1
  | false => g s1
def tNo (f : LS → Out Bool) : LS → Out Bool := fun s => (f s).bind fun b s1 => .ok (!b) s1
def eAn (f g : LS → Out Lv) : LS → Out Lv := fun s => (f s).bind fun x s1 => (asB x s1).bind fun b s2 => match b with
  | true => g s2
  | false => okD (.bl false) s2
def eOu (f g : LS → Out Lv) : LS → Out Lv := fun s => (f s).bind fun x s1 => (asB x s1).bind fun b s2 => match b with
  | true => okD (.bl true) s2
  | false => g s2
def eNo (f : LS → Out Lv) : LS → Out Lv := fun s => (f s).bind fun x s1 => (asB x s1).bind fun b s2 => okD (.bl (!b)) s2
def eIf (t : LS → Out Bool) (f g : LS → Out Lv) : LS → Out Lv := fun s => (t s).bind fun b s1 => match b with
  | true => f s1
  | false => g s1
/-- a < b < c -/
def eCh (sem sem' : D → D → LS → Out Lv) (fa fb fc : LS → Out Lv) : LS → Out Lv := fun s => (fa s).bind fun x s1 => (fb s1).bind fun y s2 => (onO (borrow s2 x) fun d => onO (borrow s2 y) fun e => sem d e s2).bind fun z s3 => (asB z s3).bind fun b s4 => match b with
  | true => (fc s4).bind fun u s5 => onO (borrow s5 y) fun e => onO (borrow s5 u) fun c => sem' e c s5
  | false => okD (.bl false) s4
section
variable {X : Cx} {P : Gh} {W : WX} {a b c : Expr} {es rest : List Expr} {fa fb fc : LS → Out Lv} {ta tb : LS → Out Bool} {ga : LS → Out (List Lv)} {pos : Pos}
variable {w : Wd} {σ : St} {H : Hp} {s : LS}
theorem At.asB {ν β : Type} {rel : Wd → LS → Hp → ν → β → Prop} {Q : ν → Hp → Prop} {x : Lv} {k : Bool → LS → Out β} {v : V} (h : At P W rel w s σ H Q ((asB x s).bind k)) (r : RepL P w s.own H v x) : ∃ b, v = .bl b ∧ At P W rel w s σ H Q (k b s) := by
  cases x with
  | own k => exact h.elim
  | d y =>
    cases y <;> first | exact h.elim | skip
    cases r
    exact ⟨_, rfl, h⟩
theorem dt_val {e : Expr} (h : PE X e (RE P W fa)) (he : ∀ whole, isTrue e X.env whole = (do let v ← whole; standAt e.pos; holding [v] (truthy v)) := by intro _; rfl) : PT X e (RT P W (tV fa)) :=
  PT.mono (pt_val h he) fun σ H Q ⟨w, s, S, h⟩ => by
    refine ⟨w, s, S, (At.first h).imp ?_⟩
    rintro v H1 ⟨w1, s1, x, S1, r1, a1, h1⟩
    have h1' : At P W (relB P) w1 s1 σ H1 Q ((asB x s1).bind fun b s => .ok b s) := by
      have e : ((asB x s1).bind fun b s => Out.ok b s) = asB x s1 := by cases asB x s1 <;> rfl
      rw [e]; exact h1
    obtain ⟨b, rfl, h2⟩ := At.asB h1' r1
    exact ⟨b, rfl, At.done h2 S1 rfl⟩
theorem dt_cmp {op : CmpOp} {r : R2} {sem : D → D → LS → Out Lv} (ho : OpR X (compareOp op) r) (hs : OpS P W r sem) (ha : PE X a (RE P W fa)) (hb : PE X b (RE P W fb)) (hm : behindInMarks op b = false) : PT X (.Compare a [op] [b] pos) (RT P W (tV (eOp sem fa fb))) :=
  PT.mono (pt_cmpR ho ha hb hm) fun σ H Q ⟨w, s, S, h⟩ => by
    refine re_op hs σ H _ ⟨w, s, S, (At.first h).imp ?_⟩
    rintro v H1 ⟨w1, s1, x, S1, r1, a1, h1⟩
    have h1' : At P W (relB P) w1 s1 σ H1 Q ((asB x s1).bind fun b s => .ok b s) := by
      have e : ((asB x s1).bind fun b s => Out.ok b s) = asB x s1 := by cases asB x s1 <;> rfl
      rw [e]; exact h1
    obtain ⟨b, rfl, h2⟩ := At.asB h1' r1
    exact ⟨b, rfl, At.done h2 S1 rfl⟩
theorem re_chain {r r' : R2} {sem sem' : D → D → LS → Out Lv} (hs : OpS P W r sem) (hs' : OpS P W r' sem') : ∀ σ H Q, RE P W (eCh sem sem' fa fb fc) σ H Q → tChain r r' (RE P W fa) (RE P W fb) (RE P W fc) σ H Q := by
  rintro σ H Q ⟨w, s, S, h⟩
  refine ⟨w, s, S, (At.first h).imp ?_⟩
  rintro v H1 ⟨w1, s1, x, S1, r1, a1, h1⟩
  refine ⟨w1, s1, S1, (At.first h1).imp ?_⟩
  rintro u H2 ⟨w2, s2, y, S2, r2, a2, h2⟩
  have h3 := At.first (relX := relE P) h2
  obtain ⟨d, hx, h4⟩ := At.onO h3
  obtain ⟨e, hy, h5⟩ := At.onO h4
  refine hs w2 σ H2 s2 v u d e _ S2 (borrowed S2 (RepL.adv a2 r1) hx) (borrowed S2 r2 hy) (h5.imp ?_)
  rintro z H3 ⟨w3, s3, zz, S3, r3, a3, h6⟩
  obtain ⟨k, rfl, h7⟩ := At.asB h6 r3
  refine ⟨k, rfl, ?_⟩
  cases k with
  | false => exact give h7 S3 (.bl false)
  | true =>
    refine ⟨w3, s3, S3, (At.first h7).imp ?_⟩
    rintro v4 H4 ⟨w4, s4, x4, S4, r4, a4, h8⟩
    obtain ⟨e', hy', h8⟩ := At.onO h8
    obtain ⟨c', hc', h8⟩ := At.onO h8
    exact hs' w4 σ H4 s4 u v4 e' c' Q S4 (borrowed S4 (RepL.adv a4 (RepL.adv a3 r2)) hy') (borrowed S4 r4 hc') h8
theorem de_chain {op op' : CmpOp} {r r' : R2} {sem sem' : D → D → LS → Out Lv} (ho : OpR X (compareOp op) r) (ho' : OpR X (compareOp op') r') (hs : OpS P W r sem) (hs' : OpS P W r' sem') (ha : PE X a (RE P W fa)) (hb : PE X b (RE P W fb)) (hc : PE X c (RE P W fc))
    (hm : lastMarks [op, op'] [b, c] = false := by with_unfolding_all rfl) : PE X (.Compare a [op, op'] [b, c] pos) (RE P W (eCh sem sem' fa fb fc)) := PE.mono (pe_chain ho ho' ha hb hc hm) (re_chain hs hs')
theorem dt_chain {op op' : CmpOp} {r r' : R2} {sem sem' : D → D → LS → Out Lv} (ho : OpR X (compareOp op) r) (ho' : OpR X (compareOp op') r') (hs : OpS P W r sem) (hs' : OpS P W r' sem') (ha : PE X a (RE P W fa)) (hb : PE X b (RE P W fb)) (hc : PE X c (RE P W fc))
    (hm : lastMarks [op, op'] [b, c] = false := by with_unfolding_all rfl) : PT X (.Compare a [op, op'] [b, c] pos) (RT P W (tV (eCh sem sem' fa fb fc))) :=
  PT.mono (pt_chain ho ho' ha hb hc hm) fun σ H Q ⟨w, s, S, h⟩ => by
    refine re_chain hs hs' σ H _ ⟨w, s, S, (At.first h).imp ?_⟩
    rintro v H1 ⟨w1, s1, x, S1, r1, a1, h1⟩
    have h1' : At P W (relB P) w1 s1 σ H1 Q ((asB x s1).bind fun b s => .ok b s) := by
      have e : ((asB x s1).bind fun b s => Out.ok b s) = asB x s1 := by cases asB x s1 <;> rfl
      rw [e]; exact h1
    obtain ⟨b, rfl, h2⟩ := At.asB h1' r1
    exact ⟨b, rfl, At.done h2 S1 rfl⟩
theorem dw_and1 (ha : PT X a (RT P W ta)) : PW X (.BoolOp .And [a] pos) (RT P W ta) := pw_and1 ha
theorem dw_or1 (ha : PT X a (RT P W ta)) : PW X (.BoolOp .Or [a] pos) (RT P W ta) := pw_or1 ha
theorem dw_and (ha : PT X a (RT P W ta)) (hb : PW X (.BoolOp .And (b :: rest) pos) (RT P W tb)) : PW X (.BoolOp .And (a :: b :: rest) pos) (RT P W (tAn ta tb)) :=
  PW.mono (pw_and ha hb) fun σ H Q ⟨w, s, S, h⟩ => by
    refine ⟨w, s, S, (At.first (relX := relB P) h).imp ?_⟩
    rintro v H1 ⟨w1, s1, x, S1, rfl, a1, h1⟩
    cases v with
    | true => exact ⟨w1, s1, S1, h1⟩
    | false => exact At.done h1 S1 rfl
theorem dw_or (ha : PT X a (RT P W ta)) (hb : PW X (.BoolOp .Or (b :: rest) pos) (RT P W tb)) : PW X (.BoolOp .Or (a :: b :: rest) pos) (RT P W (tOu ta tb)) :=
  PW.mono (pw_or ha hb) fun σ H Q ⟨w, s, S, h⟩ => by
    refine ⟨w, s, S, (At.first (relX := relB P) h).imp ?_⟩
    rintro v H1 ⟨w1, s1, x, S1, rfl, a1, h1⟩
    cases v with
    | false => exact ⟨w1, s1, S1, h1⟩
    | true => exact At.done h1 S1 rfl
theorem dt_w {e : Expr} (h : PW X e (RT P W ta)) : PT X e (RT P W ta) := h.pt
theorem dt_not (ha : PT X a (RT P W ta)) : PT X (.UnaryOp .Not a pos) (RT P W (tNo ta)) :=
  PT.mono (pt_not ha) fun σ H Q ⟨w, s, S, h⟩ => by
    refine ⟨w, s, S, (At.first (relX := relB P) h).imp ?_⟩
    rintro v H1 ⟨w1, s1, x, S1, rfl, a1, h1⟩
    exact At.done h1 S1 rfl
theorem de_one {op : BoolOp} (h : PE X a (RE P W fa)) : PE X (.BoolOp op [a] pos) (RE P W fa) := pe_one h
theorem de_and (ha : PE X a (RE P W fa)) (hb : PE X (.BoolOp .And (b :: rest) pos) (RE P W fb)) : PE X (.BoolOp .And (a :: b :: rest) pos) (RE P W (eAn fa fb)) :=
  PE.mono (pe_and ha hb) fun σ H Q ⟨w, s, S, h⟩ => by
    refine ⟨w, s, S, (At.first (relX := relE P) h).imp ?_⟩
    rintro v H1 ⟨w1, s1, x, S1, r1, a1, h1⟩
    obtain ⟨b, rfl, h2⟩ := At.asB h1 r1
    refine ⟨b, rfl, ?_⟩
    cases b with
    | true => exact ⟨w1, s1, S1, h2⟩
    | false => exact give h2 S1 (.bl false)
theorem de_or (ha : PE X a (RE P W fa)) (hb : PE X (.BoolOp .Or (b :: rest) pos) (RE P W fb)) : PE X (.BoolOp .Or (a :: b :: rest) pos) (RE P W (eOu fa fb)) :=
  PE.mono (pe_or ha hb) fun σ H Q ⟨w, s, S, h⟩ => by
    refine ⟨w, s, S, (At.first (relX := relE P) h).imp ?_⟩
    rintro v H1 ⟨w1, s1, x, S1, r1, a1, h1⟩
    obtain ⟨b, rfl, h2⟩ := At.asB h1 r1
    refine ⟨b, rfl, ?_⟩
    cases b with
    | false => exact ⟨w1, s1, S1, h2⟩
    | true => exact give h2 S1 (.bl true)
theorem de_not (ha : PE X a (RE P W fa)) : PE X (.UnaryOp .Not a pos) (RE P W (eNo fa)) :=
  PE.mono (pe_not ha) fun σ H Q ⟨w, s, S, h⟩ => by
    refine ⟨w, s, S, (At.first (relX := relE P) h).imp ?_⟩
    rintro v H1 ⟨w1, s1, x, S1, r1, a1, h1⟩
    obtain ⟨b, rfl, h2⟩ := At.asB h1 r1
    exact ⟨b, rfl, give h2 S1 (.bl _)⟩
theorem de_if {t : Expr} (hc : PT X t (RT P W ta)) (ha : PE X a (RE P W fa)) (hb : PE X b (RE P W fb)) : PE X (.IfExp t a b pos) (RE P W (eIf ta fa fb)) :=
  PE.mono (pe_ifExp hc ha hb) fun σ H Q ⟨w, s, S, h⟩ => by
    refine ⟨w, s, S, (At.first (relX := relB P) h).imp ?_⟩
    rintro v H1 ⟨w1, s1, x, S1, rfl, a1, h1⟩
    cases v with
    | true => exact ⟨w1, s1, S1, h1⟩
    | false => exact ⟨w1, s1, S1, h1⟩
theorem de_neg (ha : PE X a (RE P W fa)) : PE X (.UnaryOp .USub a pos) (RE P W (eUn sNeg fa)) := PE.mono (pe_un un_neg ha) (re_un us_neg)
theorem de_ix (ha : PE X a (RE P W fa)) (hb : PE X b (RE P W fb)) (hs : PlainIx b := by exact fun _ _ => rfl) (hK : X.K = P.Γ.K := by rfl) : PE X (.Subscript a b pos) (RE P W (eOp sIx fa fb)) := PE.mono (pe_ix ix_seq ha hb hs) (by rw [hK]; exact re_op os_ix)

/-! ### displays -/
/-- an own thing is given away: from here on it does not change -/
def thaw (k : Nat) (d : D) : Option Lv → Option Lv
  | some (.own j) => if j = k then some (.d d) else some (.own j)
  | x => x
def freeze (x : Lv) (s : LS) : Out D := match x with
  | .d d => .ok d s
  | .own k => match s.own[k]? with
    | some (some (.l ds)) => .ok (.lst ds) { s with loc := s.loc.map (thaw k (.lst ds)), own := s.own.set k none }
    | _ => .bad
def plains : List Lv → Option (List D)
  | [] => some []
  | .d d :: r => match plains r with
    | some ds => some (d :: ds)
    | none => none
  | .own _ :: _ => none
def eTup (f : LS → Out (List Lv)) : LS → Out Lv := fun s => (f s).bind fun xs s1 => onO (plains xs) fun ds => gd (decide (ds.length ≤ 100000)) (okD (.tup ds) s1)
def eLst (f : LS → Out (List Lv)) : LS → Out Lv := fun s => (f s).bind fun xs s1 => onO (plains xs) fun ds => gd (decide (ds.length ≤ 100000)) (okD (.lst ds) s1)
/-- a new list that the def keeps for itself -/
def newOwn (ds : List D) (s : LS) : Out Lv := .ok (.own s.own.length) { s with own := s.own ++ [some (.l ds)] }
def eLstO (f : LS → Out (List Lv)) : LS → Out Lv := fun s => (f s).bind fun xs s1 => onO (plains xs) fun ds => gd (decide (ds.length ≤ 100000)) (newOwn ds s1)
theorem plains_rep : ∀ {vs : List V} {xs : List Lv} {ds : List D}, RepLs P w s.own H vs xs → plains xs = some ds → RepsW P w s H vs ds
  | _, _, _, .nil, e => by simp only [plains] at e; cases e; exact .nil
  | _, _, _, .cons (x := x) (xs := xs) h r, e => by
    cases x with
    | own k => simp only [plains] at e; cases e
    | d y =>
      simp only [plains] at e
      cases hq : plains xs with
      | none => rw [hq] at e; cases e
      | some ps => rw [hq] at e; cases e; exact .cons h (plains_rep r hq)
theorem de_tup {k : Nat} (h : PA X es (RA P W ga)) : PE X (.Tuple es k pos) (RE P W (eTup ga)) :=
  PE.mono (pe_tup h) fun σ H Q ⟨w, s, S, h⟩ => by
    refine ⟨w, s, S, (At.first (relX := relA P) h).imp ?_⟩
    rintro v H1 ⟨w1, s1, x, S1, r1, a1, h1⟩
    obtain ⟨ds, hd, h1⟩ := At.onO h1
    obtain ⟨c, h1⟩ := At.gd h1
    have r := plains_rep r1 hd
    exact ⟨by rw [r.length]; exact lim_le c, fun p hp => give_tup h1 S1 r p hp⟩
theorem de_lst (h : PA X es (RA P W ga)) : PE X (.List es pos) (RE P W (eLst ga)) :=
  PE.mono (pe_lst h) fun σ H Q ⟨w, s, S, h⟩ => by
    refine ⟨w, s, S, (At.first (relX := relA P) h).imp ?_⟩
    rintro v H1 ⟨w1, s1, x, S1, r1, a1, h1⟩
    obtain ⟨ds, hd, h1⟩ := At.onO h1
    obtain ⟨c, h1⟩ := At.gd h1
    have r := plains_rep r1 hd
    exact ⟨by rw [r.length]; exact lim_le c, fun p hp => give_lst h1 S1 r p hp⟩
theorem live_push {own : List (Option OO)} {oa : List Addr} {ad : Ad} {p a : Addr} {o : OO} (hl : oa.length = own.length) (h : live ⟨ad, oa ++ [p]⟩ (own ++ [some o]) a) : live ⟨ad, oa⟩ own a ∨ a = p := by
  obtain ⟨k, u, h1, h2⟩ := h
  by_cases hk : k < oa.length
  · have h1 : (oa ++ [p])[k]? = some a := h1
    rw [List.getElem?_append_left hk] at h1
    rw [List.getElem?_append_left (by omega)] at h2
    exact .inl ⟨k, u, h1, h2⟩
  · have h1 : (oa ++ [p])[k]? = some a := h1
    rw [List.getElem?_append_right (by omega)] at h1
    have hz : k - oa.length = 0 := by
      cases hz : k - oa.length with
      | zero => rfl
      | succ n => rw [hz] at h1; simp at h1
    rw [hz] at h1
    simp at h1
    exact .inr h1.symm
/-- a new own list -/
theorem give_own {Q : VK} {xs : List V} {ds : List D} (h : At P W (relE P) w s σ H Q (newOwn ds s)) (S : SR P w σ H s) (r : RepsW P w s H xs ds) (p : Addr) (hp : H p = none) : Q (.ref p) (upd H p (.lst xs)) := by
  have k := upd_more (o := .lst xs) hp
  have nop : ∀ a, nbW P w s.own a → a ≠ p := fun a c e => by
    obtain ⟨o, q⟩ := nb_some S c
    rw [e, hp] at q; cases q
  have pn : p ∉ w.oa := fun c => by
    obtain ⟨u, q⟩ := S.oth p c
    rw [hp] at q; cases q
  have nb1 : ∀ a, nbW P ⟨w.ad, w.oa ++ [p]⟩ (s.own ++ [some (.l ds)]) a → nbW P w s.own a ∨ a = p := fun a c => by
    rcases c with c | c | c
    · exact .inl (.inl c)
    · exact .inl (.inr (.inl c))
    · rcases live_push S.ol c with c | c
      · exact .inl (.inr (.inr c))
      · exact .inr c
  have A : Adv.E P w s H ⟨w.ad, w.oa ++ [p]⟩ { s with own := s.own ++ [some (.l ds)] } (upd H p (.lst xs)) :=
    ⟨⟨fun a o q _ => k a o q, fun a xs q => k a _ q, fun _ q => .inl q, fun a c => (nb1 a c).elim .inl fun e => .inr (by rw [e]; exact hp), Ad.Le.refl _⟩, fun i a q => by
      show (w.oa ++ [p])[i]? = some a
      rw [List.getElem?_append_left (List.getElem?_eq_some_iff.mp q).1]; exact q⟩
  have R : Reps P.Γ (upd H p (.lst xs)) (nbW P ⟨w.ad, w.oa ++ [p]⟩ (s.own ++ [some (.l ds)])) w.ad xs ds := Reps.mono (x := vwE P w s.own H) (y := vwE P ⟨w.ad, w.oa ++ [p]⟩ (s.own ++ [some (.l ds)]) (upd H p (.lst xs))) subE A.1 r
  have memA : ∀ a, a ∈ w.oa ++ [p] → a ∈ w.oa ∨ a = p := fun a q => by
    rcases List.mem_append.mp q with q | q
    · exact .inl q
    · exact .inr (List.mem_singleton.mp q)
  refine h ⟨w.ad, w.oa ++ [p]⟩ _ _ A ?_ ⟨p, ?_, rfl⟩
  · refine ⟨fun i x q => ?_, S.len, ?_, ?_, fun i a o q1 q2 => ?_, fun a q => ?_, fun a q => ?_, fun a q => ?_, ?_, ?_, ?_, S.gnew, S.le, S.bh⟩
    · obtain ⟨v, e, r⟩ := S.slot i x q
      exact ⟨v, e, r.adv A⟩
    · show (w.oa ++ [p]).length = (s.own ++ [some (OO.l ds)]).length
      rw [List.length_append, List.length_append, S.ol]; rfl
    · show (w.oa ++ [p]).Nodup
      rw [List.nodup_append]
      exact ⟨S.nd, List.nodup_cons.mpr ⟨by simp, List.nodup_nil⟩, fun a ha b hb e => by
        rw [List.mem_singleton] at hb
        subst hb; subst e
        exact pn ha⟩
    · have q1 : (w.oa ++ [p])[i]? = some a := q1
      have q2 : (s.own ++ [some (.l ds)])[i]? = some (some o) := q2
      by_cases hi : i < w.oa.length
      · rw [List.getElem?_append_left hi] at q1
        rw [List.getElem?_append_left (by rw [← S.ol]; exact hi)] at q2
        obtain ⟨u, e, r⟩ := S.orel i a o q1 q2
        exact ⟨u, k _ _ e, RepO.mono (x := vwE P w s.own H) (y := vwE P ⟨w.ad, w.oa ++ [p]⟩ (s.own ++ [some (.l ds)]) (upd H p (.lst xs))) subE A.1 r⟩
      · rw [List.getElem?_append_right (by omega)] at q1
        rw [List.getElem?_append_right (by rw [← S.ol]; omega)] at q2
        have hz : i - w.oa.length = 0 := by
          cases hz : i - w.oa.length with
          | zero => rfl
          | succ n => rw [hz] at q1; simp at q1
        rw [hz] at q1
        rw [← S.ol, hz] at q2
        simp at q1 q2
        subst q1; subst q2
        exact ⟨.lst xs, upd_same, R⟩
    · rcases memA a q with q | rfl
      · obtain ⟨u, e⟩ := S.oth a q
        exact ⟨u, k _ _ e⟩
      · exact ⟨_, upd_same⟩
    · rcases memA a q with q | rfl
      · exact S.ofr a q
      · cases e : P.H0 a with
        | none => rfl
        | some o =>
          by_cases g : gad P.ad0 a
          · have g' : gad w.ad a := by
              rcases g with g | g
              · exact .inl (S.le.T a g)
              · obtain ⟨n, hn, en⟩ := List.getElem_of_mem g
                have := S.le.cs n a (by rw [List.getElem?_eq_some_iff]; exact ⟨hn, en⟩)
                exact .inr (List.mem_of_getElem? this)
            exact absurd rfl (nop a (.inr (.inl g')))
          · have := S.keep a o e g
            rw [hp] at this; cases this
    · rcases memA a q with q | rfl
      · exact S.ogd a q
      · exact fun c => absurd rfl (nop a (.inr (.inl c)))
    · exact S.gr.stay (fun a o q _ => k a o q) (fun a o u q => k _ _ q) fun _ _ q => k _ _ q
    · exact fun a o q n => k _ _ (S.keep a o q n)
    · exact fun a ys q => k _ _ (S.tups a ys q)
  · show (w.oa ++ [p])[s.own.length]? = some p
    rw [← S.ol, List.getElem?_append_right (Nat.le_refl _)]
    simp
theorem de_lstO (h : PA X es (RA P W ga)) : PE X (.List es pos) (RE P W (eLstO ga)) :=
  PE.mono (pe_lst h) fun σ H Q ⟨w, s, S, h⟩ => by
    refine ⟨w, s, S, (At.first (relX := relA P) h).imp ?_⟩
    rintro v H1 ⟨w1, s1, x, S1, r1, a1, h1⟩
    obtain ⟨ds, hd, h1⟩ := At.onO h1
    obtain ⟨c, h1⟩ := At.gd h1
    have r := plains_rep r1 hd
    exact ⟨by rw [r.length]; exact lim_le c, fun p hp => give_own h1 S1 r p hp⟩
end
end Br

/-! enumerate over whatever has an iterator, with one argument; then over a tuple whose items are told at the start. -/
namespace Br
open PySem L2 PySem.Spec PyProof.Rows
/-- the cell of an enumerate that has given nothing yet -/
def cellE (src : Addr) : Obj := { cls := .type "enumerate", data := .fields #[.none, .bool false, .ref src, rawInt 0, .none, .none] }
/-- making one, for every source that Begins knows -/
theorem made_enum {v : Value} {src : Obj} {Hs : Heap → Prop} (B : Begins v src Hs) : Meets (Builtin.«enumerate.__new__» ⟨[.type "enumerate", v], []⟩)
    (fun _ R s => Hs s.heap ∧ R (.ok (.ret (.ref (s.heap.push src).objs.size))) { s with heap := (s.heap.push src).push (cellE s.heap.objs.size) }) := by
  refine .of_wp fun prog w A R s both => ?_
  cases s with
  | mk heap gens drawn toks os =>
    have begun : ∀ {A' : Around} {E : Value → Shared → Prop} {Q : Value → Shared → Prop}, Q (.ref heap.objs.size) ⟨heap.push src, gens, drawn, toks, os⟩ → wpAny (model prog w) A' (pyIter v) Q E ⟨heap, gens, drawn, toks, os⟩ :=
      B.iter prog w _ _ ⟨heap, gens, drawn, toks, os⟩ _ both.1
    have sub := sub_enumerate
    wp_walk using begun
    refine wpAny_stack_any fun _ => wpAny_pure ?_
    split
    case h_1 c _ _ _ _ _ => cases (c == Value.type "enumerate") <;> (wp_walk using begun; exact ⟨_, rfl, both.2⟩)
    all_goals (wp_walk using begun; exact ⟨_, rfl, both.2⟩)
theorem call_enum {prog : Program} {w : World} {A : Around} {E : Value → Shared → Prop} {s : Shared} {v : Value} {src : Obj} {Hs : Heap → Prop} {Q : Value → Shared → Prop} (B : Begins v src Hs) (at0 : Hs s.heap)
    (k : Q (.ref (s.heap.objs.size + 1)) { s with heap := (s.heap.push src).push (cellE s.heap.objs.size) }) : wpAny (model prog w) A (call (.type "enumerate") [v]) Q E s := by
  have one : (s.heap.push src).objs.size = s.heap.objs.size + 1 := Heap.size_push ..
  have there : ((s.heap.push src).push (cellE s.heap.objs.size)).get? (s.heap.objs.size + 1) = some (cellE s.heap.objs.size) := one ▸ Heap.get?_push_size _ rfl
  have g := callType_new (prog := prog) (w := w) (A := A) (E := E) (s := s) (Q := Q) F.called_enumerate (by decide) (F.typeCall_enumerate_1 _) (F.newCall_enumerate_1 _) (fun ob => F.args_object_init_2 ob _) F.entry_enumerate_new (made_enum B)
  refine g ⟨at0, ?_⟩
  rw [one]
  exact ⟨⟨_, there, rfl⟩, k⟩
/-- pairs (place, item) of the tuple at a, whose items are xs -/
def ItE (K : PySem.W.Frag) (a : Addr) (xs : List V) : It where
  go := fun i H => SqT K H a xs ∧ i < xs.length
  yld := fun i H v H' => ∃ T x, xs[i]? = some x ∧ v = .ref T ∧ H T = none ∧ H' = upd H T (.tup [.int (i : Nat), x])
  stop := fun i H => SqT K H a xs ∧ i = xs.length
/-- its two own cells after i pairs, apart from the tuple -/
structure AtE (a e it : Addr) (i : Nat) (h : Heap) : Prop where
  own : ∃ last, IsEnum h e it ((i : Nat) : Int) last
  src : h.IsTupleIter it a i
  ei : e ≠ it
  ai : a ≠ it
  ae : a ≠ e
theorem two_of {e it : Addr} {C : Addr → Prop} (h1 : C e) (h2 : C it) : ∀ b ∈ [e, it], C b := fun b m => (List.mem_cons.mp m).elim (fun z => z ▸ h1) fun m' => List.mem_singleton.mp m' ▸ h2
theorem turnE {P : Program} {w : World} {K : PySem.W.Frag} {elts : List Expr} {kk : Nat} {tpos : Pos} (a e it : Addr) (xs : List V) : Turn P w K (.Tuple elts kk tpos) (ItE K a xs) [e, it] e (AtE a e it) where
  mem := List.mem_cons_self
  obj := fun i h st => two_of (C := fun b => ∃ o, h.get? b = some o ∧ ∀ v, o.data ≠ .cell v)
    (let ⟨_, own⟩ := st.own; ⟨_, own, fun _ z => nomatch z⟩)
    (let ⟨o, at_, _, dat⟩ := st.src; ⟨o, at_, fun _ z => nomatch dat.symm.trans z⟩)
  keep := fun i h h' st same => ⟨st.own.imp fun _ own => same e List.mem_cons_self _ own, st.src.at fun o here => same it (by simp) o here, st.ei, st.ai, st.ae⟩
  item := fun X hP hw hK calm i pins s σ H E I free st ⟨tup, lt⟩ => by
    cases hP; cases hw; cases hK
    obtain ⟨last, own⟩ := st.own
    obtain ⟨us, vals, isT, _⟩ := I.tuple tup
    have lt' : i < us.toArray.size := by rw [List.size_toArray, ← vals.length]; exact lt
    have draw := Draws.tuple (prog := X.prog) (w := X.w) (A := X.A.in1) (I.ok.hd calm) it a st.ai us.toArray
    refine wpAny_pyNext_enum_itemD draw own ⟨st.src, isT⟩ lt' st.ei (fun m => ?_) fun u heap1 tk hu out src1 pair _ rest => ⟨_, rfl, ?_⟩
    · rcases List.mem_cons.mp m with z | z
      · exact st.ei z
      · exact st.ae (List.mem_singleton.mp z).symm
    refine wpAny_letOwnedTupleGo_enum (s := { s with heap := heap1, toks := tk + 1 }) out fun heap2 own2 but => ?_
    have young : e < s.heap.objs.size ∧ it < s.heap.objs.size := ⟨Heap.lt_size own, let ⟨_, z, _⟩ := st.src; Heap.lt_size z⟩
    obtain ⟨x, hx, rx⟩ : ∃ x, xs[i]? = some x ∧ RelV x u := by
      obtain ⟨u', hu', r'⟩ := vals.get (List.getElem?_eq_getElem lt)
      have same : u' = u := Option.some.inj (hu'.symm.trans (by simpa using hu))
      exact ⟨_, List.getElem?_eq_getElem lt, same ▸ r'⟩
    have fresh : H s.heap.objs.size = none := I.hok.fresh (Nat.le_refl _)
    have pair2 : heap2.get? s.heap.objs.size = some { cls := .type "tuple", data := .seq #[.int i tk, u] } := (but.2 _ (Nat.ne_of_gt young.1)).trans pair
    have okPair : ObjOk X.prog X.w (upd H s.heap.objs.size (.tup [.int (i : Nat), x])) heap2 s.heap.objs.size (.tup [.int (i : Nat), x]) := ⟨(by decide : 2 ≤ sizeLine), [.int i tk, u], .cons ⟨tk, rfl⟩ (.cons rx .nil), ⟨_, pair2, rfl, _, rfl⟩⟩
    have others : ∀ b o, b ∉ [e, it] → s.heap.get? b = some o → heap2.get? b = some o := fun b o far here => by
      have ne1 : b ≠ e := fun z => far (z ▸ List.mem_cons_self)
      have ne2 : b ≠ it := fun z => far (z ▸ List.mem_cons_of_mem _ List.mem_cons_self)
      exact (but.2 b ne1).trans (rest b o ne1 ne2 here)
    refine ⟨.ref s.heap.objs.size, _, I.turnedNew (ch := [e, it]) others free (Nat.le_refl _) okPair, rfl, ⟨_, x, hx, rfl, fresh, rfl⟩, ⟨⟨u, by rw [Int.natCast_add]; exact own2⟩, src1.1.at fun o here => (but.2 it st.ei.symm).trans here, st.ei, st.ai, st.ae⟩, fun b m => ?_⟩
    have old : b < s.heap.objs.size := two_of (C := (· < s.heap.objs.size)) young.1 young.2 b m
    exact (upd_ne (Nat.ne_of_lt old)).trans (free b m).1
  done := fun X hP hw hK calm i pins s σ H E I free st ⟨tup, end_⟩ => by
    cases hP; cases hw; cases hK
    obtain ⟨last, own⟩ := st.own
    obtain ⟨us, vals, isT, _⟩ := I.tuple tup
    have all : i = us.toArray.size := by rw [List.size_toArray, ← vals.length]; exact end_
    have draw := Draws.tuple (prog := X.prog) (w := X.w) (A := X.A.in1) (I.ok.hd calm) it a st.ai us.toArray
    have fr := free it (by simp)
    exact wpAny_pyNext_enum_endD draw own (all ▸ ⟨st.src, isT⟩) fun heap1 but => ⟨rfl, I.turned (t' := s.toks) but fr.1 fr.2.1 fr.2.2.2.1 fr.2.2.2.2.1 fr.2.2.2.2.2⟩
  self := fun A i s Q E st q => st.own.elim fun _ own => wpAny_pyIter_enum own q
/-- enumerate of one expression that comes as a list (the library's Ite) or as a tuple -/
def iEnumB (K : PySem.W.Frag) (ta : TA) : TI := fun σ H R => ta σ H fun vs H1 => ∃ a xs, vs = [.ref a] ∧ (SqL K H1 a xs ∧ R (Ite K a) H1 ∨ SqT K H1 a xs ∧ R (ItE K a xs) H1)
section
variable {h : Heap} {src : Obj}
theorem cells_keep {b : Addr} {o : Obj} (z : h.get? b = some o) : ((h.push src).push (cellE h.objs.size)).get? b = some o := Heap.get?_push_of_some _ (Heap.get?_push_of_some _ z)
theorem cells_own : IsEnum ((h.push src).push (cellE h.objs.size)) (h.objs.size + 1) h.objs.size ((0 : Nat) : Int) .none :=
  (Heap.size_push .. : (h.push src).objs.size = h.objs.size + 1) ▸ Heap.get?_push_size _ rfl
theorem cells_src (free : src.isFreed = false) : ((h.push src).push (cellE h.objs.size)).get? h.objs.size = some src := Heap.get?_push_of_some _ (Heap.get?_push_size _ free)
theorem cells_new : ∀ b ∈ [h.objs.size + 1, h.objs.size], h.objs.size ≤ b := two_of (C := (h.objs.size ≤ ·)) (Nat.le_succ _) (Nat.le_refl _)
end
theorem pi_enumB {X : Cx} {e : Expr} {ta : TA} {p pos tpos : Pos} {elts : List Expr} {kk : Nat} (hg : Gl X "enumerate") (hm : X.mg "enumerate" = none) (ha : PA X [e] ta) (hs : starEach [e] X.env = [(false, eval e X.env)] := by rfl) :
    PI X (.Tuple elts kk tpos) (.Call (.Name "enumerate" p) [e] [] pos) (iEnumB X.K ta) where
  run := fun pins s σ H R I h => Call_ (ld_blt I hg hm boot_enumerate (callWith_type1 (thn (ha.run pos pins s σ H _ I h) fun us s1 ⟨vs, H1, I1, rel, a, xs, one, either⟩ => by
    cases one
    cases rel with
    | cons r1 none_ =>
      cases none_
      cases r1
      rcases either with ⟨isSeq, r⟩ | ⟨isSeq, r⟩
      · obtain ⟨ws, _, isL, _⟩ := I1.list isSeq
        refine call_enum (begins_list a ws.toArray) isL.isList (wpAny_pyIter_enum cells_own ⟨s1.heap.objs.size + 1, [s1.heap.objs.size + 1, s1.heap.objs.size], _, Ite X.K a, H1, rfl, I1.kept (t' := s1.toks) fun _ _ => cells_keep, turn_enum a _ _, ?_, fun b m => I1.fpOk (cells_new b m) (I1.hok.fresh (cells_new b m)), r⟩)
        exact ⟨⟨_, cells_own⟩, ⟨_, cells_src rfl, rfl, rfl⟩, Nat.succ_ne_self _⟩
      · obtain ⟨ws, _, isT, _⟩ := I1.tuple isSeq
        have low : a < s1.heap.objs.size := let ⟨_, z, _⟩ := isT; Heap.lt_size z
        refine call_enum (begins_tuple a ws.toArray) isT (wpAny_pyIter_enum cells_own ⟨s1.heap.objs.size + 1, [s1.heap.objs.size + 1, s1.heap.objs.size], _, ItE X.K a xs, H1, rfl, I1.kept (t' := s1.toks) fun _ _ => cells_keep, turnE a _ _ xs, ?_, fun b m => I1.fpOk (cells_new b m) (I1.hok.fresh (cells_new b m)), r⟩)
        exact ⟨⟨_, cells_own⟩, ⟨_, cells_src rfl, rfl, rfl⟩, Nat.succ_ne_self _, Nat.ne_of_lt low, Nat.ne_of_lt (Nat.lt_succ_of_lt low)⟩) hs rfl))
theorem walkE {K : PySem.W.Frag} {a : Addr} {xs : List V} : Walk (ItE K a xs) xs.length (fun H => SqT K H a xs) (YPair (fun i => some (.int (i : Nat))) (fun i => xs[i]?)) :=
  ⟨fun i H lt tup => ⟨tup, lt⟩, fun H tup => ⟨tup, rfl⟩, fun i H v H' _ _ ⟨T, x, hx, hv, hT, hH⟩ => ⟨T, .int (i : Nat), x, hv, hT, hH, rfl, hx⟩⟩
end Br

/-! What is walked; statements; loops. -/
namespace Br
open PySem L2

/-! ### giving an own list away -/
section
variable {P : Gh} {W : WX} {w : Wd} {σ : St} {H H' : Hp} {s s' : LS}
theorem own_free (S : SR P w σ H s) {k : Nat} {a : Addr} (ha : w.oa[k]? = some a) : ¬ nbW P w (s.own.set k none) a := fun c => by
  have hm : a ∈ w.oa := List.mem_of_getElem? ha
  rcases c with c | c | ⟨j, o, h1, h2⟩
  · obtain ⟨⟨o, e⟩, _⟩ := S.bh a c
    rw [S.ofr a hm] at e; cases e
  · exact S.ogd a hm c
  · have hj : j = k := by
      obtain ⟨l1, e1⟩ := List.getElem?_eq_some_iff.mp h1
      obtain ⟨l2, e2⟩ := List.getElem?_eq_some_iff.mp ha
      exact (List.getElem_inj S.nd).mp (e1.trans e2.symm)
    subst hj
    by_cases hl : j < s.own.length
    · rw [List.getElem?_set_self hl] at h2; cases h2
    · rw [List.getElem?_eq_none (by simpa using hl)] at h2; cases h2
theorem nb_less {k : Nat} {a : Addr} (h : nbW P w (s.own.set k none) a) : nbW P w s.own a := by
  rcases h with h | h | ⟨j, o, h1, h2⟩
  · exact .inl h
  · exact .inr (.inl h)
  · refine .inr (.inr ⟨j, o, h1, ?_⟩)
    by_cases e : k = j
    · subst e
      by_cases hl : k < s.own.length
      · rw [List.getElem?_set_self hl] at h2; cases h2
      · rw [List.getElem?_eq_none (by simpa using hl)] at h2; cases h2
    · rw [List.getElem?_set_ne e] at h2; exact h2
theorem frozen (S : SR P w σ H s) {v : V} {x : Lv} {d : D} (r : RepL P w s.own H v x) (e : freeze x s = .ok d s') : SR P w σ H s' ∧ Adv.E P w s H w s' H ∧ RepW P w s' H v d := by
  cases x with
  | d y => cases e; exact ⟨S, Adv.E.refl, r⟩
  | own k =>
    obtain ⟨a, ha, rfl⟩ := r
    simp only [freeze] at e
    split at e
    · rename_i ds hk
      cases e
      have A : Adv.E P w s H w { s with loc := s.loc.map (thaw k (.lst ds)), own := s.own.set k none } H :=
        ⟨⟨fun _ _ h _ => h, fun _ _ h => h, fun _ h => .inl h, fun _ h => .inl (nb_less h), Ad.Le.refl _⟩, fun _ _ h => h⟩
      obtain ⟨xs, h1, h2⟩ := own_at S ha hk
      have R : Rep P.Γ H (nbW P w (s.own.set k none)) w.ad (.ref a) (.lst ds) := .lst h1 (own_free S ha) (Reps.less (fun b c => nb_less c) h2)
      refine ⟨⟨fun i x q => ?_, ?_, ?_, S.nd, fun i b o q1 q2 => ?_, S.oth, S.ofr, S.ogd, S.gr, S.keep, S.tups, S.gnew, S.le, S.bh⟩, A, R⟩
      · have q : (s.loc.map (thaw k (.lst ds)))[i]? = some (some x) := q
        rw [List.getElem?_map] at q
        cases hz : s.loc[i]? with
        | none => rw [hz] at q; cases q
        | some y =>
          rw [hz] at q
          have q : thaw k (.lst ds) y = some x := Option.some.inj q
          cases y with
          | none => cases q
          | some y =>
            obtain ⟨v, ev, rv⟩ := S.slot i y hz
            refine ⟨v, ev, ?_⟩
            cases y with
            | d z =>
              cases q
              exact RepL.adv A rv
            | own j =>
              simp only [thaw] at q
              split at q
              · rename_i ej
                cases q
                subst ej
                obtain ⟨b, hb, rfl⟩ := rv
                rw [ha] at hb; cases hb
                exact R
              · cases q
                exact RepL.adv A rv
      · show σ.length = (s.loc.map _).length
        rw [List.length_map]; exact S.len
      · show w.oa.length = (s.own.set k none).length
        rw [List.length_set]; exact S.ol
      · have q2 : (s.own.set k none)[i]? = some (some o) := q2
        by_cases ek : k = i
        · subst ek
          by_cases hl : k < s.own.length
          · rw [List.getElem?_set_self hl] at q2; cases q2
          · rw [List.getElem?_eq_none (by simpa using hl)] at q2; cases q2
        · rw [List.getElem?_set_ne ek] at q2
          obtain ⟨u, e1, r1⟩ := S.orel i b o q1 q2
          exact ⟨u, e1, RepO.mono (x := vwE P w s.own H) (y := vwE P w (s.own.set k none) H) subE A.1 r1⟩
    · cases e
theorem At.freeze {ν β : Type} {rel : Wd → LS → Hp → ν → β → Prop} {Q : ν → Hp → Prop} {x : Lv} {k : D → LS → Out β} {v : V} (h : At P W rel w s σ H Q ((Br.freeze x s).bind k)) (S : SR P w σ H s) (r : RepL P w s.own H v x) :
    ∃ d s', SR P w σ H s' ∧ Adv.E P w s H w s' H ∧ RepW P w s' H v d ∧ At P W rel w s' σ H Q (k d s') := by
  cases e : Br.freeze x s with
  | ok d s' =>
    obtain ⟨S', A, R⟩ := frozen S r e
    rw [e] at h
    exact ⟨d, s', S', A, R, At.step A h⟩
  | exc c s' =>
    cases x with
    | d y => cases e
    | own k => simp only [Br.freeze] at e; split at e <;> cases e
  | bad => rw [e] at h; exact h.elim
end

/-! ### what is walked -/
abbrev Lat := Vw → Prop
def IW (Γ : Gm) (L : Lat) (J : It) (ds : List D) : Prop := ∃ (G : Hp → Prop) (Y : Nat → Hp → V → Hp → Prop), Walk J ds.length G Y ∧ (∀ y, L y → G y.H) ∧
  ∀ i y x H', i < ds.length → L y → Y i y.H x H' → (∀ a o, y.H a = some o → H' a = some o) ∧ ∃ d, ds[i]? = some d ∧ Rep Γ H' y.nb y.ad x d
def latS (P : Gh) (w : Wd) (s : LS) (H : Hp) : Lat := fun y => Adv (vwS P w s.own H) y
def relI (P : Gh) (w : Wd) (s : LS) (H : Hp) (J : It) (ds : List D) : Prop := IW P.Γ (latS P w s H) J ds
def RI (P : Gh) (W : WX) (f : LS → Out (List D)) : TI := fun σ H R => Rn P W (relI P) f σ H R
theorem PI.mono {X : Cx} {tg e : Expr} {t t' : TI} (h : PI X tg e t) (m : ∀ σ H Q, t' σ H Q → t σ H Q) : PI X tg e t' := ⟨fun pins s σ H Q I q => h.run pins s σ H Q I (m σ H Q q)⟩
theorem PI.or {X : Cx} {tg e : Expr} {t t' : TI} (h : PI X tg e t) (h' : PI X tg e t') : PI X tg e (fun σ H R => t σ H R ∨ t' σ H R) := ⟨fun pins s σ H Q I q => q.elim (h.run pins s σ H Q I) (h'.run pins s σ H Q I)⟩

def seqOf : D → LS → Out (List D)
  | .lst ds, s => .ok ds s
  | .tup ds, s => .ok ds s
  | _, _ => .bad
def iSeq (f : LS → Out Lv) : LS → Out (List D) := fun s => (f s).bind fun x s1 => (freeze x s1).bind seqOf
def numD : Nat → List D → List D
  | _, [] => []
  | i, d :: r => .tup [.int (i : Nat), d] :: numD (i + 1) r
theorem numD_get : ∀ (ds : List D) (k i : Nat), (numD k ds)[i]? = ds[i]?.map fun d => D.tup [.int ((k + i : Nat) : Int), d]
  | [], _, _ => by simp [numD]
  | d :: r, k, 0 => by simp [numD]
  | d :: r, k, i + 1 => by
    have := numD_get r (k + 1) i
    have e : k + 1 + i = k + (i + 1) := by omega
    rw [e] at this
    simpa [numD] using this
theorem numD_len : ∀ (ds : List D) (k : Nat), (numD k ds).length = ds.length
  | [], _ => rfl
  | _ :: r, k => by simp [numD, numD_len r (k + 1)]
def iEnum (f : LS → Out Lv) : LS → Out (List D) := fun s => (iSeq f s).bind fun ds s1 => .ok (numD 0 ds) s1
def zipD : List D → List D → List D
  | a :: r, b :: q => .tup [a, b] :: zipD r q
  | _, _ => []
theorem zipD_len : ∀ (a b : List D), (zipD a b).length = min a.length b.length
  | [], _ => by simp [zipD]
  | _ :: _, [] => by simp [zipD]
  | _ :: r, _ :: q => by simp [zipD, zipD_len r q]
theorem zipD_get : ∀ (a b : List D) (i : Nat) (x y : D), a[i]? = some x → b[i]? = some y → (zipD a b)[i]? = some (.tup [x, y])
  | [], _, _, _, _, h, _ => nomatch h
  | _ :: _, [], _, _, _, _, h => nomatch h
  | _ :: _, _ :: _, 0, _, _, h1, h2 => by simp at h1 h2; subst h1; subst h2; rfl
  | _ :: r, _ :: q, i + 1, x, y, h1, h2 => by
    have := zipD_get r q i x y (by simpa using h1) (by simpa using h2)
    simpa [zipD] using this
def rgD (lo : Int) : Nat → List D
  | 0 => []
  | n + 1 => .int lo :: rgD (lo + 1) n
theorem rgD_len : ∀ (n : Nat) (lo : Int), (rgD lo n).length = n
  | 0, _ => rfl
  | n + 1, lo => by simp [rgD, rgD_len n (lo + 1)]
theorem rgD_get : ∀ (n : Nat) (lo : Int) (i : Nat), i < n → (rgD lo n)[i]? = some (.int (lo + i))
  | 0, _, _, h => nomatch h
  | n + 1, lo, 0, _ => by simp [rgD]
  | n + 1, lo, i + 1, h => by
    have := rgD_get n (lo + 1) i (by omega)
    have e : lo + 1 + (i : Int) = lo + ((i + 1 : Nat) : Int) := by omega
    rw [e] at this
    simpa [rgD] using this
def rgC (lo c : Int) : Nat → List D
  | 0 => []
  | n + 1 => .int lo :: rgC (lo + c) c n
theorem rgC_len : ∀ (n : Nat) (lo c : Int), (rgC lo c n).length = n
  | 0, _, _ => rfl
  | n + 1, lo, c => by simp [rgC, rgC_len n (lo + c) c]
theorem rgC_get : ∀ (n : Nat) (lo c : Int) (i : Nat), i < n → (rgC lo c n)[i]? = some (.int (lo + i * c))
  | 0, _, _, _, h => absurd h (Nat.not_lt_zero _)
  | n + 1, lo, c, 0, _ => by simp [rgC]
  | n + 1, lo, c, i + 1, h => by
    have := rgC_get n (lo + c) c i (by omega)
    have e : lo + c + (i : Int) * c = lo + ((i + 1 : Nat) : Int) * c := by
      rw [Int.natCast_add, Int.add_mul]
      omega
    rw [e] at this
    simpa [rgC] using this
def small (i : Int) : Bool := decide (-(2 ^ 40) ≤ i) && decide (i < 2 ^ 40)
def intArgs : List Lv → Option (List Int)
  | [] => some []
  | .d (.int i) :: r => match intArgs r with
    | some is => some (i :: is)
    | none => none
  | _ :: _ => none
theorem intArgs_rep {P : Gh} {w : Wd} {own : List (Option OO)} {H : Hp} : ∀ {vs : List V} {xs : List Lv} {is : List Int}, RepLs P w own H vs xs → intArgs xs = some is → vs = is.map V.int
  | _, _, _, .nil, e => by simp only [intArgs] at e; cases e; rfl
  | _, _, _, .cons (x := x) (xs := xs) h r, e => by
    cases x with
    | own k => simp only [intArgs] at e; cases e
    | d y =>
      cases y <;> simp only [intArgs] at e <;> try cases e
      cases hq : intArgs xs with
      | none => rw [hq] at e; cases e
      | some ps => rw [hq] at e; cases e; cases h; rw [intArgs_rep r hq]; rfl
def rng1 : List Int → LS → Out (List D)
  | [j], s => gd (small j) (.ok (rgD 0 j.toNat) s)
  | _, _ => .bad
def rng2 : List Int → LS → Out (List D)
  | [i, j], s => gd (small i && small j) (.ok (rgD i (j - i).toNat) s)
  | _, _ => .bad
def rng3 : List Int → LS → Out (List D)
  | [i, j, c], s => gd (small i && small j && decide (c = -1)) (.ok (rgC i c (i - j).toNat) s)
  | _, _ => .bad
def iRng (r : List Int → LS → Out (List D)) (f : LS → Out (List Lv)) : LS → Out (List D) := fun s => (f s).bind fun xs s1 => onO (intArgs xs) fun is => r is s1
section
variable {X : Cx} {P : Gh} {W : WX} {tg a b c : Expr} {es : List Expr} {fa fb : LS → Out Lv} {ga : LS → Out (List Lv)} {p pos : Pos}
theorem iw_list {w : Wd} {s : LS} {H : Hp} {a : Addr} {xs : List V} {ds : List D} (h : H a = some (.lst xs)) (n : ¬ nbW P w s.own a) (r : RepsW P w s H xs ds) : IW P.Γ (latS P w s H) (Itl P.Γ.K a) ds := by
  have wk := walk_list (K := P.Γ.K) (a := a) (xs := xs)
  rw [r.length] at wk
  refine ⟨_, _, wk, fun z L => SqL.of (L.keep a _ h n), fun i z x H' hi L y => ?_⟩
  obtain ⟨rfl, e⟩ := y
  obtain ⟨d, ed, rd⟩ := (Reps.mono (x := vwS P w s.own H) (y := z) subS L r).get e
  exact ⟨fun _ _ q => q, d, ed, rd⟩
theorem iw_tup {w : Wd} {s : LS} {H : Hp} {a : Addr} {xs : List V} {ds : List D} (h : H a = some (.tup xs)) (r : RepsW P w s H xs ds) : IW P.Γ (latS P w s H) (Itt P.Γ.K a) ds := by
  have wk := walk_tup (K := P.Γ.K) (a := a) (xs := xs)
  rw [r.length] at wk
  refine ⟨_, _, wk, fun z L => SqT.of (L.tups a _ h), fun i z x H' hi L y => ?_⟩
  obtain ⟨rfl, e⟩ := y
  obtain ⟨d, ed, rd⟩ := (Reps.mono (x := vwS P w s.own H) (y := z) subS L r).get e
  exact ⟨fun _ _ q => q, d, ed, rd⟩
theorem ext_adv0 {nb : Addr → Prop} {ad : Ad} {H H' : Hp} (k : ∀ a o, H a = some o → H' a = some o) : Adv ⟨fun _ => False, nb, ad, H⟩ ⟨fun _ => False, nb, ad, H'⟩ :=
  ⟨fun a o h _ => k a o h, fun a xs h => k _ _ h, fun _ h => .inl h, fun _ h => .inl h, Ad.Le.refl _⟩
theorem Rep.ext {Γ : Gm} {nb : Addr → Prop} {ad : Ad} {H H' : Hp} {v : V} {d : D} (k : ∀ a o, H a = some o → H' a = some o) (h : Rep Γ H nb ad v d) : Rep Γ H' nb ad v d :=
  Rep.mono (x := ⟨fun _ => False, nb, ad, H⟩) (y := ⟨fun _ => False, nb, ad, H'⟩) (fun _ c => c.elim) (ext_adv0 k) h
theorem Reps.ext {Γ : Gm} {nb : Addr → Prop} {ad : Ad} {H H' : Hp} {v : List V} {d : List D} (k : ∀ a o, H a = some o → H' a = some o) (h : Reps Γ H nb ad v d) : Reps Γ H' nb ad v d :=
  Reps.mono (x := ⟨fun _ => False, nb, ad, H⟩) (y := ⟨fun _ => False, nb, ad, H'⟩) (fun _ c => c.elim) (ext_adv0 k) h
theorem pair_rep {Γ : Gm} {nb : Addr → Prop} {ad : Ad} {H : Hp} {T : Addr} {x y : V} {d e : D} (hT : H T = none) (h1 : Rep Γ H nb ad x d) (h2 : Rep Γ H nb ad y e) : Rep Γ (upd H T (.tup [x, y])) nb ad (.ref T) (.tup [d, e]) :=
  .tup upd_same (.cons (h1.ext (upd_more hT)) (.cons (h2.ext (upd_more hT)) .nil))
theorem iw_enumL {w : Wd} {s : LS} {H : Hp} {a : Addr} {xs : List V} {ds : List D} (h : H a = some (.lst xs)) (n : ¬ nbW P w s.own a) (r : RepsW P w s H xs ds) : IW P.Γ (latS P w s H) (Ite P.Γ.K a) (numD 0 ds) := by
  have wk := walk_enum (K := P.Γ.K) (a := a) (xs := xs)
  rw [r.length, ← numD_len ds 0] at wk
  refine ⟨_, _, wk, fun z L => SqL.of (L.keep a _ h n), fun i z v H' hi L y => ?_⟩
  obtain ⟨T, x, y, rfl, hT, rfl, e1, e2⟩ := y
  cases e1
  obtain ⟨d, ed, rd⟩ := (Reps.mono (x := vwS P w s.own H) (y := z) subS L r).get e2
  refine ⟨upd_more hT, _, by rw [numD_get, ed]; simp, pair_rep hT (.int _) rd⟩
theorem iw_enumT {w : Wd} {s : LS} {H : Hp} {a : Addr} {xs : List V} {ds : List D} (h : H a = some (.tup xs)) (r : RepsW P w s H xs ds) : IW P.Γ (latS P w s H) (ItE P.Γ.K a xs) (numD 0 ds) := by
  have wk := walkE (K := P.Γ.K) (a := a) (xs := xs)
  rw [r.length, ← numD_len ds 0] at wk
  refine ⟨_, _, wk, fun z L => SqT.of (L.tups a _ h), fun i z v H' hi L y => ?_⟩
  obtain ⟨T, x, y, rfl, hT, rfl, e1, e2⟩ := y
  cases e1
  obtain ⟨d, ed, rd⟩ := (Reps.mono (x := vwS P w s.own H) (y := z) subS L r).get e2
  refine ⟨upd_more hT, _, by rw [numD_get, ed]; simp, pair_rep hT (.int _) rd⟩
theorem iw_range {Γ : Gm} {L : Lat} {lo : Int} {n : Nat} : IW Γ L (Itr lo n) (rgD lo n) := by
  have wk := walk_range (lo := lo) (n := n)
  refine ⟨_, _, (by rw [rgD_len]; exact wk), fun _ _ => trivial, fun i z v H' hi _ y => ?_⟩
  obtain ⟨rfl, rfl⟩ := y
  rw [rgD_len] at hi
  exact ⟨fun _ _ q => q, _, rgD_get n lo i hi, .int _⟩
theorem iw_rangeC {Γ : Gm} {L : Lat} {lo c : Int} {n : Nat} : IW Γ L (Itc lo c n) (rgC lo c n) := by
  have wk := walk_rangeC (lo := lo) (c := c) (n := n)
  refine ⟨_, _, (by rw [rgC_len]; exact wk), fun _ _ => trivial, fun i z v H' hi _ y => ?_⟩
  obtain ⟨rfl, rfl⟩ := y
  rw [rgC_len] at hi
  exact ⟨fun _ _ q => q, _, rgC_get n lo c i hi, .int _⟩
theorem seq_at {ν β : Type} {rel : Wd → LS → Hp → ν → β → Prop} {w : Wd} {s : LS} {σ : St} {H : Hp} {Q : ν → Hp → Prop} {k : List D → LS → Out β} {v : V} {d : D} (h : At P W rel w s σ H Q ((seqOf d s).bind k)) (r : RepW P w s H v d) :
    ∃ ds, ((∃ a xs, v = .ref a ∧ H a = some (.lst xs) ∧ ¬ nbW P w s.own a ∧ RepsW P w s H xs ds) ∨ ∃ a xs, v = .ref a ∧ H a = some (.tup xs) ∧ RepsW P w s H xs ds) ∧ At P W rel w s σ H Q (k ds s) := by
  cases d <;> first | exact h.elim | skip
  · cases r with
    | tup h1 r1 => exact ⟨_, .inr ⟨_, _, rfl, h1, r1⟩, h⟩
  · cases r with
    | lst h1 n1 r1 => exact ⟨_, .inl ⟨_, _, rfl, h1, n1, r1⟩, h⟩
theorem bind_ok {α : Type} (o : Out α) : (o.bind fun x s => .ok x s) = o := by cases o <;> rfl
theorem bind_assoc {α β γ : Type} (o : Out α) (f : α → LS → Out β) (g : β → LS → Out γ) : (o.bind f).bind g = o.bind fun x s => (f x s).bind g := by cases o <;> rfl
theorem di_seq (he : PE X a (RE P W fa)) (hK : X.K = P.Γ.K) : PI X tg a (RI P W (iSeq fa)) :=
  PI.mono (PI.or (pi_list he) (pi_tup he)) fun σ H R ⟨w, s, S, h⟩ => by
    have h : At P W (relI P) w s σ H R ((fa s).bind fun x s1 => (freeze x s1).bind fun d s2 => (seqOf d s2).bind fun ds s3 => .ok ds s3) := by
      have e : iSeq fa s = ((fa s).bind fun x s1 => (freeze x s1).bind fun d s2 => (seqOf d s2).bind fun ds s3 => .ok ds s3) := by
        unfold iSeq
        congr 1
        funext x s1
        congr 1
        funext d s2
        rw [bind_ok]
      rw [← e]; exact h
    show iList X.K (RE P W fa) σ H R ∨ iTup X.K (RE P W fa) σ H R
    rw [hK]
    cases hf : fa s with
    | bad => rw [hf] at h; exact h.elim
    | exc c s1 =>
      rw [hf] at h
      refine .inl ⟨w, s, S, ?_⟩
      rw [hf]; exact h
    | ok x s1 =>
      rw [hf] at h
      have h : At P W (relI P) w s σ H R ((freeze x s1).bind fun d s2 => (seqOf d s2).bind fun ds s3 => .ok ds s3) := h
      cases hz : freeze x s1 with
      | bad => rw [hz] at h; exact h.elim
      | exc c s2 =>
        cases x with
        | d y => cases hz
        | own k => simp only [freeze] at hz; split at hz <;> cases hz
      | ok d s2 =>
        have key : ∀ w1 H1 v, Adv.E P w s H w1 s1 H1 → SR P w1 σ H1 s1 → relE P w1 s1 H1 v x → SR P w1 σ H1 s2 ∧ RepW P w1 s2 H1 v d ∧ At P W (relI P) w1 s2 σ H1 R (seqOf d s2) := by
          intro w1 H1 v A S1 r1
          obtain ⟨S2, A2, R2⟩ := frozen S1 r1 hz
          rw [hz] at h
          have h : At P W (relI P) w s σ H R ((seqOf d s2).bind fun ds s3 => .ok ds s3) := h
          rw [bind_ok] at h
          exact ⟨S2, R2, At.step (A.trans A2) h⟩
        cases d <;> first | (rw [hz] at h; exact h.elim) | skip
        · refine .inr ⟨w, s, S, ?_⟩
          rw [hf]
          intro w1 H1 v A S1 r1
          obtain ⟨S2, R2, h2⟩ := key w1 H1 v A S1 r1
          cases R2 with
          | tup e1 rr => exact ⟨_, rfl, ⟨_, SqT.of e1⟩, At.done h2 S2 (iw_tup e1 rr)⟩
        · refine .inl ⟨w, s, S, ?_⟩
          rw [hf]
          intro w1 H1 v A S1 r1
          obtain ⟨S2, R2, h2⟩ := key w1 H1 v A S1 r1
          cases R2 with
          | lst e1 n1 rr => exact ⟨_, rfl, ⟨_, SqL.of e1⟩, At.done h2 S2 (iw_list e1 n1 rr)⟩
/-- one argument, given away -/
def aSeq (f : LS → Out Lv) : LS → Out (List Lv) := aCons f aNil
theorem di_enum {elts : List Expr} {kk : Nat} {tpos : Pos} (hg : Gl X "enumerate") (hm : X.mg "enumerate" = none) (he : PE X a (RE P W fa)) (hK : X.K = P.Γ.K) (hs : starEach [a] X.env = [(false, eval a X.env)] := by rfl) :
    PI X (.Tuple elts kk tpos) (.Call (.Name "enumerate" p) [a] [] pos) (RI P W (iEnum fa)) :=
  PI.mono (pi_enumB hg hm (pa_cons he pa_nil hs) hs) fun σ H R ⟨w, s, S, h⟩ => by
    have h : At P W (relI P) w s σ H R ((fa s).bind fun x s1 => (freeze x s1).bind fun d s2 => (seqOf d s2).bind fun ds s3 => .ok (numD 0 ds) s3) := by
      have e : iEnum fa s = ((fa s).bind fun x s1 => (freeze x s1).bind fun d s2 => (seqOf d s2).bind fun ds s3 => .ok (numD 0 ds) s3) := by
        unfold iEnum iSeq
        rw [bind_assoc]
        congr 1
        funext x s1
        rw [bind_assoc]
      rw [← e]; exact h
    rw [hK]
    refine ⟨w, s, S, (At.first (relX := relE P) h).imp ?_⟩
    rintro v H1 ⟨w1, s1, x, S1, r1, a1, h1⟩
    obtain ⟨d, s2, S2, A2, R2, h2⟩ := At.freeze h1 S1 r1
    obtain ⟨ds, q, h3⟩ := seq_at h2 R2
    rcases q with ⟨b, xs, rfl, e1, n1, rr⟩ | ⟨b, xs, rfl, e1, rr⟩
    · exact ⟨b, xs, rfl, .inl ⟨SqL.of e1, At.done h3 S2 (iw_enumL e1 n1 rr)⟩⟩
    · exact ⟨b, xs, rfl, .inr ⟨SqT.of e1, At.done h3 S2 (iw_enumT e1 rr)⟩⟩
theorem small_of {i : Int} (h : small i = true) : -(2 ^ 62) ≤ i ∧ i < 2 ^ 62 := by
  unfold small at h
  rw [Bool.and_eq_true] at h
  have h1 := of_decide_eq_true h.1
  have h2 := of_decide_eq_true h.2
  omega
theorem di_rng1 (hg : Gl X "range") (hm : X.mg "range" = none) (ha : PA X [a] (RA P W ga)) (hs : starEach [a] X.env = [(false, eval a X.env)] := by rfl) : PI X tg (.Call (.Name "range" p) [a] [] pos) (RI P W (iRng rng1 ga)) := by
  refine PI.mono (pi_range1 hg hm ha hs) fun σ H R ⟨w, s, S, h⟩ => ?_
  refine ⟨w, s, S, (At.first (relX := relA P) h).imp ?_⟩
  rintro vs H1 ⟨w1, s1, x, S1, r1, a1, h1⟩
  obtain ⟨is, e, h1⟩ := At.onO h1
  cases intArgs_rep r1 e
  match is, h1 with
  | [], h1 => exact h1.elim
  | _ :: _ :: _, h1 => exact h1.elim
  | [j], h1 =>
    obtain ⟨c, h2⟩ := At.gd h1
    obtain ⟨q1, q2⟩ := small_of c
    exact ⟨j, rfl, q1, q2, At.done h2 S1 iw_range⟩
theorem di_rng2 (hg : Gl X "range") (hm : X.mg "range" = none) (ha : PA X [a, b] (RA P W ga)) (hs : starEach [a, b] X.env = [(false, eval a X.env), (false, eval b X.env)] := by rfl) (hs2 : starEach [b] X.env = [(false, eval b X.env)] := by rfl) :
    PI X tg (.Call (.Name "range" p) [a, b] [] pos) (RI P W (iRng rng2 ga)) := by
  refine PI.mono (pi_range2 hg hm ha hs hs2) fun σ H R ⟨w, s, S, h⟩ => ?_
  refine ⟨w, s, S, (At.first (relX := relA P) h).imp ?_⟩
  rintro vs H1 ⟨w1, s1, x, S1, r1, a1, h1⟩
  obtain ⟨is, e, h1⟩ := At.onO h1
  cases intArgs_rep r1 e
  match is, h1 with
  | [], h1 => exact h1.elim
  | [_], h1 => exact h1.elim
  | _ :: _ :: _ :: _, h1 => exact h1.elim
  | [i, j], h1 =>
    obtain ⟨c, h2⟩ := At.gd h1
    rw [Bool.and_eq_true] at c
    obtain ⟨q1, q2⟩ := small_of c.1
    obtain ⟨q3, q4⟩ := small_of c.2
    exact ⟨i, j, rfl, ⟨q1, q2, q3, q4⟩, At.done h2 S1 iw_range⟩
theorem di_rng3 (hg : Gl X "range") (hm : X.mg "range" = none) (ha : PA X [a, b, c] (RA P W ga)) (hs : starEach [a, b, c] X.env = (false, eval a X.env) :: starEach [b, c] X.env := by rfl) (hpl : (backTo pos (starEach [b, c] X.env)).any (·.1) = false := by rfl) :
    PI X tg (.Call (.Name "range" p) [a, b, c] [] pos) (RI P W (iRng rng3 ga)) := by
  refine PI.mono (pi_range3 hg hm ha hs hpl) fun σ H R ⟨w, s, S, h⟩ => ?_
  refine ⟨w, s, S, (At.first (relX := relA P) h).imp ?_⟩
  rintro vs H1 ⟨w1, s1, x, S1, r1, a1, h1⟩
  obtain ⟨is, e, h1⟩ := At.onO h1
  cases intArgs_rep r1 e
  match is, h1 with
  | [], h1 => exact h1.elim
  | [_], h1 => exact h1.elim
  | [_, _], h1 => exact h1.elim
  | _ :: _ :: _ :: _ :: _, h1 => exact h1.elim
  | [i, j, c], h1 =>
    obtain ⟨cc, h2⟩ := At.gd h1
    rw [Bool.and_eq_true, Bool.and_eq_true] at cc
    obtain ⟨q1, q2⟩ := small_of cc.1.1
    obtain ⟨q3, q4⟩ := small_of cc.1.2
    have ec : c = -1 := of_decide_eq_true cc.2
    subst ec
    exact ⟨i, j, -1, (i - j).toNat, rfl, RgC.neg q1 q2 q3 q4, At.done h2 S1 iw_rangeC⟩
/-- zip of two lists, of two tuples -/
def zipS : D → D → LS → Out (List D)
  | .lst a, .lst b, s => .ok (zipD a b) s
  | .tup a, .tup b, s => .ok (zipD a b) s
  | _, _, _ => .bad
def iZip (f g : LS → Out Lv) : LS → Out (List D) := fun s => (f s).bind fun x s1 => (g s1).bind fun y s2 => (freeze x s2).bind fun d s3 => (freeze y s3).bind fun e s4 => zipS d e s4
theorem iw_zipL {w : Wd} {s : LS} {H : Hp} {a b : Addr} {xs ys : List V} {ds es : List D} (h : H a = some (.lst xs)) (n : ¬ nbW P w s.own a) (r : RepsW P w s H xs ds) (h' : H b = some (.lst ys)) (n' : ¬ nbW P w s.own b) (r' : RepsW P w s H ys es) :
    IW P.Γ (latS P w s H) (Itz P.Γ.K a b) (zipD ds es) := by
  have wk := walk_zip (K := P.Γ.K) (a := a) (b := b) (xs := xs) (ys := ys) (n := (zipD ds es).length) (by rw [zipD_len, r.length, r'.length])
  refine ⟨_, _, wk, fun z L => ⟨SqL.of (L.keep a _ h n), SqL.of (L.keep b _ h' n')⟩, fun i z v H' hi L y => ?_⟩
  obtain ⟨T, x, y, rfl, hT, rfl, e1, e2⟩ := y
  obtain ⟨d, ed, rd⟩ := (Reps.mono (x := vwS P w s.own H) (y := z) subS L r).get e1
  obtain ⟨e, ee, re⟩ := (Reps.mono (x := vwS P w s.own H) (y := z) subS L r').get e2
  exact ⟨upd_more hT, _, zipD_get _ _ _ _ _ ed ee, pair_rep hT rd re⟩
theorem walk_zipT {K : PySem.W.Frag} {a b : Addr} {xs ys : List V} {n : Nat} (hn : n = min xs.length ys.length) : Walk (RZ.ItzT K a b) n (fun H => SqT K H a xs ∧ SqT K H b ys) (YPair (fun i => xs[i]?) (fun i => ys[i]?)) :=
  ⟨fun i _ lt ⟨tx, ty⟩ => ⟨xs, ys, _, _, tx, ty, List.getElem?_eq_getElem (by omega), List.getElem?_eq_getElem (by omega)⟩, fun _ ⟨tx, ty⟩ => ⟨xs, ys, tx, ty, by omega⟩,
    fun _ _ _ _ _ ⟨tx, ty⟩ ⟨T, x, z, same, new, grown, fx, fy⟩ => ⟨T, x, z, same, new, grown, fx xs tx, fy ys ty⟩⟩
theorem iw_zipT {w : Wd} {s : LS} {H : Hp} {a b : Addr} {xs ys : List V} {ds es : List D} (h : H a = some (.tup xs)) (r : RepsW P w s H xs ds) (h' : H b = some (.tup ys)) (r' : RepsW P w s H ys es) :
    IW P.Γ (latS P w s H) (RZ.ItzT P.Γ.K a b) (zipD ds es) := by
  have wk := walk_zipT (K := P.Γ.K) (a := a) (b := b) (xs := xs) (ys := ys) (n := (zipD ds es).length) (by rw [zipD_len, r.length, r'.length])
  refine ⟨_, _, wk, fun z L => ⟨SqT.of (L.tups a _ h), SqT.of (L.tups b _ h')⟩, fun i z v H' hi L y => ?_⟩
  obtain ⟨T, x, y, rfl, hT, rfl, e1, e2⟩ := y
  obtain ⟨d, ed, rd⟩ := (Reps.mono (x := vwS P w s.own H) (y := z) subS L r).get e1
  obtain ⟨e, ee, re⟩ := (Reps.mono (x := vwS P w s.own H) (y := z) subS L r').get e2
  exact ⟨upd_more hT, _, zipD_get _ _ _ _ _ ed ee, pair_rep hT rd re⟩
theorem di_zip {elts : List Expr} {kk : Nat} {tpos : Pos} (hg : Gl X "zip") (hm : X.mg "zip" = none) (he : PE X a (RE P W fa)) (he' : PE X b (RE P W fb)) (hK : X.K = P.Γ.K)
    (h1 : starEach [a, b] X.env = (false, eval a X.env) :: starEach [b] X.env := by rfl) (h2 : starEach [b] X.env = (false, eval b X.env) :: starEach [] X.env := by rfl) (hpl : (backTo pos (starEach [b] X.env)).any (·.1) = false := by rfl) :
    PI X (.Tuple elts kk tpos) (.Call (.Name "zip" p) [a, b] [] pos) (RI P W (iZip fa fb)) :=
  PI.mono (RZ.pi_zipA hg hm (pa_cons he (pa_cons he' pa_nil h2) h1) h1 hpl) fun σ H R ⟨w, s, S, h⟩ => by
    rw [hK]
    refine ⟨w, s, S, (At.first (relX := relE P) h).imp ?_⟩
    rintro v H1 ⟨w1, s1, x, S1, r1, a1, h1⟩
    refine ⟨w1, s1, S1, (At.first (relX := relE P) h1).imp ?_⟩
    rintro u H2 ⟨w2, s2, y, S2, r2, a2, h2⟩
    obtain ⟨d, s3, S3, A3, R3, h3⟩ := At.freeze h2 S2 (RepL.adv a2 r1)
    obtain ⟨e, s4, S4, A4, R4, h4⟩ := At.freeze h3 S3 (RepL.adv A3 r2)
    have R3' : RepW P w2 s4 H2 v d := Rep.mono (x := vwE P w2 s3.own H2) (y := vwE P w2 s4.own H2) subE A4.1 R3
    cases d <;> cases e <;> first | exact h4.elim | skip
    · cases R3' with
      | tup e1 q1 =>
        cases R4 with
        | tup e2 q2 => exact ⟨_, _, _, _, rfl, .inr ⟨SqT.of e1, SqT.of e2, At.done h4 S4 (iw_zipT e1 q1 e2 q2)⟩⟩
    · cases R3' with
      | lst e1 n1 q1 =>
        cases R4 with
        | lst e2 n2 q2 => exact ⟨_, _, _, _, rfl, .inl ⟨SqL.of e1, SqL.of e2, At.done h4 S4 (iw_zipL e1 n1 q1 e2 n2 q2)⟩⟩
end
end Br

/-! Targets; list comprehensions. -/
namespace Br
open PySem L2

abbrev Loc0 := List (Option Lv)
abbrev Tgt := D → Loc0 → Option Loc0
def gN (j : Nat) : Tgt := fun d loc => some (loc.set j (some (.d d)))
def gT2 (i j : Nat) : Tgt
  | .tup [d, e], loc => some ((loc.set i (some (.d d))).set j (some (.d e)))
  | _, _ => none
section
variable {P : Gh} {W : WX} {w : Wd} {σ : St} {H : Hp} {s : LS}
theorem SR.set (S : SR P w σ H s) {i : Nat} {v : V} {x : Lv} (r : RepL P w s.own H v x) : SR P w (σ.set i (some v)) H { s with loc := s.loc.set i (some x) } where
  slot := fun j y h => by
    have h : (s.loc.set i (some x))[j]? = some (some y) := h
    by_cases e : i = j
    · subst e
      by_cases hl : i < s.loc.length
      · rw [List.getElem?_set_self hl] at h
        cases h
        exact ⟨v, by rw [List.getElem?_set_self (by rw [S.len]; exact hl)], r⟩
      · rw [List.getElem?_eq_none (by simpa using hl)] at h; cases h
    · rw [List.getElem?_set_ne e] at h
      obtain ⟨u, e1, r1⟩ := S.slot j y h
      exact ⟨u, by rw [List.getElem?_set_ne e]; exact e1, r1⟩
  len := by
    show (σ.set i (some v)).length = (s.loc.set i (some x)).length
    rw [List.length_set, List.length_set]; exact S.len
  ol := S.ol
  nd := S.nd
  orel := S.orel
  oth := S.oth
  ofr := S.ofr
  ogd := S.ogd
  gr := S.gr
  keep := S.keep
  tups := S.tups
  gnew := S.gnew
  le := S.le
  bh := S.bh
end
theorem wipe_get {σ : St} {j : Nat} : ∀ {vs : List Nat}, j ∈ vs → j < σ.length → (wipe σ vs)[j]? = some none
  | [], h, _ => by simp at h
  | v :: vs, h, hl => by
    unfold wipe
    by_cases e : v = j
    · subst e
      rw [List.getElem?_set_self (by rw [wipe_length]; exact hl)]
    · rw [List.getElem?_set_ne e]
      rcases List.mem_cons.mp h with e' | h
      · exact absurd e'.symm e
      · exact wipe_get h hl
theorem wipe_set {σ : St} {j : Nat} {x : Option V} {vs : List Nat} (h : j ∈ vs) : wipe (σ.set j x) vs = wipe σ vs := by
  apply List.ext_getElem?
  intro i
  by_cases hi : i ∈ vs
  · by_cases hl : i < σ.length
    · rw [wipe_get hi (by simpa using hl), wipe_get hi hl]
    · rw [List.getElem?_eq_none (by rw [wipe_length, List.length_set]; omega), List.getElem?_eq_none (by rw [wipe_length]; omega)]
  · rw [wipe_out hi, wipe_out hi]
    have e : j ≠ i := fun e => hi (e ▸ h)
    rw [List.getElem?_set_ne e]
theorem wipe_wipe {σ : St} {vs : List Nat} : wipe (wipe σ vs) vs = wipe σ vs := by
  apply List.ext_getElem?
  intro i
  by_cases hi : i ∈ vs
  · by_cases hl : i < σ.length
    · rw [wipe_get hi (by rw [wipe_length]; exact hl), wipe_get hi hl]
    · rw [List.getElem?_eq_none (by rw [wipe_length, wipe_length]; omega), List.getElem?_eq_none (by rw [wipe_length]; omega)]
  · rw [wipe_out hi]
/-- a target: what it does to the slots -/
def TgOk (P : Gh) (g : TG) (t : Tgt) (vs : List Nat) : Prop := ∀ (w : Wd) (σ : St) (H : Hp) (s : LS) (v : V) (d : D) (loc' : Loc0) (Q : St → Hp → Prop), SR P w σ H s → RepW P w s H v d → t d s.loc = some loc' →
  (∀ σ', SR P w σ' H { s with loc := loc' } → wipe σ' vs = wipe σ vs → Q σ' H) → g v σ H Q
theorem tg_name {P : Gh} {j : Nat} {vs : List Nat} (h : j ∈ vs) : TgOk P (gName j) (gN j) vs := by
  intro w σ H s v d loc' Q S r e q
  cases e
  exact q _ (S.set r) (wipe_set h)
theorem tg_tup2 {P : Gh} {K : PySem.W.Frag} {i j : Nat} {vs : List Nat} (h1 : i ∈ vs) (h2 : j ∈ vs) : TgOk P (gTup K 2 (gCons (gName i) (gCons (gName j) gNil))) (gT2 i j) vs := by
  intro w σ H s v d loc' Q S r e q
  match d, r, e with
  | .tup [d, e'], r, e =>
    cases e
    cases r with
    | tup ha ra =>
      cases ra with
      | cons r1 ra =>
        cases ra with
        | cons r2 ra =>
          cases ra
          refine ⟨_, _, rfl, SqT.of ha, rfl, _, _, rfl, _, _, rfl, rfl, ?_⟩
          exact q _ ((S.set (x := .d d) r1).set (x := .d e') r2) ((wipe_set h2).trans (wipe_set h1))

/-! ### the block of a comprehension -/
def W0 : WX := fun _ _ _ _ => False
/-- the slots that the block sees: data, without its own names -/
def wipeGo (vs : List Nat) : Nat → Loc0 → Loc0
  | _, [] => []
  | i, x :: r => (match vs.elem i with
    | true => none
    | false => x) :: wipeGo vs (i + 1) r
def wipeL (L : Loc0) (vs : List Nat) : Loc0 := wipeGo vs 0 L
theorem wipeGo_eq (vs : List Nat) : ∀ (L : Loc0) (i : Nat), wipeGo vs i L = L.mapIdx fun j x => if i + j ∈ vs then none else x
  | [], _ => rfl
  | x :: r, i => by
    rw [List.mapIdx_cons]
    unfold wipeGo
    rw [wipeGo_eq vs r (i + 1)]
    congr 1
    · by_cases h : i ∈ vs
      · rw [List.elem_eq_true_of_mem h, if_pos (by simpa using h)]
      · have : vs.elem i = false := by simpa using h
        rw [this, if_neg (by simpa using h)]
    · congr 1
      funext j x
      have shift : i + 1 + j = i + (j + 1) := by omega
      rw [shift]
theorem wipeL_eq (L : Loc0) (vs : List Nat) : wipeL L vs = L.mapIdx fun i x => if i ∈ vs then none else x := by
  unfold wipeL
  rw [wipeGo_eq]
  simp only [Nat.zero_add]
def dataOnly : Option Lv → Option Lv
  | some (.d x) => some (.d x)
  | _ => none
def seen (L : Loc0) (vs : List Nat) : Loc0 := wipeL (L.map dataOnly) vs
def lcTurn (t : Tgt) (ft : LS → Out Bool) (fe : LS → Out Lv) (L : Loc0) (d : D) (g : GS) : Option (Option D × GS) := match t d L with
  | none => none
  | some loc' => match ft ⟨loc', [], g⟩ with
    | .ok true s1 => (match fe s1 with
      | .ok (.d y) s2 => some (some y, s2.g)
      | _ => none)
    | .ok false s1 => some (none, s1.g)
    | _ => none
def lcLoop (t : Tgt) (ft : LS → Out Bool) (fe : LS → Out Lv) (L : Loc0) : List D → GS → Option (List D × GS)
  | [], g => some ([], g)
  | d :: r, g => match lcTurn t ft fe L d g with
    | none => none
    | some (o, g1) => match lcLoop t ft fe L r g1 with
      | none => none
      | some (ys, g2) => some (match o with
        | some y => y :: ys
        | none => ys, g2)
def eLc (fi : LS → Out (List D)) (t : Tgt) (ft : LS → Out Bool) (fe : LS → Out Lv) (vs : List Nat) : LS → Out Lv := fun s => (fi s).bind fun ds s1 => gd (decide (ds.length ≤ 100000)) (match lcLoop t ft fe (seen s1.loc vs) ds s1.g with
  | some (ys, g') => okD (.lst ys) { s1 with g := g' }
  | none => .bad)
def tYe : LS → Out Bool := fun s => .ok true s
def RTx (Γ : Gm) (f : LS → Out Bool) : TT := fun σ H Q => ∃ H0 ad0 B, RT ⟨Γ, H0, ad0, B⟩ W0 f σ H Q
def REx (Γ : Gm) (f : LS → Out Lv) : TE := fun σ H Q => ∃ H0 ad0 B, RE ⟨Γ, H0, ad0, B⟩ W0 f σ H Q
theorem PE.ex {X : Cx} {e : Expr} {Γ : Gm} {f : LS → Out Lv} (h : ∀ H0 ad0 B, PE X e (RE ⟨Γ, H0, ad0, B⟩ W0 f)) : PE X e (REx Γ f) := ⟨fun pins s σ H Q I ⟨H0, ad0, B, q⟩ => (h H0 ad0 B).run pins s σ H Q I q⟩
theorem PT.ex {X : Cx} {e : Expr} {Γ : Gm} {f : LS → Out Bool} (h : ∀ H0 ad0 B, PT X e (RT ⟨Γ, H0, ad0, B⟩ W0 f)) : PT X e (RTx Γ f) := ⟨fun pins s σ H Q I ⟨H0, ad0, B, q⟩ => (h H0 ad0 B).run pins s σ H Q I q⟩
theorem dts_nil {X : Cx} {Γ : Gm} : PTs X [] (RTx Γ tYe) := ⟨fun pins s σ H Q I ⟨H0, ad0, B, w, s', S, h⟩ => (pts_nil (X := X)).run pins s σ H Q I (At.done h S rfl)⟩
theorem dts_one {X : Cx} {e : Expr} {Γ : Gm} {f : LS → Out Bool} (h : PT X e (RTx Γ f)) : PTs X [e] (RTx Γ f) := pts_one h

theorem wipeL_len (L : Loc0) (vs : List Nat) : (wipeL L vs).length = L.length := by rw [wipeL_eq]; exact List.length_mapIdx
theorem wipeL_some {L : Loc0} {i : Nat} {x : Lv} {vs : List Nat} (h : (wipeL L vs)[i]? = some (some x)) : L[i]? = some (some x) ∧ i ∉ vs := by
  rw [wipeL_eq, List.getElem?_mapIdx, Option.map_eq_some_iff] at h
  obtain ⟨y, hy, e⟩ := h
  split at e
  · exact nomatch e
  · rename_i out
    exact ⟨e ▸ hy, out⟩
section
variable {X : Cx} {P : Gh} {W : WX}
/-- the block's run, entered at H2 -/
def Pb (P : Gh) (w1 : Wd) (own1 : List (Option OO)) (Dl : Addr) (H2 : Hp) (ad2 : Ad) : Gh := ⟨P.Γ, H2, ad2, fun a => P.B a ∨ live w1 own1 a ∨ a = Dl⟩
theorem nb_b {w1 : Wd} {own1 : List (Option OO)} {Dl : Addr} {H2 : Hp} {ad2 ad3 : Ad} {a : Addr} : nbW (Pb P w1 own1 Dl H2 ad2) ⟨ad3, []⟩ [] a ↔ (P.B a ∨ live w1 own1 a ∨ a = Dl) ∨ gad ad3 a := by
  constructor
  · rintro (h | h | ⟨k, o, h, _⟩)
    · exact .inl h
    · exact .inr h
    · simp at h
  · rintro (h | h)
    · exact .inl h
    · exact .inr (.inl h)
/-- between two turns -/
structure Turns (P : Gh) (w1 : Wd) (s1 : LS) (H1 : Hp) (Dl : Addr) (H : Hp) (ad : Ad) (g : GS) (acc : List V) (done : List D) : Prop where
  adv : AdvF H1 w1.ad H ad
  gr : GR P.Γ H ad g
  at_ : H Dl = some (.lst acc)
  nd : ¬ gad ad Dl
  rep : Reps P.Γ H (fun a => (P.B a ∨ live w1 s1.own a ∨ a = Dl) ∨ gad ad a) ad acc done
def vwT (P : Gh) (w1 : Wd) (s1 : LS) (Dl : Addr) (H : Hp) (ad : Ad) : Vw := ⟨gad ad, fun a => (P.B a ∨ live w1 s1.own a ∨ a = Dl) ∨ gad ad a, ad, H⟩
variable {w1 : Wd} {s1 : LS} {H1 : Hp} {σ : St} {Dl : Addr}
theorem Turns.vw {H : Hp} {ad : Ad} {g : GS} {acc : List V} {done : List D} (hD : H1 Dl = none) (T : Turns P w1 s1 H1 Dl H ad g acc done) : Adv (vwE P w1 s1.own H1) (vwT P w1 s1 Dl H ad) where
  keep := T.adv.keep
  tups := T.adv.tups
  chm := T.adv.gnew
  nbm := fun a c => by
    rcases c with (c | c | c) | c
    · exact .inl (.inl c)
    · exact .inl (.inr (.inr c))
    · exact .inr (by rw [c]; exact hD)
    · rcases T.adv.gnew a c with c | c
      · exact .inl (.inr (.inl c))
      · exact .inr c
  ad := T.adv.le
theorem Turns.vwS {H : Hp} {ad : Ad} {g : GS} {acc : List V} {done : List D} (hD : H1 Dl = none) (T : Turns P w1 s1 H1 Dl H ad g acc done) : latS P w1 s1 H1 (vwT P w1 s1 Dl H ad) :=
  ⟨fun a o h n => T.adv.keep a o h fun c => n (.inr (.inl c)), T.adv.tups, fun a c => by
    rcases T.adv.gnew a c with c | c
    · exact .inl (.inr (.inl c))
    · exact .inr c, (T.vw hD).nbm, T.adv.le⟩
/-- the state in which a turn runs -/
theorem Turns.sr {H H2 : Hp} {ad : Ad} {g : GS} {acc : List V} {done : List D} {vs : List Nat} (S1 : SR P w1 σ H1 s1) (hD : H1 Dl = none) (T : Turns P w1 s1 H1 Dl H ad g acc done) (k : ∀ a o, H a = some o → H2 a = some o) :
    SR (Pb P w1 s1.own Dl H2 ad) ⟨ad, []⟩ (wipe σ vs) H2 ⟨seen s1.loc vs, [], g⟩ where
  slot := fun i x h => by
    obtain ⟨h1, h2⟩ := wipeL_some h
    rw [List.getElem?_map] at h1
    cases hz : s1.loc[i]? with
    | none => rw [hz] at h1; cases h1
    | some y =>
      rw [hz] at h1
      have h1 : dataOnly y = some x := Option.some.inj h1
      cases y with
      | none => cases h1
      | some y =>
        cases y with
        | own j => cases h1
        | d z =>
          cases h1
          obtain ⟨v, e, r⟩ := S1.slot i _ hz
          refine ⟨v, by rw [wipe_out h2]; exact e, ?_⟩
          have r2 : Rep P.Γ H (vwT P w1 s1 Dl H ad).nb ad v z := Rep.mono (x := vwE P w1 s1.own H1) (y := vwT P w1 s1 Dl H ad) subE (T.vw hD) r
          exact Rep.less (fun a c => nb_b.mp c) (r2.ext k)
  len := by
    show (wipe σ vs).length = (seen s1.loc vs).length
    rw [wipe_length]; unfold seen; rw [wipeL_len, List.length_map]; exact S1.len
  ol := rfl
  nd := List.nodup_nil
  orel := fun i a o h _ => by simp at h
  oth := fun a h => by simp at h
  ofr := fun a h => by simp at h
  ogd := fun a h => by simp at h
  gr := T.gr.stay (fun a o h _ => k a o h) (fun a o u h => k _ _ h) fun _ _ h => k _ _ h
  keep := fun a o h _ => h
  tups := fun _ _ h => h
  gnew := fun _ h => .inl h
  le := Ad.Le.refl _
  bh := fun a c => by
    rcases c with c | c | c
    · obtain ⟨⟨o, e⟩, n⟩ := S1.bh a c
      have e1 := S1.keep a o e n
      have n1 : ¬ gad w1.ad a := fun q => (S1.gnew a q).elim n fun z => by rw [e] at z; cases z
      refine ⟨⟨o, k _ _ (T.adv.keep a o e1 n1)⟩, fun q => (T.adv.gnew a q).elim n1 fun z => by rw [e1] at z; cases z⟩
    · obtain ⟨i, o, h1, h2⟩ := c
      have hm : a ∈ w1.oa := List.mem_of_getElem? h1
      obtain ⟨u, e1⟩ := S1.oth a hm
      have n1 := S1.ogd a hm
      refine ⟨⟨u, k _ _ (T.adv.keep a u e1 n1)⟩, fun q => (T.adv.gnew a q).elim n1 fun z => by rw [e1] at z; cases z⟩
    · subst c
      exact ⟨⟨_, k _ _ T.at_⟩, T.nd⟩
/-- behind a turn that gives nothing -/
theorem Turns.skip {H H2 H3 : Hp} {ad : Ad} {g : GS} {acc : List V} {done : List D} {w3 : Wd} {s3 : LS} {σ3 : St} (T : Turns P w1 s1 H1 Dl H ad g acc done) (k : ∀ a o, H a = some o → H2 a = some o)
    (S3 : SR (Pb P w1 s1.own Dl H2 ad) w3 σ3 H3 s3) : Turns P w1 s1 H1 Dl H3 w3.ad s3.g acc done := by
  have key : ∀ a o, H a = some o → ¬ gad ad a → H3 a = some o := fun a o h n => S3.keep a o (k a o h) n
  have gn : ∀ a, gad w3.ad a → gad ad a ∨ H a = none := fun a c => (S3.gnew a c).imp id fun z => by
    cases e : H a with
    | none => rfl
    | some o =>
      have z : H2 a = none := z
      rw [k a o e] at z; cases z
  refine ⟨⟨fun a o h n => ?_, fun a xs h => S3.tups a xs (k _ _ (T.adv.tups a xs h)), fun a c => ?_, T.adv.le.trans S3.le⟩, S3.gr, key _ _ T.at_ T.nd, fun c => ?_, ?_⟩
  · have e1 := T.adv.keep a o h n
    exact key a o e1 fun c => (T.adv.gnew a c).elim n fun z => by rw [h] at z; cases z
  · rcases gn a c with c | c
    · exact T.adv.gnew a c
    · cases e : H1 a with
      | none => exact .inr rfl
      | some o =>
        by_cases g0 : gad w1.ad a
        · exact .inl g0
        · rw [T.adv.keep a o e g0] at c; cases c
  · rcases gn Dl c with c | c
    · exact T.nd c
    · rw [T.at_] at c; cases c
  · refine Reps.mono (x := vwT P w1 s1 Dl H ad) (y := vwT P w1 s1 Dl H3 w3.ad) (fun a c => .inr c) ⟨key, fun a xs h => S3.tups a xs (k _ _ h), gn, fun a c => ?_, S3.le⟩ T.rep
    rcases c with c | c
    · exact .inl (.inl c)
    · exact (gn a c).imp .inr id
/-- behind a turn that gives y -/
theorem Turns.push {H : Hp} {ad : Ad} {g : GS} {acc : List V} {done : List D} {v : V} {y : D} (hD : H1 Dl = none) (T : Turns P w1 s1 H1 Dl H ad g acc done)
    (r : Rep P.Γ H (fun a => (P.B a ∨ live w1 s1.own a ∨ a = Dl) ∨ gad ad a) ad v y) : Turns P w1 s1 H1 Dl (upd H Dl (.lst (acc ++ [v]))) ad g (acc ++ [v]) (done ++ [y]) := by
  have key : ∀ a o, H a = some o → a ≠ Dl → upd H Dl (.lst (acc ++ [v])) a = some o := fun a o h n => by rw [upd_ne n]; exact h
  have tp : ∀ a xs, H a = some (.tup xs) → upd H Dl (.lst (acc ++ [v])) a = some (.tup xs) := fun a xs h => key a _ h fun e => by rw [e, T.at_] at h; cases h
  refine ⟨⟨fun a o h n => key a o (T.adv.keep a o h n) fun e => (by rw [e, hD] at h; cases h), fun a xs h => tp a xs (T.adv.tups a xs h), T.adv.gnew, T.adv.le⟩, ?_, upd_same, T.nd, ?_⟩
  · exact T.gr.stay (fun a o h c => key a o h fun e => T.nd (e ▸ c)) (fun a o u h => key a _ h fun e => by rw [e, T.at_] at h; cases h) tp
  · refine Reps.mono (x := ⟨fun a => a = Dl, fun a => (P.B a ∨ live w1 s1.own a ∨ a = Dl) ∨ gad ad a, ad, H⟩) (y := ⟨fun a => a = Dl, fun a => (P.B a ∨ live w1 s1.own a ∨ a = Dl) ∨ gad ad a, ad, upd H Dl (.lst (acc ++ [v]))⟩)
      (fun a c => .inl (.inr (.inr c))) ⟨key, tp, fun _ c => .inl c, fun _ c => .inl c, Ad.Le.refl _⟩ (T.rep.append (.cons r .nil))
/-- the whole, behind the last turn -/
theorem Turns.end_ {H : Hp} {ad : Ad} {g : GS} {acc : List V} {done : List D} {Q : VK} (S1 : SR P w1 σ H1 s1) (hD : H1 Dl = none) (T : Turns P w1 s1 H1 Dl H ad g acc done)
    (h : At P W (relE P) w1 s1 σ H1 Q (okD (.lst done) { s1 with g := g })) : Q (.ref Dl) H := by
  have A : Adv.E P w1 s1 H1 ⟨ad, w1.oa⟩ { s1 with g := g } H := ⟨⟨T.adv.keep, T.adv.tups, T.adv.gnew, fun a c => by
    rcases c with c | c | c
    · exact .inl (.inl c)
    · exact (T.adv.gnew a c).imp (fun z => .inr (.inl z)) id
    · exact .inl (.inr (.inr c)), T.adv.le⟩, fun _ _ q => q⟩
  refine h ⟨ad, w1.oa⟩ H _ A ⟨fun i x q => ?_, S1.len, S1.ol, S1.nd, fun i a o q1 q2 => ?_, fun a q => ?_, S1.ofr, fun a q c => ?_, T.gr, fun a o q n => ?_, fun a xs q => T.adv.tups a xs (S1.tups a xs q), fun a c => ?_, S1.le.trans T.adv.le, S1.bh⟩ ?_
  · obtain ⟨v, e, r⟩ := S1.slot i x q
    exact ⟨v, e, RepL.adv A r⟩
  · obtain ⟨u, e, r⟩ := S1.orel i a o q1 q2
    exact ⟨u, T.adv.keep a u e (S1.ogd a (List.mem_of_getElem? q1)), RepO.mono (x := vwE P w1 s1.own H1) (y := vwE P ⟨ad, w1.oa⟩ s1.own H) subE A.1 r⟩
  · obtain ⟨u, e⟩ := S1.oth a q
    exact ⟨u, T.adv.keep a u e (S1.ogd a q)⟩
  · obtain ⟨u, e⟩ := S1.oth a q
    exact (T.adv.gnew a c).elim (S1.ogd a q) fun z => by rw [e] at z; cases z
  · exact T.adv.keep a o (S1.keep a o q n) fun c => (S1.gnew a c).elim n fun z => by rw [q] at z; cases z
  · rcases T.adv.gnew a c with c | c
    · exact S1.gnew a c
    · cases e : P.H0 a with
      | none => exact .inr rfl
      | some o =>
        by_cases g0 : gad P.ad0 a
        · exact .inl g0
        · rw [S1.keep a o e g0] at c; cases c
  · refine Rep.lst T.at_ (fun c => ?_) (Reps.less (fun a c => ?_) T.rep)
    · rcases c with c | c | ⟨i, o, q1, q2⟩
      · obtain ⟨⟨o, e⟩, n⟩ := S1.bh Dl c
        rw [S1.keep Dl o e n] at hD; cases hD
      · exact T.nd c
      · obtain ⟨u, e⟩ := S1.oth Dl (List.mem_of_getElem? q1)
        rw [hD] at e; cases e
    · rcases c with c | c | c
      · exact .inl (.inl c)
      · exact .inr c
      · exact .inl (.inr (.inl c))
theorem lc_drop {t : Tgt} {ft : LS → Out Bool} {fe : LS → Out Lv} {L : Loc0} {ds : List D} {i : Nat} {d : D} {g : GS} (hd : ds[i]? = some d) : lcLoop t ft fe L (ds.drop i) g = match lcTurn t ft fe L d g with
    | none => none
    | some (o, g1) => match lcLoop t ft fe L (ds.drop (i + 1)) g1 with
      | none => none
      | some (ys, g2) => some (match o with
        | some y => y :: ys
        | none => ys, g2) := by
  obtain ⟨hl, e⟩ := List.getElem?_eq_some_iff.mp hd
  simp only [List.drop_eq_getElem_cons hl, e]
  rfl
theorem lc_read {vs : List Nat} {fi : LS → Out (List D)} {g : TG} {t : Tgt} {ft : LS → Out Bool} {fe : LS → Out Lv} (hT : ∀ P' : Gh, TgOk P' g t vs) :
    ∀ σ H Q, RE P W (eLc fi t ft fe vs) σ H Q → tLc (RI P W fi) g (RTx P.Γ ft) (REx P.Γ fe) vs σ H Q := by
  rintro σ H Q ⟨w, s, S, h⟩
  refine ⟨w, s, S, (At.first (relX := relI P) h).imp ?_⟩
  rintro J H1 ⟨w1, s1, ds, S1, ⟨G, Y, wk, hG, hY⟩, a1, h1⟩
  obtain ⟨c, h1⟩ := At.gd h1
  have hlen : ds.length ≤ 100000 := of_decide_eq_true c
  intro Dl hD
  refine lc_it wk (fun i H => ∃ ad g acc done, Turns P w1 s1 H1 Dl H ad g acc done ∧ done.length ≤ i ∧ ∃ ys g', lcLoop t ft fe (seen s1.loc vs) (ds.drop i) g = some (ys, g') ∧ At P W (relE P) w1 s1 σ H1 Q (okD (.lst (done ++ ys)) { s1 with g := g' })) ?_ ?_ ?_ ?_
  · have k := upd_more (o := .lst []) hD
    revert h1
    cases hq : lcLoop t ft fe (seen s1.loc vs) ds s1.g with
    | none => exact fun z => z.elim
    | some p =>
      intro h1
      refine ⟨w1.ad, s1.g, [], [], ⟨⟨fun a o h _ => k a o h, fun a xs h => k _ _ h, fun _ c => .inl c, Ad.Le.refl _⟩, S1.gr.stay (fun a o h _ => k a o h) (fun a o u h => k _ _ h) fun _ _ h => k _ _ h, upd_same, fun c => ?_, .nil⟩, Nat.le_refl _, p.1, p.2, hq, h1⟩
      rcases S1.gr.at c with ⟨_, e⟩ | ⟨_, _, e⟩ <;> (rw [hD] at e; cases e)
  · rintro i H hi ⟨ad, g, acc, done, T, _⟩
    exact hG _ (T.vwS hD)
  · rintro i x H H2 hi ⟨ad, g0, acc, done, T, hdl, ys, g', hl, hq⟩ y
    obtain ⟨k, d, hd, rd⟩ := hY i (vwT P w1 s1 Dl H ad) x H2 hi (T.vwS hD) y
    rw [lc_drop hd] at hl
    cases ht1 : lcTurn t ft fe (seen s1.loc vs) d g0 with
    | none => rw [ht1] at hl; cases hl
    | some og =>
      obtain ⟨o, g1⟩ := og
      rw [ht1] at hl
      simp only at hl
      cases hl2 : lcLoop t ft fe (seen s1.loc vs) (ds.drop (i + 1)) g1 with
      | none => rw [hl2] at hl; cases hl
      | some yg =>
        obtain ⟨ys2, g2⟩ := yg
        rw [hl2] at hl
        simp only at hl
        cases hl
        unfold lcTurn at ht1
        cases htg : t d (seen s1.loc vs) with
        | none => rw [htg] at ht1; cases ht1
        | some loc' =>
          rw [htg] at ht1
          simp only at ht1
          have S2 := T.sr (vs := vs) S1 hD k
          have rd2 : RepW (Pb P w1 s1.own Dl H2 ad) ⟨ad, []⟩ ⟨seen s1.loc vs, [], g0⟩ H2 x d := Rep.less (fun a c => nb_b.mp c) rd
          refine hT (Pb P w1 s1.own Dl H2 ad) _ _ _ _ _ d loc' _ S2 rd2 htg fun σ2 S3 hw => ⟨by rw [hw, wipe_wipe], ?_⟩
          refine ⟨H2, ad, _, _, _, S3, ?_⟩
          cases hft : ft ⟨loc', [], g0⟩ with
          | bad => rw [hft] at ht1; cases ht1
          | exc c s4 => rw [hft] at ht1; cases ht1
          | ok b s4 =>
            rw [hft] at ht1
            rintro w4 H4 b' A4 S4 rfl
            cases b' with
            | false =>
              cases ht1
              exact ⟨w4.ad, s4.g, acc, done, T.skip k S4, by omega, ys2, _, hl2, hq⟩
            | true =>
              simp only at ht1
              refine ⟨H2, ad, _, w4, s4, S4, ?_⟩
              cases hfe : fe s4 with
              | bad => rw [hfe] at ht1; cases ht1
              | exc c s5 => rw [hfe] at ht1; cases ht1
              | ok z s5 =>
                rw [hfe] at ht1
                cases z with
                | own j => cases ht1
                | d yv =>
                  cases ht1
                  intro w5 H5 v5 A5 S5 r5
                  have T5 := T.skip k S5
                  have r6 : Rep P.Γ H5 (fun a => (P.B a ∨ live w1 s1.own a ∨ a = Dl) ∨ gad w5.ad a) w5.ad v5 yv := Rep.less (fun a c => by
                    rcases c with c | c
                    · exact .inl c
                    · exact .inr (.inl c)) r5
                  have hal : acc.length = done.length := T.rep.length
                  refine ⟨acc, T5.at_, ?_, w5.ad, s5.g, acc ++ [v5], done ++ [yv], T5.push hD r6, ?_, ys2, _, hl2, ?_⟩
                  · have : done.length ≤ 100000 := by omega
                    rw [hal]
                    exact Nat.lt_of_le_of_lt this (by decide)
                  · simp only [List.length_append, List.length_singleton]; omega
                  · rw [List.append_assoc]; exact hq
  · rintro H ⟨ad, g, acc, done, T, _, ys, g', hl, hq⟩
    rw [List.drop_length] at hl
    cases hl
    rw [List.append_nil] at hq
    exact T.end_ S1 hD hq
theorem de_lc {elt tg iter : Expr} {ifs : List Expr} {scope : Scope} {own : List (Str × Nat)} {pos : Pos} {fi : LS → Out (List D)} {g : TG} {t : Tgt} {ft : LS → Out Bool} {fe : LS → Out Lv} (hc : X.calm = true) (hN : X.N.Nodup) (hi : PI X tg iter (RI P W fi)) (ok : BlkOk X.N X.env.scope scope own)
    (hg : ∀ (s : Shared) (H : Hp) (C : Addr) (cl : List (Str × Addr)) (fp : List Addr), PG (X.blk s H scope (compEnvC scope cl C X.env) fp) tg g) (hT : ∀ P' : Gh, TgOk P' g t (own.map (·.2)))
    (ht : ∀ (s : Shared) (H : Hp) (C : Addr) (cl : List (Str × Addr)) (fp : List Addr), PTs (X.blk s H scope (compEnvC scope cl C X.env) fp) ifs (RTx P.Γ ft))
    (he : ∀ (s : Shared) (H : Hp) (C : Addr) (cl : List (Str × Addr)) (fp : List Addr), PE (X.blk s H scope (compEnvC scope cl C X.env) fp) elt (REx P.Γ fe)) (hs : ∀ x, foldedSetIterable iter X.env x = pure x := by intro _; rfl) :
    PE X (.ListComp elt [⟨tg, iter, ifs, 0⟩] scope pos) (RE P W (eLc fi t ft fe (own.map (·.2)))) := PE.mono (pe_lc hc hN hi ok hg ht he hs) (lc_read hT)
end
end Br

/-! Statements; defs. -/
namespace Br
open PySem L2

def AtS (P : Gh) (W : WX) (w : Wd) (s : LS) (H : Hp) (E : Ends) : Out Fl → Prop
  | .ok .nx s' => ∀ w' σ' H', Adv.S P w s H w' s' H' → SR P w' σ' H' s' → E.nx σ' H'
  | .ok .bk s' => ∀ w' σ' H', Adv.S P w s H w' s' H' → SR P w' σ' H' s' → E.bk σ' H'
  | .ok .ct s' => ∀ w' σ' H', Adv.S P w s H w' s' H' → SR P w' σ' H' s' → E.ct σ' H'
  | .ok (.ret d) s' => ∀ w' σ' H' v, Adv.S P w s H w' s' H' → SR P w' σ' H' s' → RepW P w' s' H' v d → E.rt v H'
  | .exc c s' => ∀ w' σ' H', Adv.S P w s H w' s' H' → SR P w' σ' H' s' → ∀ C, P.Γ.mg c = some (.ref C) → W (.ref C) none σ' H'
  | .bad => False
def RS (P : Gh) (W : WX) (f : LS → Out Fl) : TS := fun E σ H => ∃ w s, SR P w σ H s ∧ AtS P W w s H E (f s)
theorem PS.mono {X : Cx} {st : Stmt} {t t' : TS} (h : PS X st t) (m : ∀ E σ H, t' E σ H → t E σ H) : PS X st t' := ⟨fun pins s σ H D I q => h.run pins s σ H D I (m D σ H q)⟩
theorem PSs.mono {X : Cx} {st : List Stmt} {t t' : TS} (h : PSs X st t) (m : ∀ E σ H, t' E σ H → t E σ H) : PSs X st t' := ⟨fun pins s σ H D I q => h.run pins s σ H D I (m D σ H q)⟩
section
variable {P : Gh} {W : WX} {w w1 : Wd} {s s1 : LS} {H H1 : Hp} {E : Ends} {σ : St}
theorem AtS.step (p : Adv.S P w s H w1 s1 H1) : ∀ {o : Out Fl}, AtS P W w s H E o → AtS P W w1 s1 H1 E o
  | .ok .nx _, h => fun w' σ' H' a S => h w' σ' H' (p.trans a) S
  | .ok .bk _, h => fun w' σ' H' a S => h w' σ' H' (p.trans a) S
  | .ok .ct _, h => fun w' σ' H' a S => h w' σ' H' (p.trans a) S
  | .ok (.ret _) _, h => fun w' σ' H' v a S r => h w' σ' H' v (p.trans a) S r
  | .exc _ _, h => fun w' σ' H' a S C e => h w' σ' H' (p.trans a) S C e
  | .bad, h => h
theorem AtS.first {α ν : Type} {rel : Wd → LS → Hp → ν → α → Prop} {k : α → LS → Out Fl} : ∀ {o : Out α}, AtS P W w s H E (o.bind k) →
    At P W rel w s σ H (fun v H1 => ∃ w1 s1 x, SR P w1 σ H1 s1 ∧ rel w1 s1 H1 v x ∧ Adv.E P w s H w1 s1 H1 ∧ AtS P W w1 s1 H1 E (k x s1)) o
  | .ok x s1, h => fun w1 H1 v a S r => ⟨w1, s1, x, S, r, a, AtS.step (Adv.toS a) h⟩
  | .exc _ _, h => fun w' H' a S C e => h w' σ H' (Adv.toS a) S C e
  | .bad, h => h
theorem AtS.next {s : LS} (h : AtS P W w s H E (.ok .nx s)) (S : SR P w σ H s) : E.nx σ H := h w σ H Adv.S.refl S
theorem AtS.onO {α : Type} {o : Option α} {k : α → Out Fl} (h : AtS P W w s H E (onO o k)) : ∃ x, o = some x ∧ AtS P W w s H E (k x) := by
  cases o with
  | none => exact h.elim
  | some x => exact ⟨x, rfl, h⟩
theorem AtS.gd {c : Bool} {k : Out Fl} (h : AtS P W w s H E (gd c k)) : c = true ∧ AtS P W w s H E k := by
  cases c with
  | false => exact h.elim
  | true => exact ⟨rfl, h⟩
theorem AtS.freeze {x : Lv} {k : D → LS → Out Fl} {v : V} (h : AtS P W w s H E ((Br.freeze x s).bind k)) (S : SR P w σ H s) (r : RepL P w s.own H v x) :
    ∃ d s', SR P w σ H s' ∧ Adv.E P w s H w s' H ∧ RepW P w s' H v d ∧ AtS P W w s' H E (k d s') := by
  cases e : Br.freeze x s with
  | ok d s' =>
    obtain ⟨S', A, R⟩ := frozen S r e
    rw [e] at h
    exact ⟨d, s', S', A, R, AtS.step (Adv.toS A) h⟩
  | exc c s' =>
    cases x with
    | d y => cases e
    | own k => simp only [Br.freeze] at e; split at e <;> cases e
  | bad => rw [e] at h; exact h.elim
end

/-! ### straight on -/
def sNx : LS → Out Fl := fun s => .ok .nx s
def sSeq (f g : LS → Out Fl) : LS → Out Fl := fun s => (f s).bind fun fl s1 => match fl with
  | .nx => g s1
  | .ret d => .ok (.ret d) s1
  | .bk => .ok .bk s1
  | .ct => .ok .ct s1
def sSet (i : Nat) (f : LS → Out Lv) : LS → Out Fl := fun s => (f s).bind fun x s1 => .ok .nx { s1 with loc := s1.loc.set i (some x) }
def sRet (f : LS → Out Lv) : LS → Out Fl := fun s => (f s).bind fun x s1 => (freeze x s1).bind fun d s2 => .ok (.ret d) s2
def sEx (f : LS → Out Lv) : LS → Out Fl := fun s => (f s).bind fun _ s1 => .ok .nx s1
def sIf (t : LS → Out Bool) (f g : LS → Out Fl) : LS → Out Fl := fun s => (t s).bind fun b s1 => match b with
  | true => f s1
  | false => g s1
def sRaise (c : Str) : LS → Out Fl := fun s => .exc c s
def sBad : LS → Out Fl := fun _ => .bad
section
variable {X : Cx} {P : Gh} {W : WX} {st : Stmt} {rest : List Stmt} {f g : LS → Out Fl} {fe : LS → Out Lv} {ft : LS → Out Bool} {ga : LS → Out (List Lv)} {e c : Expr} {pos : Pos}
theorem dss_nil : PSs X [] (RS P W sNx) := PSs.mono pss_nil fun E σ H ⟨w, s, S, h⟩ => AtS.next h S
theorem dss_cons (h1 : PS X st (RS P W f)) (h2 : PSs X rest (RS P W g)) : PSs X (st :: rest) (RS P W (sSeq f g)) :=
  PSs.mono (pss_cons h1 h2) fun E σ H ⟨w, s, S, h⟩ => by
    refine ⟨w, s, S, ?_⟩
    have h : AtS P W w s H E ((f s).bind _) := h
    cases hf : f s with
    | bad => rw [hf] at h; exact h.elim
    | exc c s1 => rw [hf] at h; exact h
    | ok fl s1 =>
      rw [hf] at h
      cases fl with
      | nx => exact fun w' σ' H' A S' => ⟨w', s1, S', AtS.step A h⟩
      | bk => exact h
      | ct => exact h
      | ret d => exact h
theorem dss_one (h1 : PS X st (RS P W f)) : PSs X [st] (RS P W f) := pss_one h1
theorem ds_set {i : Nat} {x : Str} {pos' : Pos} (hN : X.N.Nodup) (hi : X.N[i]? = some x) (hx : Loc X.env.scope x) (he : PE X e (RE P W fe)) (hs : swapsWith e (some (.Name x pos')) pos.line X.env = pure false := by rfl) (hf : X.fn x = true ∨ X.env.scope.names.lookup x = some .local := by first | exact .inl rfl | exact .inr rfl | assumption) :
    PS X (.Assign [.Name x pos'] e pos) (RS P W (sSet i fe)) := PS.mono (ps_set hN hi hx he hs hf) fun E σ H ⟨w, s, S, h⟩ => by
  refine ⟨w, s, S, (AtS.first (rel := relE P) h).imp ?_⟩
  rintro v H1 ⟨w1, s1, x, S1, r1, a1, h1⟩
  exact h1 _ _ _ Adv.S.refl (S1.set r1)
theorem ds_ret (he : PE X e (RE P W fe)) : PS X (.Return (some e) pos) (RS P W (sRet fe)) := PS.mono (ps_ret he) fun E σ H ⟨w, s, S, h⟩ => by
  refine ⟨w, s, S, (AtS.first (rel := relE P) h).imp ?_⟩
  rintro v H1 ⟨w1, s1, x, S1, r1, a1, h1⟩
  obtain ⟨d, s2, S2, A2, R2, h2⟩ := AtS.freeze h1 S1 r1
  exact h2 _ _ _ _ Adv.S.refl S2 R2
theorem ds_ex (he : PE X e (RE P W fe)) (hs : swapsWith e none pos.line X.env = pure false := by rfl) : PS X (.Expr e pos) (RS P W (sEx fe)) := PS.mono (ps_expr he hs) fun E σ H ⟨w, s, S, h⟩ => by
  refine ⟨w, s, S, (AtS.first (rel := relE P) h).imp ?_⟩
  rintro v H1 ⟨w1, s1, x, S1, r1, a1, h1⟩
  exact AtS.next h1 S1
theorem ds_if {a b : List Stmt} (hc : PT X c (RT P W ft)) (ha : PSs X a (RS P W f)) (hb : PSs X b (RS P W g)) : PS X (.If c a b pos) (RS P W (sIf ft f g)) := PS.mono (ps_if hc ha hb) fun E σ H ⟨w, s, S, h⟩ => by
  refine ⟨w, s, S, (AtS.first (rel := relB P) h).imp ?_⟩
  rintro v H1 ⟨w1, s1, x, S1, rfl, a1, h1⟩
  cases v with
  | true => exact ⟨w1, s1, S1, h1⟩
  | false => exact ⟨w1, s1, S1, h1⟩
theorem ds_pass : PS X (.Pass pos) (RS P W sNx) := PS.mono ps_pass fun E σ H ⟨w, s, S, h⟩ => AtS.next h S
theorem ds_never : PS X st (RS P W sBad) := PS.mono ps_never fun E σ H ⟨w, s, S, h⟩ => h
/-- name = [.. for ..] -/
theorem ds_setLc {i : Nat} {y : Str} {py : Pos} {elt tg iter : Expr} {ifs : List Expr} {scope : Scope} {own : List (Str × Nat)} {spos : Pos} {fi : LS → Out (List D)} {gg : TG} {t : Tgt} {fc : LS → Out Bool} {fl : LS → Out Lv} (hc : X.calm = true) (hN : X.N.Nodup) (hy : X.N[i]? = some y) (hyl : X.env.scope.names.lookup y = some .local)
    (hsw : swapsWith (.ListComp elt [⟨tg, iter, ifs, 0⟩] scope pos) (some (.Name y py)) spos.line X.env = pure true) (hi : PI X tg iter (RI P W fi)) (ok : BlkOk X.N X.env.scope scope own)
    (hg : ∀ (s : Shared) (H : Hp) (C : Addr) (cl : List (Str × Addr)) (fp : List Addr), PG (X.blk s H scope (compEnvC scope cl C X.env) fp) tg gg) (hT : ∀ P' : Gh, TgOk P' gg t (own.map (·.2)))
    (ht : ∀ (s : Shared) (H : Hp) (C : Addr) (cl : List (Str × Addr)) (fp : List Addr), PTs (X.blk s H scope (compEnvC scope cl C X.env) fp) ifs (RTx P.Γ fc))
    (he : ∀ (s : Shared) (H : Hp) (C : Addr) (cl : List (Str × Addr)) (fp : List Addr), PE (X.blk s H scope (compEnvC scope cl C X.env) fp) elt (REx P.Γ fl)) (hs : ∀ x, foldedSetIterable iter X.env x = pure x := by intro _; rfl) :
    PS X (.Assign [.Name y py] (.ListComp elt [⟨tg, iter, ifs, 0⟩] scope pos) spos) (RS P W (sSet i (eLc fi t fc fl (own.map (·.2))))) := PS.mono (ps_setLc hc hN hy hyl hsw hi ok hg ht he hs) fun E σ H ⟨w, s, S, h⟩ => by
  refine lc_read hT σ H _ ⟨w, s, S, (AtS.first (rel := relE P) h).imp ?_⟩
  rintro v H1 ⟨w1, s1, x, S1, r1, a1, h1⟩
  exact h1 _ _ _ Adv.S.refl (S1.set r1)
theorem ds_raise {x m : Str} {C : Addr} {j : Nat} {p p2 pos2 : Pos} (hc : X.calm = true) (tk : L2N.Takes X W) (q : PySem.W.excIn X.K C [.type "ValueError", .type "Exception", .type "BaseException", .type "object"] "ValueError.__new__" = true) (hmg : P.Γ.mg = X.mg) (gC : X.mg x = some (.ref C)) (kC : PySem.W.keepIn X.K (.ref C) = true) (r : Raises X (.ref C)) (hg : Gl X x)
    (hdb : (x == ("__debug__" : Str)) = false := by decide) : PS X (.Raise (some (.Call (.Name x p) [.Constant (.str m) j p2] [] pos)) none pos2) (RS P W (sRaise x)) :=
  PS.mono (L2N.ps_raise hc tk (L2N.pmk_own PySem.F.excBase_ValueError q gC kC r hg hdb)) fun E σ H ⟨w, s, S, h⟩ => h w σ H Adv.S.refl S C (by rw [hmg]; exact gC)
end

/-! ### loops -/
def forL (t : Tgt) (body : LS → Out Fl) : List D → LS → Out Fl
  | [], s => .ok .nx s
  | d :: r, s => onO (t d s.loc) fun loc' => (body { s with loc := loc' }).bind fun fl s1 => match fl with
    | .nx => forL t body r s1
    | .ct => forL t body r s1
    | .bk => .ok .nx s1
    | .ret d => .ok (.ret d) s1
def sFor (fi : LS → Out (List D)) (t : Tgt) (body : LS → Out Fl) : LS → Out Fl := fun s => (fi s).bind fun ds s1 => forL t body ds s1
def whL (ft : LS → Out Bool) (body : LS → Out Fl) : Nat → LS → Out Fl
  | 0, _ => .bad
  | n + 1, s => (ft s).bind fun b s1 => match b with
    | false => .ok .nx s1
    | true => (body s1).bind fun fl s2 => match fl with
      | .nx => whL ft body n s2
      | .ct => whL ft body n s2
      | .bk => .ok .nx s2
      | .ret d => .ok (.ret d) s2
section
variable {X : Cx} {P : Gh} {W : WX} {f : LS → Out Fl} {fi : LS → Out (List D)} {ft : LS → Out Bool} {tg iter c : Expr} {body : List Stmt} {pos : Pos}
theorem ds_for {g : TG} {t : Tgt} {vs : List Nat} (hp : PassesOwn (model X.prog X.w) X.A X.env X.xe) (hc : X.calm = true) (hi : PI X tg iter (RI P W fi)) (hg : PG X tg g) (hT : TgOk P g t vs) (hb : PSs X body (RS P W f))
    (hs : ∀ x, foldedSetIterable iter X.env x = pure x := by intro _; rfl) : PS X (.For tg iter body [] pos) (RS P W (sFor fi t f)) := PS.mono (ps_for hp hc hi hg hb hs) fun E σ H ⟨w, s, S, h⟩ => by
  refine ⟨w, s, S, (AtS.first (rel := relI P) h).imp ?_⟩
  rintro J H1 ⟨w1, s1, ds, S1, ⟨G, Y, wk, hG, hY⟩, a1, h1⟩
  refine for_it wk (fun i σ H => ∃ w s, SR P w σ H s ∧ Adv.S P w1 s1 H1 w s H ∧ AtS P W w s H E (forL t f (ds.drop i) s)) ⟨w1, s1, S1, Adv.S.refl, h1⟩ ?_ ?_ ?_
  · rintro i σ H hi ⟨w, s, S, A, _⟩
    exact hG (vwS P w s.own H) A.1
  · rintro i x σ H H2 hi ⟨w, s, S, A, q⟩ y
    obtain ⟨k, d, hd, rd⟩ := hY i (vwS P w s.own H) x H2 hi A.1 y
    obtain ⟨hl, e⟩ := List.getElem?_eq_some_iff.mp hd
    rw [List.drop_eq_getElem_cons hl, e] at q
    obtain ⟨loc', hloc, q⟩ := AtS.onO q
    have A2 : Adv.S P w s H w s H2 := Adv.toS (ext_adv k : Adv.E P w s H w s H2)
    refine hT w σ H2 s x d loc' _ (S.more k) rd hloc fun σ2 S2 _ => ⟨w, { s with loc := loc' }, S2, ?_⟩
    have q2 : AtS P W w { s with loc := loc' } H2 E ((f { s with loc := loc' }).bind _) := AtS.step A2 q
    have A3 : Adv.S P w1 s1 H1 w { s with loc := loc' } H2 := A.trans A2
    cases hf : f { s with loc := loc' } with
    | bad => rw [hf] at q2; exact q2.elim
    | exc c s3 => rw [hf] at q2; exact q2
    | ok fl s3 =>
      rw [hf] at q2
      cases fl with
      | nx => exact fun w' σ' H' A' S' => ⟨w', s3, S', A3.trans A', AtS.step A' q2⟩
      | ct => exact fun w' σ' H' A' S' => ⟨w', s3, S', A3.trans A', AtS.step A' q2⟩
      | bk => exact q2
      | ret d => exact q2
  · rintro σ H ⟨w, s, S, A, q⟩
    rw [List.drop_length] at q
    exact AtS.next q S
theorem ds_while (n : Nat) (hp : PassesOwn (model X.prog X.w) X.A X.env X.xe) (hc : PT X c (RT P W ft)) (hb : PSs X body (RS P W f)) : PS X (.While c body [] pos) (RS P W (whL ft f n)) := PS.mono (ps_while hp hc hb) fun E σ H ⟨w, s, S, h⟩ => by
  refine ⟨fun m σ H => ∃ w s, SR P w σ H s ∧ AtS P W w s H E (whL ft f m s), ⟨n, w, s, S, h⟩, ?_⟩
  rintro m σ H ⟨w, s, S, q⟩
  cases m with
  | zero => exact q.elim
  | succ m =>
    refine ⟨w, s, S, (AtS.first (rel := relB P) q).imp ?_⟩
    rintro v H1 ⟨w1, s1, x, S1, rfl, a1, h1⟩
    cases v with
    | false => exact AtS.next h1 S1
    | true =>
      refine ⟨fun σ H => ∃ w s, SR P w σ H s ∧ AtS P W w s H E (whL ft f m s), fun σ' H' q' => ⟨m, Nat.lt_succ_self _, q'⟩, w1, s1, S1, ?_⟩
      have q2 : AtS P W w1 s1 H1 E ((f s1).bind _) := h1
      cases hf : f s1 with
      | bad => rw [hf] at q2; exact q2.elim
      | exc c s3 => rw [hf] at q2; exact q2
      | ok fl s3 =>
        rw [hf] at q2
        cases fl with
        | nx => exact fun w' σ' H' A' S' => ⟨w', s3, S', AtS.step A' q2⟩
        | ct => exact fun w' σ' H' A' S' => ⟨w', s3, S', AtS.step A' q2⟩
        | bk => exact q2
        | ret d => exact q2
end

/-! ### a def's own list changes -/
section
variable {P : Gh} {W : WX} {w : Wd} {σ : St} {H : Hp} {s : LS}
theorem live_set {k : Nat} {o o' : OO} {a : Addr} (hk : s.own[k]? = some (some o)) : live w (s.own.set k (some o')) a ↔ live w s.own a := by
  constructor
  · rintro ⟨j, u, h1, h2⟩
    by_cases e : k = j
    · subst e; exact ⟨k, o, h1, hk⟩
    · rw [List.getElem?_set_ne e] at h2; exact ⟨j, u, h1, h2⟩
  · rintro ⟨j, u, h1, h2⟩
    by_cases e : k = j
    · subst e
      exact ⟨k, o', h1, by rw [List.getElem?_set_self (List.getElem?_eq_some_iff.mp hk).1]⟩
    · exact ⟨j, u, h1, by rw [List.getElem?_set_ne e]; exact h2⟩
theorem nb_set {k : Nat} {o o' : OO} {a : Addr} (hk : s.own[k]? = some (some o)) : nbW P w (s.own.set k (some o')) a ↔ nbW P w s.own a := by
  constructor
  · rintro (h | h | h)
    · exact .inl h
    · exact .inr (.inl h)
    · exact .inr (.inr ((live_set hk).mp h))
  · rintro (h | h | h)
    · exact .inl h
    · exact .inr (.inl h)
    · exact .inr (.inr ((live_set hk).mpr h))
theorem SR.mut (S : SR P w σ H s) {k : Nat} {a : Addr} {ds ds' : List D} {ys : List V} (ha : w.oa[k]? = some a) (hk : s.own[k]? = some (some (.l ds))) (r : RepsW P w s H ys ds') :
    SR P w σ (upd H a (.lst ys)) { s with own := s.own.set k (some (.l ds')) } ∧ Adv.S P w s H w { s with own := s.own.set k (some (.l ds')) } (upd H a (.lst ys)) := by
  obtain ⟨xs, hx, rx⟩ := own_at S ha hk
  have hnb : nbW P w s.own a := .inr (.inr ⟨k, _, ha, hk⟩)
  have hm : a ∈ w.oa := List.mem_of_getElem? ha
  have key : ∀ b o, H b = some o → b ≠ a → upd H a (.lst ys) b = some o := fun b o h n => by rw [upd_ne n]; exact h
  have tp : ∀ b zs, H b = some (.tup zs) → upd H a (.lst ys) b = some (.tup zs) := fun b zs h => key b _ h fun e => by rw [e, hx] at h; cases h
  have A : Adv.S P w s H w { s with own := s.own.set k (some (.l ds')) } (upd H a (.lst ys)) :=
    ⟨⟨fun b o h n => key b o h fun e => n (e ▸ hnb), tp, fun b c => .inl ((nb_set hk).mp c), fun b c => .inl ((nb_set hk).mp c), Ad.Le.refl _⟩, fun _ _ q => q⟩
  have R : Reps P.Γ (upd H a (.lst ys)) (nbW P w (s.own.set k (some (.l ds')))) w.ad ys ds' := Reps.mono (x := vwS P w s.own H) (y := vwS P w (s.own.set k (some (.l ds'))) (upd H a (.lst ys))) subS A.1 r
  refine ⟨⟨fun i x q => ?_, S.len, ?_, S.nd, fun i b o q1 q2 => ?_, fun b q => ?_, S.ofr, S.ogd, ?_, fun b o q n => ?_, fun b zs q => tp b zs (S.tups b zs q), S.gnew, S.le, S.bh⟩, A⟩
  · obtain ⟨v, e, r⟩ := S.slot i x q
    exact ⟨v, e, RepL.advS A r⟩
  · show w.oa.length = (s.own.set k _).length
    rw [List.length_set]; exact S.ol
  · have q2 : (s.own.set k (some (.l ds')))[i]? = some (some o) := q2
    by_cases e : k = i
    · subst e
      rw [List.getElem?_set_self (List.getElem?_eq_some_iff.mp hk).1] at q2
      cases q2
      rw [ha] at q1; cases q1
      exact ⟨.lst ys, upd_same, R⟩
    · rw [List.getElem?_set_ne e] at q2
      obtain ⟨u, e1, r1⟩ := S.orel i b o q1 q2
      have hba : b ≠ a := fun z => by
        obtain ⟨l1, e2⟩ := List.getElem?_eq_some_iff.mp q1
        obtain ⟨l2, e3⟩ := List.getElem?_eq_some_iff.mp ha
        exact e ((List.getElem_inj S.nd).mp (e3.trans (z ▸ e2.symm)))
      exact ⟨u, key b u e1 hba, RepO.mono (x := vwS P w s.own H) (y := vwS P w (s.own.set k (some (.l ds'))) (upd H a (.lst ys))) subS A.1 r1⟩
  · by_cases e : b = a
    · subst e; exact ⟨_, upd_same⟩
    · obtain ⟨u, e1⟩ := S.oth b q
      exact ⟨u, key b u e1 e⟩
  · exact S.gr.stay (fun b o q c => key b o q fun e => S.ogd a hm (e ▸ c)) (fun b o u q => key b _ q fun e => by rw [e, hx] at q; cases q) tp
  · exact key b o (S.keep b o q n) fun e => by
      have := S.ofr a hm
      rw [← e, q] at this; cases this
end
end Br

/-! Methods of own lists; defs and their calls. -/
namespace Br
open PySem L2

/-! ### x.append(e), x.extend(e), x.remove(e), x an own list -/
def ownAt (i : Nat) (s : LS) : Option Nat := match s.loc[i]? with
  | some (some (.own k)) => match s.own[k]? with
    | some (some (.l _)) => some k
    | _ => none
  | _ => none
def ownL (k : Nat) (s : LS) : Option (List D) := match s.own[k]? with
  | some (some (.l ds)) => some ds
  | _ => none
def sMut (sem : List D → D → Option (List D)) (i : Nat) (f : LS → Out Lv) : LS → Out Fl := fun s => onO (ownAt i s) fun k => (f s).bind fun x s1 => (freeze x s1).bind fun d s2 => onO (ownL k s2) fun ds => onO (sem ds d) fun ds' => .ok .nx { s2 with own := s2.own.set k (some (.l ds')) }
def mApp : List D → D → Option (List D) := fun ds d => if ds.length < 100000 then some (ds ++ [d]) else none
def mExt : List D → D → Option (List D)
  | ds, .lst es => if ds.length + es.length ≤ 100000 then some (ds ++ es) else none
  | _, _ => none
/-- the first place of k -/
def place1 (k : Int) : List Int → Option Nat
  | [] => none
  | n :: r => if n = k then some 0 else (place1 k r).map (· + 1)
theorem place1_spec {k : Int} : ∀ {ns : List Int} {j : Nat}, place1 k ns = some j → ns[j]? = some k ∧ ∀ m : Nat, m < j → ns[m]? ≠ some k
  | [], _, h => by simp [place1] at h
  | n :: r, j, h => by
    unfold place1 at h
    split at h
    · rename_i e
      cases h
      exact ⟨by simp [e], fun m hm => absurd hm (Nat.not_lt_zero _)⟩
    · rename_i e
      cases hp : place1 k r with
      | none => rw [hp] at h; cases h
      | some i =>
        rw [hp] at h
        cases h
        obtain ⟨h1, h2⟩ := place1_spec hp
        refine ⟨by simpa using h1, fun m hm => ?_⟩
        cases m with
        | zero => simp only [List.getElem?_cons_zero]; exact fun q => e (Option.some.inj q)
        | succ m =>
          have hm : m + 1 < i + 1 := hm
          simpa using h2 m (by omega)
def mRem : List D → D → Option (List D)
  | ds, .int k => match intsD ds with
    | some ns => match place1 k ns with
      | some j => some ((ns.eraseIdx j).map D.int)
      | none => none
    | none => none
  | _, _ => none
section
variable {X : Cx} {P : Gh} {W : WX} {w : Wd} {σ : St} {H : Hp} {s : LS} {a b c e : Expr} {es : List Expr} {fa fb fe : LS → Out Lv} {ga : LS → Out (List Lv)} {pos : Pos}
theorem ownAt_some {i k : Nat} (h : ownAt i s = some k) : s.loc[i]? = some (some (.own k)) ∧ ∃ ds, s.own[k]? = some (some (.l ds)) := by
  unfold ownAt at h
  split at h
  · rename_i k' hl
    split at h
    · rename_i ds hk
      cases h
      exact ⟨hl, ds, hk⟩
    · cases h
  · cases h
theorem ownL_some {k : Nat} {ds : List D} (h : ownL k s = some ds) : s.own[k]? = some (some (.l ds)) := by
  unfold ownL at h
  split at h
  · rename_i ds' hk
    cases h
    exact hk
  · cases h
/-- r serves sem on an own list -/
def MutS (r : V → List V → Hp → VK → Prop) (sem : List D → D → Option (List D)) : Prop := ∀ (P : Gh) (w : Wd) (σ : St) (H : Hp) (s : LS) (l : Addr) (xs : List V) (ds ds' : List D) (v : V) (d : D) (Q : VK), SR P w σ H s → H l = some (.lst xs) → RepsW P w s H xs ds → RepW P w s H v d → sem ds d = some ds' →
  (∀ ys, RepsW P w s H ys ds' → Q .non (upd H l (.lst ys))) → r (.ref l) [v] H Q
theorem ms_app : MutS rAppend mApp := by
  intro P w σ H s l xs ds ds' v d Q S hl rx rv e q
  unfold mApp at e
  split at e
  · rename_i hn
    cases e
    exact ⟨l, xs, v, rfl, rfl, hl, by rw [rx.length]; exact Nat.lt_of_lt_of_le hn (by decide), q _ (rx.append (.cons rv .nil))⟩
  · cases e
theorem ms_ext : MutS rExtend mExt := by
  intro P w σ H s l xs ds ds' v d Q S hl rx rv e q
  cases d <;> simp only [mExt] at e <;> try cases e
  split at e
  · rename_i hn
    cases e
    cases rv with
    | lst hb n rb => exact ⟨l, _, xs, _, rfl, rfl, hl, hb, by rw [rx.length, rb.length]; exact Nat.le_trans hn (by decide), q _ (rx.append rb)⟩
  · cases e
theorem ms_rem : MutS rRemI mRem := by
  intro P w σ H s l xs ds ds' v d Q S hl rx rv e q
  cases d <;> simp only [mRem] at e <;> try cases e
  rename_i k
  cases hn : intsD ds with
  | none => rw [hn] at e; cases e
  | some ns =>
    rw [hn] at e
    simp only at e
    cases hp : place1 k ns with
    | none => rw [hp] at e; cases e
    | some j =>
      rw [hp] at e
      cases e
      rw [intsD_eq hn] at rx
      cases rx.ints_inv
      cases rv
      obtain ⟨h1, h2⟩ := place1_spec hp
      exact ⟨l, ns, k, j, rfl, rfl, hl, h1, h2, q _ (Reps.ints _)⟩
theorem ds_mut {i : Nat} {x : Str} {name : Str} {id : String} {p apos cpos : Pos} {r : V → List V → Hp → VK → Prop} {sem : List D → D → Option (List D)} (hS : MutS r sem) (pa : PlainAttrs "list") (slot : Slot "list" name id) (hty : typeOf (.builtin id) = pure (.type "method_descriptor")) (hm : MtM X id r) (ha : PE X a (RE P W fe)) (hK : X.K = P.Γ.K)
    (hN : X.N[i]? = some x := by rfl) (hv : Vis X.env.scope x := by first | exact Or.inl rfl | exact Or.inr (Or.inl rfl) | exact Or.inr (Or.inr rfl)) (hd : (x == ("__debug__" : Str)) = false := by decide) (hcd : (x == ("__classdict__" : Str)) = false := by decide)
    (hsw : swapsWith (.Call (.Attribute (.Name x p) name apos) [a] [] cpos) none pos.line X.env = pure false := by rfl)
    (hbase : attributeBase (.Name x p) name X.env (eval (.Name x p) X.env) = eval (.Name x p) X.env := by rfl)
    (hfew : ((backTo cpos (starEach [a] X.env)).all (fun x => !x.1) && (backToKw cpos (keywordEach [] X.env)).all (fun x => x.1.isSome)
      && decide ([a].length + ([] : List Keyword).length + (if ([] : List Keyword).isEmpty then 0 else 1) < 30)) = true := by rfl)
    (hline : (apos.endLine == cpos.line) = true := by rfl) (hs : starEach [a] X.env = (false, eval a X.env) :: starEach [] X.env := by rfl) (hplain : (backTo cpos (starEach [] X.env)).any (·.1) = false := by rfl) :
    PS X (.Expr (.Call (.Attribute (.Name x p) name apos) [a] [] cpos) pos) (RS P W (sMut sem i fe)) :=
  PS.mono (ps_expr (pe_bm pa slot hty hm (pv i hN hv hd hcd) (pa_cons ha pa_nil hs) hbase hfew hline hs hplain) hsw) fun E σ H ⟨w, s, S, h⟩ => by
    obtain ⟨k, hk, h⟩ := AtS.onO h
    obtain ⟨hl, ds0, hds0⟩ := ownAt_some hk
    obtain ⟨v, ev, l, hla, rfl⟩ := S.slot i _ hl
    obtain ⟨xs0, hx0, _⟩ := own_at S hla hds0
    refine ⟨.ref l, ev, .inl ⟨rfl, xs0, SqL.of hx0⟩, w, s, S, (AtS.first (rel := relE P) h).imp ?_⟩
    rintro v H1 ⟨w1, s1, x, S1, r1, a1, h1⟩
    obtain ⟨d, s2, S2, A2, R2, h2⟩ := AtS.freeze h1 S1 r1
    obtain ⟨ds, hds, h3⟩ := AtS.onO h2
    obtain ⟨ds', hds', h4⟩ := AtS.onO h3
    have hla2 := a1.2 k l hla
    obtain ⟨xs, hx, rx⟩ := own_at S2 hla2 (ownL_some hds)
    refine hS P w1 σ H1 s2 l xs ds ds' v d _ S2 hx rx R2 hds' fun ys ry => ?_
    obtain ⟨S3, A3⟩ := S2.mut hla2 (ownL_some hds) ry
    exact h4 _ _ _ A3 S3

/-! ### calls of defs -/
theorem SR.call (S : SR P w σ H s) {H' : Hp} {ad' : Ad} {g' : GS} (A : AdvF H w.ad H' ad') (G : GR P.Γ H' ad' g') :
    SR P ⟨ad', w.oa⟩ σ H' { s with g := g' } ∧ Adv.E P w s H ⟨ad', w.oa⟩ { s with g := g' } H' := by
  have B : Adv.E P w s H ⟨ad', w.oa⟩ { s with g := g' } H' := ⟨⟨A.keep, A.tups, A.gnew, fun a c => by
    rcases c with c | c | c
    · exact .inl (.inl c)
    · exact (A.gnew a c).imp (fun z => .inr (.inl z)) id
    · exact .inl (.inr (.inr c)), A.le⟩, fun _ _ q => q⟩
  refine ⟨⟨fun i x q => ?_, S.len, S.ol, S.nd, fun i a o q1 q2 => ?_, fun a q => ?_, S.ofr, fun a q c => ?_, G, fun a o q n => ?_, fun a xs q => A.tups a xs (S.tups a xs q), fun a c => ?_, S.le.trans A.le, S.bh⟩, B⟩
  · obtain ⟨v, e, r⟩ := S.slot i x q
    exact ⟨v, e, RepL.adv B r⟩
  · obtain ⟨u, e, r⟩ := S.orel i a o q1 q2
    exact ⟨u, A.keep a u e (S.ogd a (List.mem_of_getElem? q1)), RepO.mono (x := vwE P w s.own H) (y := vwE P ⟨ad', w.oa⟩ s.own H') subE B.1 r⟩
  · obtain ⟨u, e⟩ := S.oth a q
    exact ⟨u, A.keep a u e (S.ogd a q)⟩
  · obtain ⟨u, e⟩ := S.oth a q
    exact (A.gnew a c).elim (S.ogd a q) fun z => by rw [e] at z; cases z
  · exact A.keep a o (S.keep a o q n) fun c => (S.gnew a c).elim n fun z => by rw [q] at z; cases z
  · rcases A.gnew a c with c | c
    · exact S.gnew a c
    · cases e : P.H0 a with
      | none => exact .inr rfl
      | some o =>
        by_cases g0 : gad P.ad0 a
        · exact .inl g0
        · rw [S.keep a o e g0] at c; cases c
def allD : List Lv → Bool
  | [] => true
  | .d _ :: r => allD r
  | .own _ :: _ => false
def called (plain : Bool) (s : LS) : FOut → Out Lv
  | .ok d g' => gd (plain || (flat d).isSome) (okD d { s with g := g' })
  | .exc c g' => .exc c { s with g := g' }
  | .bad => .bad
def eCall (m : List D → GS → FOut) (ga : LS → Out (List Lv)) : LS → Out Lv := fun s => (ga s).bind fun xs s1 => onO (borrows s1 xs) fun ds => called (allD xs) s1 (m ds s1.g)
theorem args_own {vs : List V} {xs : List Lv} {ds : List D} (S : SR P w σ H s) : RepLs P w s.own H vs xs → borrows s xs = some ds → Reps P.Γ H (nbF P.B w.ad) w.ad vs ds := by
  intro r
  induction r generalizing ds with
  | nil => intro e; simp only [borrows] at e; cases e; exact .nil
  | @cons v vs x xs h r ih =>
    intro e
    simp only [borrows] at e
    split at e
    · rename_i d ds' h1 h2
      cases e
      refine .cons ?_ (ih h2)
      have less : ∀ a, nbF P.B w.ad a → nbW P w s.own a := fun a c => c.elim .inl fun z => .inr (.inl z)
      cases x with
      | d y => cases h1; exact Rep.less less h
      | own k =>
        obtain ⟨a, ha, rfl⟩ := h
        simp only [borrow] at h1
        split at h1
        · rename_i es hk
          cases h1
          obtain ⟨ys, e1, r1⟩ := own_at S ha hk
          have hm : a ∈ w.oa := List.mem_of_getElem? ha
          refine .lst e1 (fun c => ?_) (Reps.less less r1)
          rcases c with c | c
          · obtain ⟨⟨o, e2⟩, _⟩ := S.bh a c
            rw [S.ofr a hm] at e2; cases e2
          · exact S.ogd a hm c
        · cases h1
    · cases e
theorem args_plain {vs : List V} {xs : List Lv} {ds : List D} : RepLs P w s.own H vs xs → borrows s xs = some ds → allD xs = true → RepsW P w s H vs ds := by
  intro r
  induction r generalizing ds with
  | nil => intro e _; simp only [borrows] at e; cases e; exact .nil
  | @cons v vs x xs h r ih =>
    intro e p
    simp only [borrows] at e
    split at e
    · rename_i d ds' h1 h2
      cases e
      cases x with
      | d y => cases h1; exact .cons h (ih h2 p)
      | own k => cases p
    · cases e
theorem flat_any {Γ : Gm} {H : Hp} {nb nb' : Addr → Prop} {ad : Ad} {v : V} {d : D} (f : (flat d).isSome = true) (h : Rep Γ H nb ad v d) : Rep Γ H nb' ad v d := by
  cases h with
  | non => exact .non
  | bl b => exact .bl b
  | int b => exact .int b
  | str b => exact .str b
  | _ => simp [flat] at f
/-- a call on values: what the promise gives -/
theorem call_at {m : List D → GS → FOut} {xs : List Lv} {vs : List V} {ds : List D} {Q : VK} (S : SR P w σ H s) (r : RepLs P w s.own H vs xs) (hd : borrows s xs = some ds) (h : At P W (relE P) w s σ H Q (called (allD xs) s (m ds s.g))) : spF P.Γ m vs H Q (WE W σ) := by
  cases hp : allD xs with
  | true =>
    refine ⟨w.ad, fun a => P.B a ∨ live w s.own a, s.g, ds, S.gr, Reps.less (fun a c => ?_) (args_plain r hd hp), fun a c => ?_, ?_⟩
    · rcases c with (c | c) | c
      · exact .inl c
      · exact .inr (.inr c)
      · exact .inr (.inl c)
    · rcases c with c | ⟨k, o, h1, h2⟩
      · obtain ⟨⟨o, e⟩, n⟩ := S.bh a c
        exact ⟨⟨o, S.keep a o e n⟩, fun q => (S.gnew a q).elim n fun z => by rw [e] at z; cases z⟩
      · have hm : a ∈ w.oa := List.mem_of_getElem? h1
        exact ⟨S.oth a hm, S.ogd a hm⟩
    · rw [hp] at h
      cases hm : m ds s.g with
      | bad => rw [hm] at h; exact h.elim
      | exc c g' =>
        rw [hm] at h
        intro ad' H' A G C e
        obtain ⟨S', A'⟩ := S.call A G
        exact h _ _ A' S' C e
      | ok d g' =>
        rw [hm] at h
        intro ad' H' v A G rv
        obtain ⟨S', A'⟩ := S.call A G
        refine h _ _ _ A' S' (Rep.less (fun a c => ?_) rv)
        rcases c with c | c | c
        · exact .inl (.inl c)
        · exact .inr c
        · exact .inl (.inr c)
  | false =>
    refine ⟨w.ad, P.B, s.g, ds, S.gr, args_own S r hd, fun a c => ?_, ?_⟩
    · obtain ⟨⟨o, e⟩, n⟩ := S.bh a c
      exact ⟨⟨o, S.keep a o e n⟩, fun q => (S.gnew a q).elim n fun z => by rw [e] at z; cases z⟩
    · rw [hp] at h
      cases hm : m ds s.g with
      | bad => rw [hm] at h; exact h.elim
      | exc c g' =>
        rw [hm] at h
        intro ad' H' A G C e
        obtain ⟨S', A'⟩ := S.call A G
        exact h _ _ A' S' C e
      | ok d g' =>
        rw [hm] at h
        obtain ⟨f, h⟩ := At.gd h
        intro ad' H' v A G rv
        obtain ⟨S', A'⟩ := S.call A G
        exact h _ _ _ A' S' (flat_any (by simpa using f) rv)
end
/-- a def of the text that keeps the promise m -/
structure FnT (Pg : Program) (wd : World) (base : Heap) (Γ : Gm) (k : Nat) (x : Str) (m : List D → GS → FOut) : Prop where
  ex : ∃ (f : Addr) (fd : FuncData) (ps : List Str), Γ.mg x = some (.ref f) ∧ PySem.W.keepIn Γ.K (.ref f) = true ∧ Binds Γ.K fd ps [] ∧ FnOk Pg wd Γ.K Γ.mg base (L2N.CX Pg wd) k f fd ps (spF Γ m)
section
variable {X : Cx} {P : Gh} {W : WX} {e : Expr} {es : List Expr} {ga : LS → Out (List Lv)} {pos : Pos}
theorem de_call {k : Nat} {x : Str} {p : Pos} {m : List D → GS → FOut} (F : FnT X.prog X.w X.base P.Γ k x m) (hK : X.K = P.Γ.K) (hmg : X.mg = P.Γ.mg) (hr : Room k X.A) (tk : L2N.Takes X W) (hg : Gl X x) (ha : PA X (e :: es) (RA P W ga)) (hdb : (x == ("__debug__" : Str)) = false := by decide) (he : starEach (e :: es) X.env = (false, eval e X.env) :: starEach es X.env := by rfl) (hpl : (backTo pos (starEach es X.env)).any (·.1) = false := by rfl) :
    PE X (.Call (.Name x p) (e :: es) [] pos) (RE P W (eCall m ga)) := by
  obtain ⟨f, fd, ps, hm, hk, hb, F⟩ := F.ex
  rw [← hK, ← hmg] at F
  refine PE.mono (pe_callS F hr hg (by rw [hmg]; exact hm) (by rw [hK]; exact hk) (by rw [hK]; exact hb) (fun σ => L2N.passAt tk σ) ha hdb he hpl) fun σ H Q ⟨w, s, S, h⟩ => ?_
  refine ⟨w, s, S, (At.first (relX := relA P) h).imp ?_⟩
  rintro v H1 ⟨w1, s1, x, S1, r1, a1, h1⟩
  obtain ⟨ds, hd, h1⟩ := At.onO h1
  exact call_at S1 r1 hd h1
end

/-! ### a def by its body -/
def start0 (n : Nat) (ds : List D) : Loc0 := ds.map (fun d => some (.d d)) ++ List.replicate (n - ds.length) none
def fin : Out Fl → FOut
  | .ok .nx s => .ok .non s.g
  | .ok (.ret d) s => .ok d s.g
  | .ok .bk _ => .bad
  | .ok .ct _ => .bad
  | .exc c s => .exc c s.g
  | .bad => .bad
def runF (np n : Nat) (body : LS → Out Fl) : List D → GS → FOut := fun ds g => match decide (ds.length = np) with
  | true => fin (body ⟨start0 n ds, [], g⟩)
  | false => .bad
theorem start_sr {Γ : Gm} {H : Hp} {ad : Ad} {B : Addr → Prop} {g : GS} {N : List Str} {vs : List V} {ds : List D} (G : GR Γ H ad g) (r : Reps Γ H (nbF B ad) ad vs ds) (hB : ∀ a, B a → (∃ o, H a = some o) ∧ ¬ gad ad a) :
    SR ⟨Γ, H, ad, B⟩ ⟨ad, []⟩ (L2.start N vs) H ⟨start0 N.length ds, [], g⟩ where
  slot := fun i x h => by
    have h : (ds.map (fun d => some (Lv.d d)) ++ List.replicate (N.length - ds.length) none)[i]? = some (some x) := h
    have hi : i < ds.length := by
      by_cases hi : i < ds.length
      · exact hi
      · rw [List.getElem?_append_right (by simpa using hi), List.getElem?_replicate] at h
        split at h <;> cases h
    rw [List.getElem?_append_left (by simpa using hi), List.getElem?_map] at h
    cases e : ds[i]? with
    | none => rw [e] at h; exact nomatch h
    | some d =>
      rw [e] at h
      cases h
      obtain ⟨v, ev, rv⟩ := r.getD e
      refine ⟨v, ?_, Rep.less (fun a c => ?_) rv⟩
      · unfold L2.start
        rw [List.getElem?_append_left (by rw [List.length_map, r.length]; exact hi), List.getElem?_map, ev]; rfl
      · rcases c with c | c | ⟨k, o, h, _⟩
        · exact .inl c
        · exact .inr c
        · simp at h
  len := by
    show (L2.start N vs).length = (start0 N.length ds).length
    unfold L2.start start0
    rw [List.length_append, List.length_append, List.length_map, List.length_map, List.length_replicate, List.length_replicate, r.length]
  ol := rfl
  nd := List.nodup_nil
  orel := fun i a o h _ => by simp at h
  oth := fun a h => by simp at h
  ofr := fun a h => by simp at h
  ogd := fun a h => by simp at h
  gr := G
  keep := fun _ _ h _ => h
  tups := fun _ _ h => h
  gnew := fun _ h => .inl h
  le := Ad.Le.refl _
  bh := hB
/-- from a promise to the body's reading -/
theorem body_read {Γ : Gm} {np : Nat} {N : List Str} {body : LS → Out Fl} {vs : List V} {H : Hp} {Q : VK} {E : XK} (h : spF Γ (runF np N.length body) vs H Q E) :
    ∃ H0 ad0 B, RS ⟨Γ, H0, ad0, B⟩ (fun c d _ H => E c d H) body { nx := fun _ H' => Q .non H', rt := Q } (L2.start N vs) H := by
  obtain ⟨ad, B, g, ds, G, r, hB, h⟩ := h
  refine ⟨H, ad, B, ⟨ad, []⟩, ⟨start0 N.length ds, [], g⟩, start_sr G r hB, ?_⟩
  unfold runF at h
  cases hn : decide (ds.length = np) with
  | false => rw [hn] at h; exact h.elim
  | true =>
    rw [hn] at h
    have af : ∀ {w' : Wd} {σ' : St} {H' : Hp} {s' : LS}, SR ⟨Γ, H, ad, B⟩ w' σ' H' s' → AdvF H ad H' w'.ad := fun S => ⟨S.keep, S.tups, S.gnew, S.le⟩
    cases hb : body ⟨start0 N.length ds, [], g⟩ with
    | bad => rw [hb] at h; exact h.elim
    | exc c s' =>
      rw [hb] at h
      exact fun w' σ' H' _ S C e => h w'.ad H' (af S) S.gr C e
    | ok fl s' =>
      rw [hb] at h
      cases fl with
      | bk => exact h.elim
      | ct => exact h.elim
      | nx => exact fun w' σ' H' _ S => h w'.ad H' .non (af S) S.gr .non
      | ret d => exact fun w' σ' H' v _ S rv => h w'.ad H' v (af S) S.gr (Rep.less (fun a c => c.elim .inl fun z => .inr (.inl z)) rv)
theorem runF_len {Γ : Gm} {np n : Nat} {body : LS → Out Fl} {vs : List V} {H : Hp} {Q : VK} {E : XK} (h : spF Γ (runF np n body) vs H Q E) : vs.length = np := by
  obtain ⟨ad, B, g, ds, G, r, hB, h⟩ := h
  rw [r.length]
  unfold runF at h
  cases hn : decide (ds.length = np) with
  | false => rw [hn] at h; exact h.elim
  | true => exact of_decide_eq_true hn
/-- THE RULE for a def -/
theorem fn_ok {Pg : Program} {wd : World} {base : Heap} {Γ : Gm} {x qual : Str} {st : Stmt} {f : Addr} {fd : FuncData} {N ps : List Str} {k : Nat} {body : LS → Out Fl} (F : Fun Γ.K x qual st f fd) (S : FnScope N ps (defScope st))
    (hbody : ∀ (cdv : Value) (A : Around) (outer : List Env) (s : Shared) (H : Hp) (E : XK) (H0 : Hp) (ad0 : Ad) (B : Addr → Prop), Room k (A.deeper (PyProof.Rows.envOfC qual (defScope st) s.heap.objs.size f cdv)) →
      PSs (cxOf (L2N.CX Pg wd) Pg wd Γ.K Γ.mg base N qual (defScope st) f cdv A outer s H E) (defBody st) (RS ⟨Γ, H0, ad0, B⟩ (fun c d _ H => E c d H) body)) :
    FnOk Pg wd Γ.K Γ.mg base (L2N.CX Pg wd) (k + 1) f fd ps (spF Γ (runF ps.length N.length body)) := by
  obtain ⟨_, _, _, _, _, _, cdv, _, _, rfl, lk, hcd⟩ := F.ex
  refine fn_of lk hcd S (fun vs H Q E h => runF_len h) fun A outer s H vs Q E hr hsp => ?_
  obtain ⟨H0, ad0, B, h⟩ := body_read (N := N) hsp
  exact ⟨_, hbody cdv A outer s H E H0 ad0 B hr, h⟩
theorem fn_data {Pg : Program} {wd : World} {base : Heap} {Γ : Gm} {x qual : Str} {st : Stmt} {f : Addr} {fd : FuncData} {N ps : List Str} {k : Nat} {body : LS → Out Fl} (F : Fun Γ.K x qual st f fd) (hm : Γ.mg x = some (.ref f)) (hb : Binds Γ.K fd ps []) (S : FnScope N ps (defScope st))
    (hbody : ∀ (cdv : Value) (A : Around) (outer : List Env) (s : Shared) (H : Hp) (E : XK) (H0 : Hp) (ad0 : Ad) (B : Addr → Prop), Room k (A.deeper (PyProof.Rows.envOfC qual (defScope st) s.heap.objs.size f cdv)) →
      PSs (cxOf (L2N.CX Pg wd) Pg wd Γ.K Γ.mg base N qual (defScope st) f cdv A outer s H E) (defBody st) (RS ⟨Γ, H0, ad0, B⟩ (fun c d _ H => E c d H) body)) :
    FnT Pg wd base Γ (k + 1) x (runF ps.length N.length body) := ⟨f, fd, ps, hm, F.kp, hb, fn_ok F S hbody⟩
/-- the law's promise, from what it gives -/
theorem law_sp {Γ : Gm} {m : List D → GS → FOut} {H : Hp} {a : Addr} {ns : List Int} (hO : Only H) (hS : SqL Γ.K H a (ns.map V.int)) (h : ∃ g', m [.scr] ⟨ns, none, []⟩ = .ok (.bl true) g') : spF Γ m [.ref a] H (fun v _ => v = .bl true) fun _ _ _ => False := by
  obtain ⟨g', e⟩ := h
  refine ⟨⟨some a, none, []⟩, fun _ => False, ⟨ns, none, []⟩, [.scr], ⟨fun b q => ?_, fun b q => (by cases q), fun _ => rfl, rfl, fun k b c q => (by simp at q), List.nodup_nil, fun b q => (by cases q)⟩, .cons (.scr rfl) .nil, fun _ c => c.elim, ?_⟩
  · cases q
    rcases hS with (hS | ⟨o, hS⟩) | hS
    · rcases hO a with z | ⟨o, xs, z⟩
      · rw [z] at hS; cases hS
      · rw [z] at hS; cases hS
    · exact .inl ⟨o, hS⟩
    · exact .inr (.inr hS)
  · rw [e]
    intro ad' H' v _ _ r
    cases r
    rfl
theorem noCX {Pg : Program} {w : World} (H : Hp) (s : Shared) (e : Value) (s' : Shared) (h : L2N.CX Pg w [] H s (fun _ _ _ => False) e s') : False := by
  exact h.elim fun _ ⟨_, _, _, _, _, _, _, _, _, _, _, z⟩ => z
theorem takesN {X : Cx} : L2N.Takes X W0 := fun _ _ x => by
  exact x.elim fun _ ⟨_, _, _, _, _, _, _, _, _, _, _, _, _, _, _, z⟩ => z.elim
/-- an error's class -/
structure ExcT (Γ : Gm) (x : Str) (C : Addr) : Prop where
  gC : Γ.mg x = some (.ref C)
  xC : PySem.W.excIn Γ.K C [.type "ValueError", .type "Exception", .type "BaseException", .type "object"] "ValueError.__new__" = true
  kC : PySem.W.keepIn Γ.K (.ref C) = true
  bC : PySem.W.subIn Γ.K (.ref C) (.type "BaseException") = some true
  tC : PySem.W.typeIn Γ.K (.ref C) = some (.type "type")
end Br

/-! isinstance, slices, several targets, and more. -/
namespace Br
open PySem L2

/-! ### isinstance(x, T), T a built-in type -/
inductive TyN where
  | int | bool | tuple | str
def TyN.name : TyN → String
  | .int => "int"
  | .bool => "bool"
  | .tuple => "tuple"
  | .str => "str"
def isN : TyN → D → Option Bool
  | .int, .int _ => some true
  | .int, .bl _ => some true
  | .bool, .bl _ => some true
  | .tuple, .tup _ => some true
  | .str, .str _ => some true
  | .int, .non => some false
  | .int, .str _ => some false
  | .int, .tup _ => some false
  | .int, .lst _ => some false
  | .bool, .non => some false
  | .bool, .int _ => some false
  | .bool, .str _ => some false
  | .bool, .tup _ => some false
  | .bool, .lst _ => some false
  | .tuple, .non => some false
  | .tuple, .bl _ => some false
  | .tuple, .int _ => some false
  | .tuple, .str _ => some false
  | .tuple, .lst _ => some false
  | .str, .non => some false
  | .str, .bl _ => some false
  | .str, .int _ => some false
  | .str, .tup _ => some false
  | .str, .lst _ => some false
  | _, _ => none
def sIsi (T : TyN) : D → LS → Out Lv := fun d s => onO (isN T d) fun b => okD (.bl b) s
section
variable {X : Cx} {P : Gh} {W : WX} {w : Wd} {σ : St} {H : Hp} {s : LS} {a b c e : Expr} {es : List Expr} {fa fb fc fe : LS → Out Lv} {ga : LS → Out (List Lv)} {pos : Pos}
theorem us_isi (T : TyN) {K : PySem.W.Frag} : UnS P W (fun v H Q => rIsi K [v, .ty T.name] H Q) (sIsi T) := by
  intro w σ H s v d Q S hd h
  obtain ⟨b, hb, h⟩ := At.onO h
  have q := give h S (.bl b)
  cases d with
  | non => cases hd; exact ⟨_, _, _, _, b, rfl, .ty _, .base .non, kit_ty (by cases T <;> cases hb <;> decide +kernel), q⟩
  | bl x => cases hd; exact ⟨_, _, _, _, b, rfl, .ty _, .base (.bl x), kit_ty (by cases T <;> cases hb <;> decide +kernel), q⟩
  | int x => cases hd; exact ⟨_, _, _, _, b, rfl, .ty _, .base (.int x), kit_ty (by cases T <;> cases hb <;> decide +kernel), q⟩
  | str x => cases hd; exact ⟨_, _, _, _, b, rfl, .ty _, .base (.str x), kit_ty (by cases T <;> cases hb <;> decide +kernel), q⟩
  | tup ds =>
    obtain ⟨p, xs, rfl, h1, _⟩ := hd
    exact ⟨_, _, _, _, b, rfl, .ty _, .base (.tup h1), kit_ty (by cases T <;> cases hb <;> decide +kernel), q⟩
  | lst ds =>
    obtain ⟨p, xs, rfl, h1, _⟩ := hd
    exact ⟨_, _, _, _, b, rfl, .ty _, .base (.lst h1), kit_ty (by cases T <;> cases hb <;> decide +kernel), q⟩
  | _ => cases T <;> cases hb
theorem de_isi (T : TyN) {p q : Pos} {y : Str} (ha : PE X a (RE P W fa)) (hy : y = Str.ofString T.name) (hg : Gl X "isinstance") (hm : X.mg "isinstance" = none) (hg2 : Gl X y) (hm2 : X.mg y = none) (hv2 : bootBuiltins y = some (.type T.name))
    (h1 : starEach [a, .Name y q] X.env = (false, eval a X.env) :: starEach [.Name y q] X.env := by rfl) (h2 : starEach [.Name y q] X.env = (false, eval (.Name y q) X.env) :: starEach [] X.env := by rfl)
    (hn2 : y ≠ "__name__" := by decide) (hd2 : (y == ("__debug__" : Str)) = false := by decide) (hpl : (backTo pos (starEach [.Name y q] X.env)).any (·.1) = false := by rfl) :
    PE X (.Call (.Name "isinstance" p) [a, .Name y q] [] pos) (RE P W (eUn (sIsi T) fa)) :=
  PE.mono (pe_callB call_isi hg hm (by decide +kernel) (pa_cons ha (pa_cons (pe_bltn (v := .ty T.name) hg2 hm2 hv2 rfl hn2 hd2) pa_nil h2) h1) (by decide) (by decide) h1 hpl) (re_un (us_isi T))

/-! ### slices -/
def cutA {α : Type} (xs : List α) (lo hi : Option Int) : List α := (xs.drop (HT.sIx xs.length 0 lo)).take (HT.sIx xs.length xs.length hi - HT.sIx xs.length 0 lo)
theorem Reps.cut {Γ : Gm} {H : Hp} {nb : Addr → Prop} {ad : Ad} {vs : List V} {ds : List D} (r : Reps Γ H nb ad vs ds) (lo hi : Option Int) : Reps Γ H nb ad (cutV vs lo hi) (cutA ds lo hi) := by
  unfold cutV cutA
  rw [r.length]
  exact (r.drop _).take _
def pNo : LS → Out (Option Int) := fun s => .ok none s
def pSo (f : LS → Out Lv) : LS → Out (Option Int) := fun s => (f s).bind fun x s1 => match x with
  | .d (.int i) => .ok (some i) s1
  | _ => .bad
def relO (_ : Wd) (_ : LS) (_ : Hp) (x y : Option Int) : Prop := x = y
def RO (P : Gh) (W : WX) (f : LS → Out (Option Int)) : TO := fun σ H Q => Rn P W relO f σ H Q
theorem PO.mono {X : Cx} {e : Option Expr} {t t' : TO} (h : PO X e t) (m : ∀ σ H Q, t' σ H Q → t σ H Q) : PO X e t' := ⟨fun pins s σ H Q I q => h.run pins s σ H Q I (m σ H Q q)⟩
theorem do_no : PO X none (RO P W pNo) := PO.mono po_none fun σ H Q ⟨w, s, S, h⟩ => At.done h S rfl
theorem do_so (he : PE X e (RE P W fe)) : PO X (some e) (RO P W (pSo fe)) := PO.mono (po_some he) fun σ H Q ⟨w, s, S, h⟩ => by
  refine ⟨w, s, S, (At.first (relX := relE P) h).imp ?_⟩
  rintro v H1 ⟨w1, s1, x, S1, r1, a1, h1⟩
  cases x with
  | own k => exact h1.elim
  | d y =>
    cases y <;> first | exact h1.elim | skip
    cases r1
    exact ⟨_, rfl, At.done h1 S1 rfl⟩
def sSl : D → Option Int → Option Int → LS → Out Lv
  | .tup ds, lo, hi, s => okD (.tup (cutA ds lo hi)) s
  | .lst ds, lo, hi, s => okD (.lst (cutA ds lo hi)) s
  | _, _, _, _ => .bad
def eSl (fa : LS → Out Lv) (fl fh : LS → Out (Option Int)) : LS → Out Lv := fun s => (fa s).bind fun x s1 => (fl s1).bind fun lo s2 => (fh s2).bind fun hi s3 => onO (borrow s3 x) fun d => sSl d lo hi s3
theorem cut_all {α : Type} (xs : List α) (lo hi : Option Int) (h1 : HT.sIx xs.length 0 lo = 0) (h2 : HT.sIx xs.length xs.length hi = xs.length) : cutA xs lo hi = xs := by
  unfold cutA
  rw [h1, h2]
  simp
theorem de_slice {lo hi : Option Expr} {fl fh : LS → Out (Option Int)} {p2 : Pos} (he : PE X a (RE P W fa)) (hl : PO X lo (RO P W fl)) (hu : PO X hi (RO P W fh)) : PE X (.Subscript a (.Slice lo hi none p2) pos) (RE P W (eSl fa fl fh)) :=
  PE.mono (pe_slice (SlR.or sl_tupA sl_list) he hl hu) fun σ H Q ⟨w, s, S, h⟩ => by
    refine ⟨w, s, S, (At.first (relX := relE P) h).imp ?_⟩
    rintro v H1 ⟨w1, s1, x, S1, r1, a1, h1⟩
    refine ⟨w1, s1, S1, (At.first (relX := relO) h1).imp ?_⟩
    rintro lo' H2 ⟨w2, s2, y, S2, rfl, a2, h2⟩
    refine ⟨w2, s2, S2, (At.first (relX := relO) h2).imp ?_⟩
    rintro hi' H3 ⟨w3, s3, y, S3, rfl, a3, h3⟩
    obtain ⟨d, hd, h3⟩ := At.onO h3
    have rd := borrowed S3 (RepL.adv a3 (RepL.adv a2 r1)) hd
    cases d <;> first | exact h3.elim | skip
    · obtain ⟨b, xs, rfl, e1, r⟩ := rd
      refine .inl ⟨b, xs, rfl, SqT.of e1, fun ⟨q1, q2⟩ => ?_, fun _ p hp => give_tup h3 S3 (r.cut _ _) p hp⟩
      rw [r.length] at q1 q2
      have h3 : At P W (relE P) w3 s3 σ H3 Q (okD (.tup (cutA _ lo' hi')) s3) := h3
      rw [cut_all _ _ _ q1 q2] at h3
      exact give h3 S3 (.tup e1 r)
    · obtain ⟨b, xs, rfl, e1, r⟩ := rd
      exact .inr ⟨b, xs, rfl, SqL.of e1, fun p hp => give_lst h3 S3 (r.cut _ _) p hp⟩
/-- xs[::-1] of a list -/
def sRv : D → LS → Out Lv
  | .lst ds, s => okD (.lst ds.reverse) s
  | _, _ => .bad
theorem de_rev {k : Nat} {p1 p2 p3 : Pos} (he : PE X a (RE P W fa)) : PE X (.Subscript a (.Slice none none (some (.UnaryOp .USub (.Constant (.int 1) k p1) p2)) p3) pos) (RE P W (eUn sRv fa)) :=
  PE.mono (pe_revL he) fun σ H Q h => by
    refine re_un (r := fun x H1 Q => ∃ a xs, x = .ref a ∧ SqL X.K H1 a xs ∧ ∀ p, H1 p = none → Q (.ref p) (upd H1 p (.lst xs.reverse))) ?_ σ H Q h
    intro w σ H s v d Q S hd h
    cases d <;> first | exact h.elim | skip
    obtain ⟨b, xs, rfl, e1, r⟩ := hd
    exact ⟨b, xs, rfl, SqL.of e1, fun p hp => give_lst h S r.reverse p hp⟩

/-! ### several targets -/
def sPar2 (i j : Nat) (ga : LS → Out (List Lv)) : LS → Out Fl := fun s => (ga s).bind fun xs s1 => match xs with
  | [x, y] => .ok .nx { s1 with loc := (s1.loc.set i (some x)).set j (some y) }
  | _ => .bad
theorem ds_par {i j : Nat} {x y : Str} {px py pt : Pos} {kt k2 : Nat} {pt2 : Pos} (hc : X.calm = true) (hN : X.N.Nodup) (hi : X.N[i]? = some x) (hj : X.N[j]? = some y) (hij : i ≠ j)
    (hx : X.env.scope.names.lookup x = some .local) (hy : X.env.scope.names.lookup y = some .local) (ha : PA X [a, b] (RA P W ga)) (hw : swappedStores [.Tuple [.Name x px, .Name y py] kt pt] (.Tuple [a, b] k2 pt2) X.env = pure (some [x, y])) (hs : swapsWithSole [.Tuple [.Name x px, .Name y py] kt pt] (.Tuple [a, b] k2 pt2) pos.line X.env = pure false := by rfl) :
    PS X (.Assign [.Tuple [.Name x px, .Name y py] kt pt] (.Tuple [a, b] k2 pt2) pos) (RS P W (sPar2 i j ga)) := PS.mono (ps_par hc hN hi hj hij hx hy ha hw hs) fun E σ H ⟨w, s, S, h⟩ => by
  refine ⟨w, s, S, (AtS.first (rel := relA P) h).imp ?_⟩
  rintro v H1 ⟨w1, s1, xs, S1, r1, a1, h1⟩
  match xs, r1, h1 with
  | [], _, h1 => exact h1.elim
  | [_], _, h1 => exact h1.elim
  | _ :: _ :: _ :: _, _, h1 => exact h1.elim
  | [x, y], r1, h1 =>
    cases r1 with
    | cons r r1 =>
      cases r1 with
      | cons r' r1 =>
        cases r1
        refine ⟨_, _, rfl, ?_⟩
        have S2 := S1.set (i := i) r
        exact h1 _ _ _ Adv.S.refl (S2.set (i := j) r')
def sPar3 (i j l : Nat) (ga : LS → Out (List Lv)) : LS → Out Fl := fun s => (ga s).bind fun xs s1 => match xs with
  | [x, y, z] => .ok .nx { s1 with loc := ((s1.loc.set i (some x)).set j (some y)).set l (some z) }
  | _ => .bad
/-- x += e, ints -/
def sAug (i : Nat) (f : LS → Out Lv) : LS → Out Fl := fun s => match s.loc[i]? with
  | some (some (.d (.int m))) => (f s).bind fun x s1 => match x with
    | .d (.int n) => .ok .nx { s1 with loc := s1.loc.set i (some (.d (.int (m + n)))) }
    | _ => .bad
  | _ => .bad
theorem ds_aug {i : Nat} {x : Str} {pos' : Pos} (hN : X.N.Nodup) (hi : X.N[i]? = some x) (hx : Loc X.env.scope x) (he : PE X e (RE P W fe)) (hf : X.fn x = true ∨ X.env.scope.names.lookup x = some .local := by first | exact .inl rfl | exact .inr rfl | assumption) :
    PS X (.AugAssign (.Name x pos') .Add e pos) (RS P W (sAug i fe)) := PS.mono (ps_aug hN hi hx he ip_add hf) fun E σ H ⟨w, s, S, h⟩ => by
  revert h
  simp only [sAug]
  split
  · rename_i m hm
    intro h
    obtain ⟨v, ev, rv⟩ := S.slot i _ hm
    cases rv
    refine ⟨_, ev, w, s, S, (AtS.first (rel := relE P) h).imp ?_⟩
    rintro v H1 ⟨w1, s1, xs, S1, r1, a1, h1⟩
    cases xs with
    | own k => exact h1.elim
    | d y =>
      cases y <;> first | exact h1.elim | skip
      cases r1
      exact ⟨_, _, rfl, rfl, h1 _ _ _ Adv.S.refl (S1.set (x := .d (.int _)) (.int _))⟩
  · exact fun z => z.elim
/-! ### names of the module -/
theorem de_glob {x : Str} {v : V} {u : Value} {d : D} (hg : Gl X x) (hm : X.mg x = some u) (r : RelV v u) (hr : ∀ w s H, RepW P w s H v d) (hd : (x == ("__debug__" : Str)) = false := by decide) : PE X (.Name x pos) (RE P W (eC d)) := de_c (pe_glob hg hm r hd) hr
/-! ### len(set(t)), t a tuple of ints -/
def sLs : D → LS → Out Lv
  | .tup ds, s => onO (intsD ds) fun ns => gd (decide (ns.length ≤ 1000)) (okD (.int (dd ns).length) s)
  | _, _ => .bad
theorem de_lenSet {p p2 q : Pos} (hc : X.calm = true) (hg : Gl X "len") (hm : X.mg "len" = none) (hg2 : Gl X "set") (hm2 : X.mg "set" = none) (ha : PE X a (RE P W fa)) (na : starEach [a] X.env = (false, eval a X.env) :: starEach [] X.env := by rfl) :
    PE X (.Call (.Name "len" p) [.Call (.Name "set" p2) [a] [] q] [] pos) (RE P W (eUn sLs fa)) := by
  have key : PE X (.Call (.Name "len" p) [.Call (.Name "set" p2) [a] [] q] [] pos) (tUn (fun x H1 Q => ∃ (l : Addr) (ns : List Int), x = .ref l ∧ SqT X.K H1 l (ns.map V.int) ∧ ns.length ≤ 1000 ∧ Q (.int ((dd ns).length : Nat)) H1) (RE P W fa)) := by
    have inner : ∀ pins s σ H Q, Inv X pins σ H s → RE P W fa σ H (fun x H1 => ∃ (l : Addr) (ns : List Int), x = .ref l ∧ SqT X.K H1 l (ns.map V.int) ∧ ns.length ≤ 1000 ∧ Q (.int ((dd ns).length : Nat)) H1) →
        wpAny (model X.prog X.w) X.A (eval (.Call (.Name "set" p2) [a] [] q) X.env) (fun sv s2 => wpAny (model X.prog X.w) X.A (call (.builtin "len") [sv]) (EP X pins σ Q) X.xe s2) X.xe s := fun pins s σ H Q I h =>
      PyProof.Rows.Call_ (ld_blt I hg2 hm2 PyProof.Rows.boot_set (PyProof.Rows.callWith_type1 (PyProof.Rows.args_cons (thn (ha.run pins s σ H _ I h) fun v s1 ⟨x, H1, I1, r1, l, ns, isRef, tup, few, k⟩ => PyProof.Rows.args_nil (by
        subst isRef
        cases r1
        obtain ⟨ws, vals, isT, _⟩ := I1.tuple tup
        refine call_set_tupI ns (I1.ok.hd hc) isT (by simpa using vals.ints) (by unfold scanBound; omega) fun heap tk _ ⟨o, es, ep, _, at0, exact_, dat, _, nodup, mem, _, free, count, _⟩ _ old => ?_
        have size : es.size = (dd ns).length := by
          have := same_len nodup (dd_nodup ns) fun z => by rw [← mem z, dd_mem]; simp
          simpa using this
        have I2 : Inv X pins σ H1 { s1 with heap := heap, toks := tk } := I1.kept old
        exact PySem.call_len_set at0 exact_ dat free (by rw [count]; omega) ⟨.int ((dd ns).length : Nat), H1, I2.tok _, ⟨_, by rw [size]⟩, k⟩)) na) na rfl))
    exact ⟨fun pins s σ H Q I h => PyProof.Rows.Call_ (ld_blt I hg hm PySem.boot_len (PyProof.Rows.callWith_builtin1 (PyProof.Rows.args_cons (thn (inner pins s σ H Q I h) fun _ _ k => PyProof.Rows.args_nil k) rfl) rfl rfl))⟩
  refine PE.mono key (re_un ?_)
  intro w σ H s v d Q S hd h
  cases d <;> first | exact h.elim | skip
  obtain ⟨b, xs, rfl, e1, r⟩ := hd
  obtain ⟨ns, hn, h⟩ := At.onO h
  obtain ⟨c, h⟩ := At.gd h
  rw [intsD_eq hn] at r
  cases r.ints_inv
  exact ⟨b, ns, rfl, SqT.of e1, of_decide_eq_true c, give h S (.int _)⟩
/-- a target of any form -/
def sAsg (t : Tgt) (f : LS → Out Lv) : LS → Out Fl := fun s => (f s).bind fun x s1 => match x with
  | .d d => onO (t d s1.loc) fun loc' => .ok .nx { s1 with loc := loc' }
  | .own _ => .bad
theorem ds_asg {tg : Expr} {g : TG} {t : Tgt} {vs : List Nat} (he : PE X e (RE P W fe)) (hg : PG X tg g) (hT : TgOk P g t vs) (hs : swapsWithSole [tg] e pos.line X.env = pure false := by rfl) (hw : swappedStores [tg] e X.env = pure none := by rfl)
    (h1 : (assignEach [tg] X.env).map (·.2) = [assign tg X.env] := by rfl) : PS X (.Assign [tg] e pos) (RS P W (sAsg t fe)) := PS.mono (ps_asg he hg hs hw h1) fun E σ H ⟨w, s, S, h⟩ => by
  refine ⟨w, s, S, (AtS.first (rel := relE P) h).imp ?_⟩
  rintro v H1 ⟨w1, s1, x, S1, r1, a1, h1⟩
  cases x with
  | own k => exact h1.elim
  | d d =>
    obtain ⟨loc', hl, h1⟩ := AtS.onO h1
    exact hT w1 σ H1 s1 v d loc' _ S1 r1 hl fun σ' S' _ => h1 _ _ _ Adv.S.refl S'
end
end Br

/-! The list that counts the draws; lists of ranges; min; own lists made otherwise. -/
namespace Br
open PySem L2
def sTown (i : Nat) : LS → Out Fl := fun s => match s.loc[i]? with
  | some (some (.d .town)) => onO s.g.town fun n => gd (decide (n < 100000)) (.ok .nx { s with g := { s.g with town := some (n + 1) } })
  | _ => .bad
def eTown : LS → Out Lv := fun s => match s.g.town with
  | none => okD .town { s with g := { s.g with town := some 0 } }
  | some _ => .bad
section
variable {X : Cx} {P : Gh} {W : WX} {w : Wd} {σ : St} {H : Hp} {s : LS} {a b c e : Expr} {es : List Expr} {fa fb fc fe : LS → Out Lv} {ga : LS → Out (List Lv)} {pos : Pos}
theorem ds_town {i : Nat} {x : Str} {j : Nat} {p p2 apos cpos : Pos} (hK : X.K = P.Γ.K)
    (hN : X.N[i]? = some x := by rfl) (hv : Vis X.env.scope x := by first | exact Or.inl rfl | exact Or.inr (Or.inl rfl) | exact Or.inr (Or.inr rfl)) (hd : (x == ("__debug__" : Str)) = false := by decide) (hcd : (x == ("__classdict__" : Str)) = false := by decide)
    (hsw : swapsWith (.Call (.Attribute (.Name x p) "append" apos) [.Constant (.int 0) j p2] [] cpos) none pos.line X.env = pure false := by rfl)
    (hbase : attributeBase (.Name x p) "append" X.env (eval (.Name x p) X.env) = eval (.Name x p) X.env := by rfl)
    (hline : (apos.endLine == cpos.line) = true := by rfl) :
    PS X (.Expr (.Call (.Attribute (.Name x p) "append" apos) [.Constant (.int 0) j p2] [] cpos) pos) (RS P W (sTown i)) :=
  PS.mono (ps_expr (pe_bm PySem.F.plainAttrs_list PySem.F.slot_list_append PySem.F.type_list_append mt_append (pv i hN hv hd hcd) (pa_cons pe_int pa_nil) hbase rfl hline) hsw) fun E σ H ⟨w, s, S, h⟩ => by
    revert h
    simp only [sTown]
    split
    · rename_i hl
      intro h
      obtain ⟨v, ev, rv⟩ := S.slot i _ hl
      obtain ⟨n, hn, h⟩ := AtS.onO h
      obtain ⟨c, h⟩ := AtS.gd h
      cases rv with
      | town hT =>
        rename_i T
        obtain ⟨m, hm, eT⟩ := S.gr.T T hT
        rw [hn] at hm; cases hm
        have hlt : n < 100000 := of_decide_eq_true c
        refine ⟨.ref T, ev, .inl ⟨rfl, _, SqL.of eT⟩, T, _, _, rfl, rfl, eT, by rw [List.length_replicate]; exact Nat.lt_of_lt_of_le hlt (by decide), ?_⟩
        have er : List.replicate n (V.int 0) ++ [V.int 0] = List.replicate (n + 1) (V.int 0) := by rw [List.replicate_succ']
        rw [er]
        have gT : gad w.ad T := .inl hT
        have key : ∀ b o, H b = some o → b ≠ T → upd H T (.lst (List.replicate (n + 1) (V.int 0))) b = some o := fun b o q z => by rw [upd_ne z]; exact q
        have tp : ∀ b zs, H b = some (.tup zs) → upd H T (.lst (List.replicate (n + 1) (V.int 0))) b = some (.tup zs) := fun b zs q => key b _ q fun z => by rw [z, eT] at q; cases q
        have A : Adv.E P w s H w { s with g := { s.g with town := some (n + 1) } } (upd H T (.lst (List.replicate (n + 1) (V.int 0)))) :=
          ⟨⟨fun b o q z => key b o q fun y => z (y ▸ gT), tp, fun _ q => .inl q, fun _ q => .inl q, Ad.Le.refl _⟩, fun _ _ q => q⟩
        refine h w σ _ (Adv.toS A) ⟨fun i x q => ?_, S.len, S.ol, S.nd, fun i b o q1 q2 => ?_, fun b q => ?_, S.ofr, S.ogd, ?_, fun b o q z => ?_, fun b zs q => tp b zs (S.tups b zs q), S.gnew, S.le, S.bh⟩
        · obtain ⟨v, e, r⟩ := S.slot i x q
          exact ⟨v, e, RepL.adv A r⟩
        · obtain ⟨u, e1, r1⟩ := S.orel i b o q1 q2
          exact ⟨u, key b u e1 fun y => S.ogd b (List.mem_of_getElem? q1) (y ▸ gT), RepO.mono (x := vwE P w s.own H) (y := vwE P w s.own _) subE A.1 r1⟩
        · obtain ⟨u, e1⟩ := S.oth b q
          exact ⟨u, key b u e1 fun y => S.ogd b q (y ▸ gT)⟩
        · refine ⟨fun b q => ?_, fun b q => ?_, fun q => (nomatch q), S.gr.cl, fun k b c q1 q2 => ?_, S.gr.nd, S.gr.nT⟩
          · exact (S.gr.S b q).keep fun c o u e1 => key c _ e1 fun y => by rw [y, eT] at e1; cases e1
          · rw [hT] at q
            cases q
            exact ⟨n + 1, rfl, upd_same⟩
          · obtain ⟨dx, p, e1, e2⟩ := S.gr.cs k b c q1 q2
            exact ⟨dx, p, key b _ e1 fun y => (by rw [y, eT] at e1; cases e1), tp _ _ e2⟩
        · refine key b o (S.keep b o q z) fun y => ?_
          subst y
          rcases S.gnew b gT with g | g
          · exact z g
          · rw [q] at g; cases g
    · exact fun z => z.elim
theorem de_town : PE X (.List [] pos) (RE P W eTown) :=
  PE.mono (pe_lst pa_nil) fun σ H Q ⟨w, s, S, h⟩ => by
    refine ⟨Nat.zero_le _, fun p hp => ?_⟩
    revert h
    simp only [eTown]
    cases ht : s.g.town with
    | some n => exact fun z => z.elim
    | none =>
      intro h
      have hT : w.ad.T = none := S.gr.T0 ht
      have k := upd_more (o := .lst []) hp
      have pn : ∀ a, nbW P w s.own a → a ≠ p := fun a c z => by
        obtain ⟨o, q⟩ := nb_some S c
        rw [z, hp] at q; cases q
      have gd' : ∀ a, gad ⟨w.ad.S, some p, w.ad.cs⟩ a → gad w.ad a ∨ a = p := fun a c => by
        rcases c with c | c
        · exact .inr (Option.some.inj c).symm
        · exact .inl (.inr c)
      have A : Adv.E P w s H ⟨⟨w.ad.S, some p, w.ad.cs⟩, w.oa⟩ { s with g := { s.g with town := some 0 } } (upd H p (.lst [])) := by
        refine ⟨⟨fun a o q _ => k a o q, fun a xs q => k _ _ q, fun a c => (gd' a c).imp id fun z => by rw [z]; exact hp, fun a c => ?_, ⟨fun _ q => q, fun a q => (by rw [hT] at q; cases q), fun _ _ q => q⟩⟩, fun _ _ q => q⟩
        rcases c with c | c | c
        · exact .inl (.inl c)
        · exact (gd' a c).imp (fun z => .inr (.inl z)) fun z => by rw [z]; exact hp
        · exact .inl (.inr (.inr c))
      refine h _ _ _ A ⟨fun i x q => ?_, S.len, S.ol, S.nd, fun i b o q1 q2 => ?_, fun b q => ?_, S.ofr, fun a q c => ?_, ?_, fun b o q z => k _ _ (S.keep b o q z), fun b zs q => k _ _ (S.tups b zs q), fun a c => ?_, ?_, S.bh⟩ (Rep.town rfl)
      · obtain ⟨v, e, r⟩ := S.slot i x q
        exact ⟨v, e, RepL.adv A r⟩
      · obtain ⟨u, e1, r1⟩ := S.orel i b o q1 q2
        exact ⟨u, k _ _ e1, RepO.mono (x := vwE P w s.own H) (y := vwE P ⟨⟨w.ad.S, some p, w.ad.cs⟩, w.oa⟩ s.own _) subE A.1 r1⟩
      · obtain ⟨u, e1⟩ := S.oth b q
        exact ⟨u, k _ _ e1⟩
      · rcases gd' a c with c | c
        · exact S.ogd a q c
        · obtain ⟨u, e1⟩ := S.oth a q
          rw [c, hp] at e1; cases e1
      · refine ⟨fun b q => ?_, fun b q => ?_, fun q => (nomatch q), S.gr.cl, fun j b c q1 q2 => ?_, S.gr.nd, fun b q c => ?_⟩
        · exact (S.gr.S b q).keep fun c o u e1 => k _ _ e1
        · cases q
          exact ⟨0, rfl, upd_same⟩
        · obtain ⟨dx, p', e1, e2⟩ := S.gr.cs j b c q1 q2
          exact ⟨dx, p', k _ _ e1, k _ _ e2⟩
        · cases q
          exact pn p (.inr (.inl (.inr c))) rfl
      · rcases gd' a c with c | c
        · exact S.gnew a c
        · refine .inr ?_
          subst c
          cases e : P.H0 a with
          | none => rfl
          | some o =>
            by_cases g : gad P.ad0 a
            · have g' : gad w.ad a := by
                rcases g with g | g
                · exact .inl (S.le.T a g)
                · obtain ⟨n, hn, en⟩ := List.getElem_of_mem g
                  exact .inr (List.mem_of_getElem? (S.le.cs n a (by rw [List.getElem?_eq_some_iff]; exact ⟨hn, en⟩)))
              exact absurd rfl (pn a (.inr (.inl g')))
            · have := S.keep a o e g
              rw [hp] at this; cases this
      · exact ⟨S.le.S, fun a q => (by have := S.le.T a q; rw [hT] at this; cases this), S.le.cs⟩

/-! ### list(range(..)), tuple(range(..)) -/
def rgN (a b : Int) : List D := rgD a (b - a).toNat
theorem rg_reps {Γ : Gm} {H : Hp} {nb : Addr → Prop} {ad : Ad} (a b : Int) : Reps Γ H nb ad (rgV a b) (rgN a b) := by
  unfold rgV rgN
  generalize (b - a).toNat = n
  have : ∀ (n : Nat) (a : Int) (k : Nat), Reps Γ H nb ad ((List.range' k n).map fun i => V.int (a + (i : Nat))) (rgD (a + k) n) := by
    intro n
    induction n with
    | zero => intro a k; exact .nil
    | succ n ih =>
      intro a k
      rw [List.range'_succ, List.map_cons, rgD]
      have e : a + (k : Int) + 1 = a + ((k + 1 : Nat) : Int) := by omega
      rw [e]
      exact .cons (.int _) (ih a (k + 1))
  have h := this n a 0
  rw [List.range_eq_range']
  have e : a + ((0 : Nat) : Int) = a := by omega
  rw [e] at h
  exact h
def rgOk (a b : Int) : Bool := small a && small b && decide ((b - a).toNat ≤ 100000)
theorem rgOk_of {a b : Int} (h : rgOk a b = true) : RgOk a b := by
  unfold rgOk at h
  rw [Bool.and_eq_true, Bool.and_eq_true] at h
  obtain ⟨q1, q2⟩ := small_of h.1.1
  obtain ⟨q3, q4⟩ := small_of h.1.2
  exact ⟨q1, q2, q3, q4, Nat.le_trans (of_decide_eq_true h.2) (by decide)⟩
def int1 (x : Lv) (k : Int → Out Lv) : Out Lv := match x with
  | .d (.int i) => k i
  | _ => .bad
theorem At.int1 {Q : VK} {x : Lv} {k : Int → Out Lv} {v : V} (h : At P W (relE P) w s σ H Q (int1 x k)) (r : RepL P w s.own H v x) : ∃ i, v = .int i ∧ At P W (relE P) w s σ H Q (k i) := by
  cases x with
  | own k => exact h.elim
  | d y =>
    cases y <;> first | exact h.elim | skip
    cases r
    exact ⟨_, rfl, h⟩
def eRg1 (mk : List D → LS → Out Lv) (fa : LS → Out Lv) : LS → Out Lv := fun s => (fa s).bind fun x s1 => int1 x fun n => gd (rgOk 0 n) (mk (rgN 0 n) s1)
def eRg2 (mk : List D → LS → Out Lv) (fa fb : LS → Out Lv) : LS → Out Lv := fun s => (fa s).bind fun x s1 => (fb s1).bind fun y s2 => int1 x fun i => int1 y fun j => gd (rgOk i j) (mk (rgN i j) s2)
abbrev eLRg1 := eRg1 fun ds s => okD (.lst ds) s
abbrev eLRg2 := eRg2 fun ds s => okD (.lst ds) s
abbrev eTRg1 := eRg1 fun ds s => okD (.tup ds) s
abbrev eTRg2 := eRg2 fun ds s => okD (.tup ds) s
abbrev eLRg1O := eRg1 newOwn
abbrev eLRg2O := eRg2 newOwn
theorem rg1_read {mk : List D → LS → Out Lv} {k : Int → Int → Hp → VK → Prop} (hk : ∀ w σ H s i j Q, SR P w σ H s → rgOk i j = true → At P W (relE P) w s σ H Q (mk (rgN i j) s) → k i j H Q) :
    ∀ σ H Q, RE P W (eRg1 mk fa) σ H Q → tRg1 (RE P W fa) σ H (fun i j H1 => k i j H1 Q) := by
  rintro σ H Q ⟨w, s, S, h⟩
  refine ⟨w, s, S, (At.first (relX := relE P) h).imp ?_⟩
  rintro v H1 ⟨w1, s1, x, S1, r1, a1, h1⟩
  obtain ⟨i, rfl, h1⟩ := At.int1 h1 r1
  obtain ⟨c, h1⟩ := At.gd h1
  exact ⟨i, rfl, hk w1 σ H1 s1 0 i Q S1 c h1⟩
theorem rg2_read {mk : List D → LS → Out Lv} {k : Int → Int → Hp → VK → Prop} (hk : ∀ w σ H s i j Q, SR P w σ H s → rgOk i j = true → At P W (relE P) w s σ H Q (mk (rgN i j) s) → k i j H Q) :
    ∀ σ H Q, RE P W (eRg2 mk fa fb) σ H Q → tRg2 (RE P W fa) (RE P W fb) σ H (fun i j H1 => k i j H1 Q) := by
  rintro σ H Q ⟨w, s, S, h⟩
  refine ⟨w, s, S, (At.first (relX := relE P) h).imp ?_⟩
  rintro v H1 ⟨w1, s1, x, S1, r1, a1, h1⟩
  refine ⟨w1, s1, S1, (At.first (relX := relE P) h1).imp ?_⟩
  rintro u H2 ⟨w2, s2, y, S2, r2, a2, h2⟩
  obtain ⟨i, rfl, h2⟩ := At.int1 h2 (RepL.adv a2 r1)
  obtain ⟨j, rfl, h2⟩ := At.int1 h2 r2
  obtain ⟨c, h2⟩ := At.gd h2
  exact ⟨i, j, rfl, rfl, hk w2 σ H2 s2 i j Q S2 c h2⟩
section
variable {p p2 q : Pos}
theorem de_listRg1 (hc : X.calm = true) (hg : Gl X "list") (hm : X.mg "list" = none) (hg2 : Gl X "range") (hm2 : X.mg "range" = none) (ha : PE X a (RE P W fa)) (na : starEach [a] X.env = (false, eval a X.env) :: starEach [] X.env := by rfl) :
    PE X (.Call (.Name "list" p) [.Call (.Name "range" p2) [a] [] q] [] pos) (RE P W (eLRg1 fa)) :=
  PE.mono (pe_listRg hc hg hm (prg_1 hg2 hm2 ha na)) fun σ H Q h => rg1_read (k := fun i j H1 Q => RgOk i j ∧ ∀ q, H1 q = none → Q (.ref q) (upd H1 q (.lst (rgV i j)))) (fun w σ H s i j Q S c h => ⟨rgOk_of c, fun q hq => give_lst h S (rg_reps i j) q hq⟩) σ H Q h
theorem de_listRg1O (hc : X.calm = true) (hg : Gl X "list") (hm : X.mg "list" = none) (hg2 : Gl X "range") (hm2 : X.mg "range" = none) (ha : PE X a (RE P W fa)) (na : starEach [a] X.env = (false, eval a X.env) :: starEach [] X.env := by rfl) :
    PE X (.Call (.Name "list" p) [.Call (.Name "range" p2) [a] [] q] [] pos) (RE P W (eLRg1O fa)) :=
  PE.mono (pe_listRg hc hg hm (prg_1 hg2 hm2 ha na)) fun σ H Q h => rg1_read (k := fun i j H1 Q => RgOk i j ∧ ∀ q, H1 q = none → Q (.ref q) (upd H1 q (.lst (rgV i j)))) (fun w σ H s i j Q S c h => ⟨rgOk_of c, fun q hq => give_own h S (rg_reps i j) q hq⟩) σ H Q h
theorem de_tupleRg1 (hc : X.calm = true) (hg : Gl X "tuple") (hm : X.mg "tuple" = none) (hg2 : Gl X "range") (hm2 : X.mg "range" = none) (ha : PE X a (RE P W fa)) (na : starEach [a] X.env = (false, eval a X.env) :: starEach [] X.env := by rfl) :
    PE X (.Call (.Name "tuple" p) [.Call (.Name "range" p2) [a] [] q] [] pos) (RE P W (eTRg1 fa)) :=
  PE.mono (pe_tupRg hc hg hm (prg_1 hg2 hm2 ha na)) fun σ H Q h => rg1_read (k := fun i j H1 Q => RgOk i j ∧ ∀ q, H1 q = none → Q (.ref q) (upd H1 q (.tup (rgV i j)))) (fun w σ H s i j Q S c h => ⟨rgOk_of c, fun q hq => give_tup h S (rg_reps i j) q hq⟩) σ H Q h
theorem de_listRg2 (hc : X.calm = true) (hg : Gl X "list") (hm : X.mg "list" = none) (hg2 : Gl X "range") (hm2 : X.mg "range" = none) (ha : PE X a (RE P W fa)) (hb : PE X b (RE P W fb)) (na : starEach [a, b] X.env = (false, eval a X.env) :: starEach [b] X.env := by rfl)
    (nb : starEach [b] X.env = (false, eval b X.env) :: starEach [] X.env := by rfl) (hp : (backTo q (starEach [b] X.env)).any (·.1) = false := by rfl) :
    PE X (.Call (.Name "list" p) [.Call (.Name "range" p2) [a, b] [] q] [] pos) (RE P W (eLRg2 fa fb)) :=
  PE.mono (pe_listRg hc hg hm (prg_2 hg2 hm2 ha hb na nb hp)) fun σ H Q h => rg2_read (k := fun i j H1 Q => RgOk i j ∧ ∀ q, H1 q = none → Q (.ref q) (upd H1 q (.lst (rgV i j)))) (fun w σ H s i j Q S c h => ⟨rgOk_of c, fun q hq => give_lst h S (rg_reps i j) q hq⟩) σ H Q h
theorem de_listRg2O (hc : X.calm = true) (hg : Gl X "list") (hm : X.mg "list" = none) (hg2 : Gl X "range") (hm2 : X.mg "range" = none) (ha : PE X a (RE P W fa)) (hb : PE X b (RE P W fb)) (na : starEach [a, b] X.env = (false, eval a X.env) :: starEach [b] X.env := by rfl)
    (nb : starEach [b] X.env = (false, eval b X.env) :: starEach [] X.env := by rfl) (hp : (backTo q (starEach [b] X.env)).any (·.1) = false := by rfl) :
    PE X (.Call (.Name "list" p) [.Call (.Name "range" p2) [a, b] [] q] [] pos) (RE P W (eLRg2O fa fb)) :=
  PE.mono (pe_listRg hc hg hm (prg_2 hg2 hm2 ha hb na nb hp)) fun σ H Q h => rg2_read (k := fun i j H1 Q => RgOk i j ∧ ∀ q, H1 q = none → Q (.ref q) (upd H1 q (.lst (rgV i j)))) (fun w σ H s i j Q S c h => ⟨rgOk_of c, fun q hq => give_own h S (rg_reps i j) q hq⟩) σ H Q h
theorem de_tupleRg2 (hc : X.calm = true) (hg : Gl X "tuple") (hm : X.mg "tuple" = none) (hg2 : Gl X "range") (hm2 : X.mg "range" = none) (ha : PE X a (RE P W fa)) (hb : PE X b (RE P W fb)) (na : starEach [a, b] X.env = (false, eval a X.env) :: starEach [b] X.env := by rfl)
    (nb : starEach [b] X.env = (false, eval b X.env) :: starEach [] X.env := by rfl) (hp : (backTo q (starEach [b] X.env)).any (·.1) = false := by rfl) :
    PE X (.Call (.Name "tuple" p) [.Call (.Name "range" p2) [a, b] [] q] [] pos) (RE P W (eTRg2 fa fb)) :=
  PE.mono (pe_tupRg hc hg hm (prg_2 hg2 hm2 ha hb na nb hp)) fun σ H Q h => rg2_read (k := fun i j H1 Q => RgOk i j ∧ ∀ q, H1 q = none → Q (.ref q) (upd H1 q (.tup (rgV i j)))) (fun w σ H s i j Q S c h => ⟨rgOk_of c, fun q hq => give_tup h S (rg_reps i j) q hq⟩) σ H Q h
end
/-! ### list(x), [..] * n as own lists -/
def sListO : D → LS → Out Lv
  | .lst ds, s => newOwn ds s
  | .tup ds, s => newOwn ds s
  | _, _ => .bad
theorem cs_listO {K : PySem.W.Frag} : CallS P W (fun xs H Q => ∃ p ys, xs = [.ref p] ∧ (SqL K H p ys ∨ SqT K H p ys) ∧ ∀ l, H l = none → Q (.ref l) (upd H l (.lst ys))) (arg1 sListO) := cs_arg1 (by
  intro w σ H s v d Q S hd h
  cases d <;> first | exact h.elim | skip
  · obtain ⟨a, xs, rfl, ha, ra⟩ := hd
    exact ⟨a, xs, rfl, .inr (SqT.of ha), fun p hp => give_own h S ra p hp⟩
  · obtain ⟨a, xs, rfl, ha, ra⟩ := hd
    exact ⟨a, xs, rfl, .inl (SqL.of ha), fun p hp => give_own h S ra p hp⟩)
def sMulO : D → D → LS → Out Lv
  | .lst xs, .int k, s => gd (decide (-(2 ^ 63) ≤ k) && decide (k < 2 ^ 63) && decide (xs.length * k.toNat ≤ 100000)) (newOwn (List.replicate k.toNat xs).flatten s)
  | _, _, _ => .bad
theorem os_mulO : OpS P W rRep sMulO := by
  intro w σ H s v u d e Q S hd he h
  cases d <;> cases e <;> first | exact h.elim | skip
  obtain ⟨a, xs, rfl, ha, ra⟩ := hd
  cases he
  obtain ⟨c, h⟩ := At.gd h
  rw [Bool.and_eq_true, Bool.and_eq_true] at c
  exact ⟨a, _, xs, rfl, rfl, ha, of_decide_eq_true c.1.1, of_decide_eq_true c.1.2, by rw [ra.length]; exact lim_le c.2, fun p hp => give_own h S (ra.rep _) p hp⟩
end
end Br
namespace Br
open PySem L2
/-- the promise of a law, told without the globals -/
def spL (K : PySem.W.Frag) : Sp := fun vs H Q _ => ∃ (a : Addr) (ns : List Int), vs = [V.ref a] ∧ ns.length ≤ 63 ∧ Only H ∧ SqL K H a (ns.map V.int) ∧ ∀ H', Q (.bl true) H'
/-- the def law at fa keeps the data promise m -/
def LawFn (Pg : Program) (w : World) (k : Nat) (K : PySem.W.Frag) (m : List D → GS → FOut) (mg : Str → Option Value) (fa : Addr) : Prop :=
  ∃ (C : Addr) (fd : FuncData), (∀ s u, BindsTo s fd ⟨[u], []⟩ [("script", u)]) ∧ ∀ base : Heap, K.In base → base.Ns mainGlobals mg → FnOk Pg w K mg base (L2N.CX Pg w) k fa fd ["script"] (spF ⟨K, mg, C⟩ m)
theorem spL_of {Γ : Gm} {m : List D → GS → FOut} (true_ : ∀ ns : List Int, ns.length ≤ 63 → ∃ g', m [.scr] ⟨ns, none, []⟩ = .ok (.bl true) g') {vs : List V} {H : Hp} {Q : VK} {E : XK} : spL Γ.K vs H Q E → spF Γ m vs H Q E := by
  rintro ⟨a, ns, rfl, few, only, at0, q⟩
  obtain ⟨ad, B, g, ds, h1, h2, h3, h4⟩ := law_sp (Γ := Γ) (m := m) only at0 (true_ ns few)
  refine ⟨ad, B, g, ds, h1, h2, h3, ?_⟩
  revert h4
  cases m ds g with
  | ok d g' => exact fun h4 ad' H' v x y z => h4 ad' H' v x y z ▸ q H'
  | exc c g' => exact fun h4 ad' H' x y C z => (h4 ad' H' x y C z).elim
  | bad => exact fun h4 => h4.elim
theorem walk_data {l : PySem.W.OpenLaw} {k : Nat} {q : Program} {loose : List Str} {XP : (Str → Option Value) → Heap → Prop} {YP : World → Heap → Prop} {d : DefRec} {K : Params → PySem.W.Frag} {m : List D → GS → FOut} (most : l.most = some 63) (room : Room k callerA) (plain : d.params.defaults = [])
    (true_ : ∀ ns : List Int, ns.length ≤ 63 → ∃ g', m [.scr] ⟨ns, none, []⟩ = .ok (.bl true) g') (stands : ∀ w h, YP w h → (K w.params).In h) (def_ : ∀ w mg fa h, (K w.params).In h → h.Ns mainGlobals mg → mg d.name = some (.ref fa) → LawFn l.prog w k (K w.params) m mg fa) : PySem.W.WalkO q loose XP YP l.row.toRowW d [] (fun f vs => PySem.call f vs) :=
  walk_of (CX := fun w => L2N.CX l.prog w) (sp := fun w => spL (K w.params)) most (by decide) plain room stands
    (fun w mg fa h inH ns nm => let ⟨C, fd, binds, run⟩ := def_ w mg fa h inH ns nm; ⟨fd, binds, fun base b1 b2 => (run base b1 b2).imp fun _ _ _ _ => spL_of (Γ := ⟨K w.params, mg, C⟩) true_⟩)
    (fun w H a ns few only at0 => ⟨a, ns, rfl, few, only, at0, fun _ => rfl⟩) (fun w H s e s' => noCX H s e s')
end Br

/-! What does not read the script or the counter gives the same beside any script. -/
namespace Br
open PySem L2
def GS.base (g : GS) : Prop := g.scr = [] ∧ g.town = none
def GS.up (ns : List Int) (t : Option Nat) (g : GS) : GS := ⟨ns, t, g.chs⟩
def LS.up (ns : List Int) (t : Option Nat) (s : LS) : LS := ⟨s.loc, s.own, s.g.up ns t⟩
def Le {α : Type} (ns : List Int) (t : Option Nat) : Out α → Out α → Prop
  | .ok x s, o => s.g.base ∧ o = .ok x (s.up ns t)
  | .exc c s, o => s.g.base ∧ o = .exc c (s.up ns t)
  | .bad, _ => True
def LeF (ns : List Int) (t : Option Nat) : FOut → FOut → Prop
  | .ok x g, o => g.base ∧ o = .ok x (g.up ns t)
  | .exc c g, o => g.base ∧ o = .exc c (g.up ns t)
  | .bad, _ => True
def Mn {α : Type} (f : LS → Out α) : Prop := ∀ ns t s, s.g.base → Le ns t (f s) (f (s.up ns t))
def MnF (m : List D → GS → FOut) : Prop := ∀ ns t ds g, g.base → LeF ns t (m ds g) (m ds (g.up ns t))
def MnB (sem : D → D → LS → Out Lv) : Prop := ∀ d e, Mn (sem d e)
def MnU {α : Type} (sem : D → LS → Out α) : Prop := ∀ d, Mn (sem d)
def MnC (sem : List D → LS → Out Lv) : Prop := ∀ ds, Mn (sem ds)
section
variable {α β : Type} {ns : List Int} {t : Option Nat} {s : LS}
theorem Le.bind {a b : Out α} {k k' : α → LS → Out β} (h : Le ns t a b) (hk : ∀ x s, s.g.base → Le ns t (k x s) (k' x (s.up ns t))) : Le ns t (a.bind k) (b.bind k') := by
  cases a with
  | ok x s => obtain ⟨hb, rfl⟩ := h; exact hk x s hb
  | exc c s => obtain ⟨hb, rfl⟩ := h; exact ⟨hb, rfl⟩
  | bad => trivial
theorem Le.onO {o : Option α} {k k' : α → Out β} (h : ∀ x, Le ns t (k x) (k' x)) : Le ns t (onO o k) (onO o k') := by
  cases o with
  | none => trivial
  | some x => exact h x
theorem Le.gd {c : Bool} {a b : Out α} (h : Le ns t a b) : Le ns t (gd c a) (gd c b) := by
  cases c with
  | false => trivial
  | true => exact h
theorem Le.okk {x : α} (h : s.g.base) : Le ns t (.ok x s) (.ok x (s.up ns t)) := ⟨h, rfl⟩
theorem borrows_up : ∀ xs : List Lv, borrows (s.up ns t) xs = borrows s xs
  | [] => rfl
  | x :: xs => by simp only [borrows]; rw [borrows_up xs]; rfl
end
section
variable {f fa fb fc fe : LS → Out Lv} {ga gb : LS → Out (List Lv)} {ta tb : LS → Out Bool} {ia ib : LS → Out (List D)} {oa ob : LS → Out (Option Int)} {sa sb : LS → Out Fl} {sem sem' : D → D → LS → Out Lv} {su : D → LS → Out Lv} {sc : List D → LS → Out Lv} {m : List D → GS → FOut} {i j n : Nat}
theorem mn_eC {d : D} : Mn (eC d) := fun _ _ _ h => ⟨h, rfl⟩
theorem mn_eVar : Mn (eVar i) := fun ns t s h => by
  show Le ns t (match s.loc[i]? with | some (some x) => .ok x s | _ => .bad) (match s.loc[i]? with | some (some x) => .ok x (s.up ns t) | _ => .bad)
  split
  · exact ⟨h, rfl⟩
  · trivial
theorem mn_sBad : Mn sBad := fun _ _ _ _ => trivial
theorem mn_aNil : Mn aNil := fun _ _ _ h => ⟨h, rfl⟩
theorem mn_aCons (p : Mn f) (q : Mn ga) : Mn (aCons f ga) := fun ns t s h => (p ns t s h).bind fun x s1 h1 => (q ns t s1 h1).bind fun xs s2 h2 => ⟨h2, rfl⟩
theorem mn_eOp (b : MnB sem) (p : Mn fa) (q : Mn fb) : Mn (eOp sem fa fb) := fun ns t s h => (p ns t s h).bind fun x s1 h1 => (q ns t s1 h1).bind fun y s2 h2 => Le.onO fun d => Le.onO fun e => b d e ns t s2 h2
theorem mn_eUn (b : MnU su) (p : Mn fa) : Mn (eUn su fa) := fun ns t s h => (p ns t s h).bind fun x s1 h1 => Le.onO fun d => b d ns t s1 h1
theorem mn_eB (b : MnC sc) (p : Mn ga) : Mn (eB sc ga) := fun ns t s h => (p ns t s h).bind fun xs s1 h1 => by
  rw [borrows_up]
  exact Le.onO fun d => b d ns t s1 h1
theorem mn_asB (x : Lv) : Mn (asB x) := fun ns t s h => by
  cases x with
  | own k => trivial
  | d y => cases y <;> first | trivial | exact ⟨h, rfl⟩
theorem mn_tV (p : Mn f) : Mn (tV f) := fun ns t s h => (p ns t s h).bind fun x s1 h1 => mn_asB x ns t s1 h1
theorem mn_tYe : Mn tYe := fun _ _ _ h => ⟨h, rfl⟩
theorem mn_tAn (p : Mn ta) (q : Mn tb) : Mn (tAn ta tb) := fun ns t s h => (p ns t s h).bind fun b s1 h1 => by
  cases b
  · exact ⟨h1, rfl⟩
  · exact q ns t s1 h1
theorem mn_tOu (p : Mn ta) (q : Mn tb) : Mn (tOu ta tb) := fun ns t s h => (p ns t s h).bind fun b s1 h1 => by
  cases b
  · exact q ns t s1 h1
  · exact ⟨h1, rfl⟩
theorem mn_tNo (p : Mn ta) : Mn (tNo ta) := fun ns t s h => (p ns t s h).bind fun b s1 h1 => ⟨h1, rfl⟩
theorem mn_eAn (p : Mn fa) (q : Mn fb) : Mn (eAn fa fb) := fun ns t s h => (p ns t s h).bind fun x s1 h1 => (mn_asB x ns t s1 h1).bind fun b s2 h2 => by
  cases b
  · exact ⟨h2, rfl⟩
  · exact q ns t s2 h2
theorem mn_eOu (p : Mn fa) (q : Mn fb) : Mn (eOu fa fb) := fun ns t s h => (p ns t s h).bind fun x s1 h1 => (mn_asB x ns t s1 h1).bind fun b s2 h2 => by
  cases b
  · exact q ns t s2 h2
  · exact ⟨h2, rfl⟩
theorem mn_eNo (p : Mn fa) : Mn (eNo fa) := fun ns t s h => (p ns t s h).bind fun x s1 h1 => (mn_asB x ns t s1 h1).bind fun b s2 h2 => ⟨h2, rfl⟩
theorem mn_eIf (r : Mn ta) (p : Mn fa) (q : Mn fb) : Mn (eIf ta fa fb) := fun ns t s h => (r ns t s h).bind fun b s1 h1 => by
  cases b
  · exact q ns t s1 h1
  · exact p ns t s1 h1
theorem mn_eCh (b1 : MnB sem) (b2 : MnB sem') (p : Mn fa) (q : Mn fb) (r : Mn fc) : Mn (eCh sem sem' fa fb fc) := fun ns t s h => (p ns t s h).bind fun x s1 h1 => (q ns t s1 h1).bind fun y s2 h2 => Le.bind (Le.onO fun d => Le.onO fun e => b1 d e ns t s2 h2) fun z s3 h3 => (mn_asB z ns t s3 h3).bind fun b s4 h4 => by
  cases b
  · exact ⟨h4, rfl⟩
  · exact (r ns t s4 h4).bind fun u s5 h5 => Le.onO fun e => Le.onO fun c => b2 e c ns t s5 h5
theorem mn_freeze (x : Lv) : Mn (freeze x) := fun ns t s h => by
  cases x with
  | d y => exact ⟨h, rfl⟩
  | own k =>
    unfold freeze
    have e : (s.up ns t).own = s.own := rfl
    simp only [e]
    split
    · exact ⟨h, rfl⟩
    · trivial
theorem mn_eTup (p : Mn ga) : Mn (eTup ga) := fun ns t s h => (p ns t s h).bind fun xs s1 h1 => Le.onO fun ds => Le.gd ⟨h1, rfl⟩
theorem mn_eLst (p : Mn ga) : Mn (eLst ga) := fun ns t s h => (p ns t s h).bind fun xs s1 h1 => Le.onO fun ds => Le.gd ⟨h1, rfl⟩
theorem mn_newOwn (ds : List D) : Mn (newOwn ds) := fun ns t s h => ⟨h, rfl⟩
theorem mn_eLstO (p : Mn ga) : Mn (eLstO ga) := fun ns t s h => (p ns t s h).bind fun xs s1 h1 => Le.onO fun ds => Le.gd ⟨h1, rfl⟩
theorem mn_seqOf : MnU seqOf := fun d ns t s h => by cases d <;> first | trivial | exact ⟨h, rfl⟩
theorem mn_iSeq (p : Mn f) : Mn (iSeq f) := fun ns t s h => (p ns t s h).bind fun x s1 h1 => (mn_freeze x ns t s1 h1).bind fun d s2 h2 => mn_seqOf d ns t s2 h2
theorem mn_iEnum (p : Mn f) : Mn (iEnum f) := fun ns t s h => (mn_iSeq p ns t s h).bind fun x s1 h1 => ⟨h1, rfl⟩
theorem mn_zipS (d e : D) : Mn (zipS d e) := fun ns t s h => by cases d <;> cases e <;> first | trivial | exact ⟨h, rfl⟩
theorem mn_iZip (p : Mn fa) (q : Mn fb) : Mn (iZip fa fb) := fun ns t s h => (p ns t s h).bind fun x s1 h1 => (q ns t s1 h1).bind fun y s2 h2 => (mn_freeze x ns t s2 h2).bind fun d s3 h3 => (mn_freeze y ns t s3 h3).bind fun e s4 h4 => mn_zipS d e ns t s4 h4
theorem mn_rng1 (is : List Int) : Mn (rng1 is) := fun ns t s h => by
  match is with
  | [] => trivial
  | [j] => exact Le.gd ⟨h, rfl⟩
  | _ :: _ :: _ => trivial
theorem mn_rng2 (is : List Int) : Mn (rng2 is) := fun ns t s h => by
  match is with
  | [] => trivial
  | [j] => trivial
  | [i, j] => exact Le.gd ⟨h, rfl⟩
  | _ :: _ :: _ :: _ => trivial
theorem mn_rng3 (is : List Int) : Mn (rng3 is) := fun ns t s h => by
  match is with
  | [] => trivial
  | [j] => trivial
  | [i, j] => trivial
  | [i, j, c] => exact Le.gd ⟨h, rfl⟩
  | _ :: _ :: _ :: _ :: _ => trivial
theorem mn_iRng {r : List Int → LS → Out (List D)} (b : ∀ is, Mn (r is)) (p : Mn ga) : Mn (iRng r ga) := fun ns t s h => (p ns t s h).bind fun xs s1 h1 => Le.onO fun is => b is ns t s1 h1
theorem mn_pNo : Mn pNo := fun _ _ _ h => ⟨h, rfl⟩
theorem mn_pSo (p : Mn f) : Mn (pSo f) := fun ns t s h => (p ns t s h).bind fun x s1 h1 => by
  cases x with
  | own k => trivial
  | d y => cases y <;> first | trivial | exact ⟨h1, rfl⟩
theorem mn_sSl (d : D) (lo hi : Option Int) : Mn (sSl d lo hi) := fun ns t s h => by cases d <;> first | trivial | exact ⟨h, rfl⟩
theorem mn_eSl (p : Mn f) (q : Mn oa) (r : Mn ob) : Mn (eSl f oa ob) := fun ns t s h => (p ns t s h).bind fun x s1 h1 => (q ns t s1 h1).bind fun lo s2 h2 => (r ns t s2 h2).bind fun hi s3 h3 => Le.onO fun d => mn_sSl d lo hi ns t s3 h3
theorem Le.int1 {ns : List Int} {t : Option Nat} {x : Lv} {k k' : Int → Out Lv} (h : ∀ i, Le ns t (k i) (k' i)) : Le ns t (int1 x k) (int1 x k') := by
  cases x with
  | own k => trivial
  | d y => cases y <;> first | trivial | exact h _
theorem mn_eRg1 {mk : List D → LS → Out Lv} (b : MnC mk) (p : Mn fa) : Mn (eRg1 mk fa) := fun ns t s h => (p ns t s h).bind fun x s1 h1 => Le.int1 fun i => Le.gd (b _ ns t s1 h1)
theorem mn_eRg2 {mk : List D → LS → Out Lv} (b : MnC mk) (p : Mn fa) (q : Mn fb) : Mn (eRg2 mk fa fb) := fun ns t s h => (p ns t s h).bind fun x s1 h1 => (q ns t s1 h1).bind fun y s2 h2 => Le.int1 fun i => Le.int1 fun j => Le.gd (b _ ns t s2 h2)
theorem mn_eLRg1 (p : Mn fa) : Mn (eLRg1 fa) := mn_eRg1 (fun _ _ _ _ h => ⟨h, rfl⟩) p
theorem mn_eLRg2 (p : Mn fa) (q : Mn fb) : Mn (eLRg2 fa fb) := mn_eRg2 (fun _ _ _ _ h => ⟨h, rfl⟩) p q
theorem mn_eTRg1 (p : Mn fa) : Mn (eTRg1 fa) := mn_eRg1 (fun _ _ _ _ h => ⟨h, rfl⟩) p
theorem mn_eTRg2 (p : Mn fa) (q : Mn fb) : Mn (eTRg2 fa fb) := mn_eRg2 (fun _ _ _ _ h => ⟨h, rfl⟩) p q
theorem mn_eLRg1O (p : Mn fa) : Mn (eLRg1O fa) := mn_eRg1 mn_newOwn p
theorem mn_eLRg2O (p : Mn fa) (q : Mn fb) : Mn (eLRg2O fa fb) := mn_eRg2 mn_newOwn p q
theorem lc_up {tg : Tgt} (q : Mn ta) (p : Mn fe) (L : Loc0) (ns : List Int) (t : Option Nat) : ∀ (ds : List D) (g : GS), g.base → ∀ ys g', lcLoop tg ta fe L ds g = some (ys, g') → g'.base ∧ lcLoop tg ta fe L ds (g.up ns t) = some (ys, g'.up ns t)
  | [], g, h, ys, g', e => by
    simp only [lcLoop] at e
    cases e
    exact ⟨h, rfl⟩
  | d :: r, g, h, ys, g', e => by
    have one : ∀ o g1, lcTurn tg ta fe L d g = some (o, g1) → g1.base ∧ lcTurn tg ta fe L d (g.up ns t) = some (o, g1.up ns t) := by
      intro o g1 e1
      unfold lcTurn at e1 ⊢
      cases ht : tg d L with
      | none => rw [ht] at e1; cases e1
      | some loc' =>
        rw [ht] at e1
        simp only at e1 ⊢
        have hq := q ns t ⟨loc', [], g⟩ h
        have hup : (LS.up ns t ⟨loc', [], g⟩) = ⟨loc', [], g.up ns t⟩ := rfl
        rw [hup] at hq
        cases hta : ta ⟨loc', [], g⟩ with
        | bad => rw [hta] at e1; cases e1
        | exc c s1 => rw [hta] at e1; cases e1
        | ok b s1 =>
          rw [hta] at hq e1
          obtain ⟨hb, hq⟩ := hq
          rw [hq]
          cases b with
          | false => simp only at e1 ⊢; cases e1; exact ⟨hb, rfl⟩
          | true =>
            simp only at e1 ⊢
            have hp := p ns t s1 hb
            cases hfe : fe s1 with
            | bad => rw [hfe] at e1; cases e1
            | exc c s2 => rw [hfe] at e1; cases e1
            | ok x s2 =>
              rw [hfe] at hp e1
              obtain ⟨hb2, hp⟩ := hp
              rw [hp]
              cases x with
              | own k => cases e1
              | d y => cases e1; exact ⟨hb2, rfl⟩
    simp only [lcLoop] at e ⊢
    cases h1 : lcTurn tg ta fe L d g with
    | none => rw [h1] at e; cases e
    | some og =>
      obtain ⟨o, g1⟩ := og
      rw [h1] at e
      simp only at e
      obtain ⟨hb1, e1⟩ := one o g1 h1
      rw [e1]
      simp only
      cases h2 : lcLoop tg ta fe L r g1 with
      | none => rw [h2] at e; cases e
      | some yg =>
        obtain ⟨ys2, g2⟩ := yg
        rw [h2] at e
        simp only at e
        cases e
        obtain ⟨hb2, e2⟩ := lc_up q p L ns t r g1 hb1 ys2 _ h2
        rw [e2]
        exact ⟨hb2, rfl⟩
theorem mn_eLc {tg : Tgt} {vs : List Nat} (r : Mn ia) (q : Mn ta) (p : Mn fe) : Mn (eLc ia tg ta fe vs) := fun ns t s h => (r ns t s h).bind fun ds s1 h1 => Le.gd (by
  cases e : lcLoop tg ta fe (seen s1.loc vs) ds s1.g with
  | none => trivial
  | some yg =>
    obtain ⟨ys, g'⟩ := yg
    obtain ⟨hb, e2⟩ := lc_up q p _ ns t ds s1.g h1 ys g' e
    refine ⟨hb, ?_⟩
    have e3 : lcLoop tg ta fe (seen (s1.up ns t).loc vs) ds (s1.up ns t).g = some (ys, g'.up ns t) := e2
    rw [e3]
    rfl)
theorem mn_eCall (b : MnF m) (p : Mn ga) : Mn (eCall m ga) := fun ns t s h => (p ns t s h).bind fun xs s1 h1 => by
  rw [borrows_up]
  refine Le.onO fun ds => ?_
  have q := b ns t ds s1.g h1
  have e : (s1.up ns t).g = s1.g.up ns t := rfl
  rw [e]
  cases hm : m ds s1.g with
  | bad => trivial
  | exc c g' =>
    rw [hm] at q
    obtain ⟨hb, q⟩ := q
    rw [q]
    exact ⟨hb, rfl⟩
  | ok d g' =>
    rw [hm] at q
    obtain ⟨hb, q⟩ := q
    rw [q]
    exact Le.gd ⟨hb, rfl⟩
theorem mn_sNx : Mn sNx := fun _ _ _ h => ⟨h, rfl⟩
theorem mn_sSeq (p : Mn sa) (q : Mn sb) : Mn (sSeq sa sb) := fun ns t s h => (p ns t s h).bind fun fl s1 h1 => by
  cases fl with
  | nx => exact q ns t s1 h1
  | _ => exact ⟨h1, rfl⟩
theorem mn_sSet (p : Mn f) : Mn (sSet i f) := fun ns t s h => (p ns t s h).bind fun x s1 h1 => ⟨h1, rfl⟩
theorem mn_sRet (p : Mn f) : Mn (sRet f) := fun ns t s h => (p ns t s h).bind fun x s1 h1 => (mn_freeze x ns t s1 h1).bind fun d s2 h2 => ⟨h2, rfl⟩
theorem mn_sEx (p : Mn f) : Mn (sEx f) := fun ns t s h => (p ns t s h).bind fun x s1 h1 => ⟨h1, rfl⟩
theorem mn_sIf (r : Mn ta) (p : Mn sa) (q : Mn sb) : Mn (sIf ta sa sb) := fun ns t s h => (r ns t s h).bind fun b s1 h1 => by
  cases b
  · exact q ns t s1 h1
  · exact p ns t s1 h1
theorem mn_sRaise {c : Str} : Mn (sRaise c) := fun _ _ _ h => ⟨h, rfl⟩
theorem mn_forL {tg : Tgt} (p : Mn sa) : ∀ ds : List D, Mn (forL tg sa ds)
  | [] => fun _ _ _ h => ⟨h, rfl⟩
  | d :: r => fun ns t s h => by
    have e : (s.up ns t).loc = s.loc := rfl
    show Le ns t (onO (tg d s.loc) _) (onO (tg d s.loc) _)
    refine Le.onO fun loc' => (p ns t { s with loc := loc' } h).bind fun fl s1 h1 => ?_
    cases fl with
    | nx => exact mn_forL p r ns t s1 h1
    | ct => exact mn_forL p r ns t s1 h1
    | _ => exact ⟨h1, rfl⟩
theorem mn_sFor {tg : Tgt} (r : Mn ia) (p : Mn sa) : Mn (sFor ia tg sa) := fun ns t s h => (r ns t s h).bind fun ds s1 h1 => mn_forL p ds ns t s1 h1
theorem mn_whL (q : Mn ta) (p : Mn sa) : ∀ {n : Nat}, Mn (whL ta sa n)
  | 0 => fun _ _ _ _ => trivial
  | n + 1 => fun ns t s h => (q ns t s h).bind fun b s1 h1 => by
    cases b with
    | false => exact ⟨h1, rfl⟩
    | true =>
      refine (p ns t s1 h1).bind fun fl s2 h2 => ?_
      cases fl with
      | nx => exact mn_whL q p (n := n) ns t s2 h2
      | ct => exact mn_whL q p (n := n) ns t s2 h2
      | _ => exact ⟨h2, rfl⟩
theorem mn_sMut {mu : List D → D → Option (List D)} (p : Mn f) : Mn (sMut mu i f) := fun ns t s h => by
  show Le ns t (onO (ownAt i s) _) (onO (ownAt i s) _)
  refine Le.onO fun k => (p ns t s h).bind fun x s1 h1 => (mn_freeze x ns t s1 h1).bind fun d s2 h2 => ?_
  show Le ns t (onO (ownL k s2) _) (onO (ownL k s2) _)
  exact Le.onO fun ds => Le.onO fun ds' => ⟨h2, rfl⟩
theorem mn_sPar2 (p : Mn ga) : Mn (sPar2 i j ga) := fun ns t s h => (p ns t s h).bind fun xs s1 h1 => by
  match xs with
  | [] => trivial
  | [x] => trivial
  | [x, y] => exact ⟨h1, rfl⟩
  | _ :: _ :: _ :: _ => trivial
theorem mn_sPar3 {l : Nat} (p : Mn ga) : Mn (sPar3 i j l ga) := fun ns t s h => (p ns t s h).bind fun xs s1 h1 => by
  match xs with
  | [] => trivial
  | [x] => trivial
  | [x, y] => trivial
  | [x, y, z] => exact ⟨h1, rfl⟩
  | _ :: _ :: _ :: _ :: _ => trivial
theorem mn_sAug (p : Mn f) : Mn (sAug i f) := fun ns t s h => by
  unfold sAug
  have e : (s.up ns t).loc = s.loc := rfl
  rw [e]
  split
  · refine (p ns t s h).bind fun x s1 h1 => ?_
    cases x with
    | own k => trivial
    | d y => cases y <;> first | trivial | exact ⟨h1, rfl⟩
  · trivial
theorem mn_sAsg {tg : Tgt} (p : Mn f) : Mn (sAsg tg f) := fun ns t s h => (p ns t s h).bind fun x s1 h1 => by
  cases x with
  | own k => trivial
  | d y =>
    show Le ns t (onO (tg y s1.loc) _) (onO (tg y s1.loc) _)
    exact Le.onO fun loc' => ⟨h1, rfl⟩
theorem mn_run {np nn : Nat} (p : Mn sa) : MnF (runF np nn sa) := fun ns t ds g h => by
  unfold runF
  cases decide (ds.length = np) with
  | false => trivial
  | true =>
    have q := p ns t ⟨start0 nn ds, [], g⟩ h
    have e : LS.up ns t ⟨start0 nn ds, [], g⟩ = ⟨start0 nn ds, [], g.up ns t⟩ := rfl
    rw [e] at q
    simp only
    cases hm : sa ⟨start0 nn ds, [], g⟩ with
    | bad => trivial
    | exc c s1 =>
      rw [hm] at q
      obtain ⟨hb, q⟩ := q
      rw [q]
      exact ⟨hb, rfl⟩
    | ok fl s1 =>
      rw [hm] at q
      obtain ⟨hb, q⟩ := q
      rw [q]
      cases fl <;> first | trivial | exact ⟨hb, rfl⟩
end
section
theorem mn_sAdd : MnB sAdd := fun d e ns t s h => by cases d <;> cases e <;> first | trivial | exact ⟨h, rfl⟩ | exact Le.gd ⟨h, rfl⟩
theorem mn_sSub : MnB sSub := fun d e ns t s h => by cases d <;> cases e <;> first | trivial | exact ⟨h, rfl⟩
theorem mn_sMul : MnB sMul := fun d e ns t s h => by cases d <;> cases e <;> first | trivial | exact ⟨h, rfl⟩ | exact Le.gd ⟨h, rfl⟩
theorem mn_sFdiv : MnB sFdiv := fun d e ns t s h => by cases d <;> cases e <;> first | trivial | exact ⟨h, rfl⟩ | exact Le.gd ⟨h, rfl⟩
theorem mn_sMod : MnB sMod := fun d e ns t s h => by cases d <;> cases e <;> first | trivial | exact ⟨h, rfl⟩ | exact Le.gd ⟨h, rfl⟩
theorem mn_sPow : MnB sPow := fun d e ns t s h => by cases d <;> cases e <;> first | trivial | exact ⟨h, rfl⟩ | exact Le.gd ⟨h, rfl⟩
theorem mn_sLt : MnB sLt := fun d e ns t s h => by cases d <;> cases e <;> first | trivial | exact ⟨h, rfl⟩
theorem mn_sLe : MnB sLe := fun d e ns t s h => by cases d <;> cases e <;> first | trivial | exact ⟨h, rfl⟩
theorem mn_sGt : MnB sGt := fun d e ns t s h => by cases d <;> cases e <;> first | trivial | exact ⟨h, rfl⟩
theorem mn_sGe : MnB sGe := fun d e ns t s h => by cases d <;> cases e <;> first | trivial | exact ⟨h, rfl⟩
theorem mn_sNeg : MnU sNeg := fun d ns t s h => by cases d <;> first | trivial | exact ⟨h, rfl⟩
theorem toPyG_up {ns : List Int} {t : Option Nat} {g : GS} (h : g.base) {d : D} {p : PyData} (e : toPyG g d = some p) : toPyG (g.up ns t) d = some p := by
  cases d with
  | scr =>
    have e : g.town.map (fun _ => PyData.list (g.scr.map PyData.int)) = some p := e
    rw [h.2] at e
    cases e
  | _ => exact e
theorem eqG_up {ns : List Int} {t : Option Nat} {g : GS} (h : g.base) {d e : D} {b : Bool} (q : eqG g d e = some b) : eqG (g.up ns t) d e = some b := by
  obtain ⟨p, r, h1, h2, h3, h4, rfl⟩ := eqG_some q
  unfold eqG
  rw [toPyG_up h h1, toPyG_up h h2]
  simp only [h3, h4]
  rfl
theorem mn_sEq : MnB sEq := fun d e ns t s h => by
  unfold sEq
  cases q : eqG s.g d e with
  | none => trivial
  | some b =>
    have r : eqG (s.up ns t).g d e = some b := eqG_up h q
    rw [r]
    exact ⟨h, rfl⟩
theorem mn_sNe : MnB sNe := fun d e ns t s h => by
  unfold sNe
  cases q : eqG s.g d e with
  | none => trivial
  | some b =>
    have r : eqG (s.up ns t).g d e = some b := eqG_up h q
    rw [r]
    exact ⟨h, rfl⟩
theorem mn_sIs : MnB sIs := fun d e ns t s h => by cases d <;> cases e <;> first | trivial | exact ⟨h, rfl⟩
theorem mn_sIsNot : MnB sIsNot := fun d e ns t s h => by cases d <;> cases e <;> first | trivial | exact ⟨h, rfl⟩
theorem mn_sIn : MnB sIn := fun d e ns t s h => by
  unfold sIn
  split
  · exact Le.onO fun v => Le.onO fun vs => Le.okk h
  · exact Le.onO fun v => Le.onO fun vs => Le.okk h
  · exact Le.okk h
  · trivial
theorem mn_sNotIn : MnB sNotIn := fun d e ns t s h => by
  unfold sNotIn
  split
  · exact Le.onO fun v => Le.onO fun vs => Le.okk h
  · exact Le.onO fun v => Le.onO fun vs => Le.okk h
  · exact Le.okk h
  · trivial
theorem le_town {α : Type} {ns : List Int} {t : Option Nat} {s : LS} (h : s.g.base) {k k' : Nat → Out α} {o : Option Nat} : Le ns t (onO s.g.town k) (onO o k') := by
  rw [h.2]
  trivial
theorem mn_sIx : MnB sIx := fun d e ns t s h => by cases d <;> cases e <;> first | trivial | exact ⟨h, rfl⟩ | exact Le.onO fun v => ⟨h, rfl⟩ | exact le_town h
theorem mn_arg1 {su : D → LS → Out Lv} (b : MnU su) : MnC (arg1 su) := fun ds ns t s h => by
  match ds with
  | [] => trivial
  | [d] => exact b d ns t s h
  | _ :: _ :: _ => trivial
theorem mn_arg2 {sem : D → D → LS → Out Lv} (b : MnB sem) : MnC (arg2 sem) := fun ds ns t s h => by
  match ds with
  | [] => trivial
  | [d] => trivial
  | [d, e] => exact b d e ns t s h
  | _ :: _ :: _ :: _ => trivial
theorem mn_sSorted : MnU sSorted := fun d ns t s h => by cases d <;> first | trivial | exact Le.onO fun v => Le.gd ⟨h, rfl⟩
theorem mn_sLen : MnU sLen := fun d ns t s h => by cases d <;> first | trivial | exact ⟨h, rfl⟩ | exact Le.gd ⟨h, rfl⟩ | exact le_town h
theorem mn_sTuple : MnU sTuple := fun d ns t s h => by cases d <;> first | trivial | exact ⟨h, rfl⟩
theorem mn_sList : MnU sList := fun d ns t s h => by cases d <;> first | trivial | exact ⟨h, rfl⟩
theorem mn_sAll : MnU sAll := fun d ns t s h => by cases d <;> first | trivial | exact Le.onO fun v => ⟨h, rfl⟩
theorem mn_sSum : MnU sSum := fun d ns t s h => by cases d <;> first | trivial | exact Le.onO fun v => ⟨h, rfl⟩
theorem mn_sMax2 : MnB sMax2 := fun d e ns t s h => by cases d <;> cases e <;> first | trivial | exact ⟨h, rfl⟩
theorem mn_sMin2 : MnB sMin2 := fun d e ns t s h => by cases d <;> cases e <;> first | trivial | exact ⟨h, rfl⟩
theorem mn_sStr : MnU sStr := fun d ns t s h => by cases d <;> first | trivial | exact Le.gd ⟨h, rfl⟩
theorem mn_sInt : MnU sInt := fun d ns t s h => by cases d <;> first | trivial | exact Le.onO fun v => Le.gd ⟨h, rfl⟩
theorem mn_sIsi {T : TyN} : MnU (sIsi T) := fun d ns t s h => Le.onO fun v => ⟨h, rfl⟩
theorem mn_sRv : MnU sRv := fun d ns t s h => by cases d <;> first | trivial | exact ⟨h, rfl⟩
theorem mn_sLs : MnU sLs := fun d ns t s h => by cases d <;> first | trivial | exact Le.onO fun v => Le.gd ⟨h, rfl⟩
theorem mn_sListO : MnU sListO := fun d ns t s h => by cases d <;> first | trivial | exact ⟨h, rfl⟩
theorem mn_sMulO : MnB sMulO := fun d e ns t s h => by cases d <;> cases e <;> first | trivial | exact Le.gd ⟨h, rfl⟩
end
end Br

/-! Draws, and laws whose draws are few: all of them are looked at. -/
namespace Br
open PySem L2
section
variable {f h : LS → Out Fl} {c : LS → Out Bool} {s s1 : LS} {d : D}
theorem sSeq_nx (e : f s = .ok .nx s1) : sSeq f h s = h s1 := by unfold sSeq; rw [e]; rfl
theorem sSeq_ret (e : f s = .ok (.ret d) s1) : sSeq f h s = .ok (.ret d) s1 := by unfold sSeq; rw [e]; rfl
theorem sIf_t (e : c s = .ok true s1) : sIf c f h s = f s1 := by unfold sIf; rw [e]; rfl
theorem sIf_f (e : c s = .ok false s1) : sIf c f h s = h s1 := by unfold sIf; rw [e]; rfl
end
theorem eOp_d {sem : D → D → LS → Out Lv} {fa fb : LS → Out Lv} {d e : D} {s : LS} (ha : fa s = okD d s) (hb : fb s = okD e s) : eOp sem fa fb s = sem d e s := by
  unfold eOp
  rw [ha]
  show Out.bind (fb s) _ = _
  rw [hb]
  rfl
theorem sSet_d {f : LS → Out Lv} {d : D} {i : Nat} {s s1 : LS} (ha : f s = okD d s1) : sSet i f s = .ok .nx { s1 with loc := s1.loc.set i (some (.d d)) } := by
  unfold sSet
  rw [ha]
  rfl
theorem sRet_d {f : LS → Out Lv} {d : D} {s s1 : LS} (ha : f s = okD d s1) : sRet f s = .ok (.ret d) s1 := by
  unfold sRet
  rw [ha]
  rfl
/-! ### lists of ints as data -/
theorem lay_ints : ∀ ns : List Int, PyData.canLayAll0 (ns.map PyData.int) = true
  | [] => by rw [List.map_nil, PyData.canLayAll0]
  | n :: r => by simp [PyData.canLayAll0, PyData.canLay0, lay_ints r]
theorem deep_ints : ∀ ns : List Int, PyData.depthAll (ns.map PyData.int) = 0
  | [] => by rw [List.map_nil, PyData.depthAll]
  | n :: r => by simp [PyData.depthAll, PyData.depth, deep_ints r]
theorem shaped_lst (ns : List Int) : SeqAt.shaped (.list (ns.map PyData.int)) = true := by
  simp [SeqAt.shaped, PyData.canLay0, PyData.depth, lay_ints, deep_ints]
theorem shaped_tup (ns : List Int) : SeqAt.shaped (.tuple (ns.map PyData.int)) = true := by
  simp [SeqAt.shaped, PyData.canLay0, PyData.depth, lay_ints, deep_ints]
theorem eqv_ints : ∀ ns ms : List Int, PyData.eqvAll (ns.map PyData.int) (ms.map PyData.int) = decide (ns = ms)
  | [], ms => by cases ms <;> simp [PyData.eqvAll]
  | n :: r, [] => by simp [PyData.eqvAll]
  | n :: r, m :: q => by
    simp only [List.map_cons, PyData.eqvAll, PyData.eqv, eqv_ints r q]
    by_cases h1 : n = m <;> by_cases h2 : r = q <;> simp [h1, h2]
theorem toPys_ints : ∀ ns : List Int, toPys (ns.map D.int) = some (ns.map PyData.int)
  | [] => rfl
  | n :: r => by simp only [List.map_cons, toPys, toPy, toPys_ints r]
theorem eqG_lst (g : GS) (ns ms : List Int) : eqG g (.lst (ns.map D.int)) (.lst (ms.map D.int)) = some (decide (ns = ms)) := by
  have e : ∀ ns : List Int, toPyG g (.lst (ns.map D.int)) = some (.list (ns.map PyData.int)) := fun ns => by simp only [toPyG, toPy, toPys_ints]; rfl
  simp only [eqG, e, shaped_lst, Bool.and_self, PyData.eqv, eqv_ints]
theorem eqG_tup (g : GS) (ns ms : List Int) : eqG g (.tup (ns.map D.int)) (.tup (ms.map D.int)) = some (decide (ns = ms)) := by
  have e : ∀ ns : List Int, toPyG g (.tup (ns.map D.int)) = some (.tuple (ns.map PyData.int)) := fun ns => by simp only [toPyG, toPy, toPys_ints]; rfl
  simp only [eqG, e, shaped_tup, Bool.and_self, PyData.eqv, eqv_ints]
theorem eqG_int (g : GS) (n m : Int) : eqG g (.int n) (.int m) = some (decide (n = m)) := by
  have e : ∀ n : Int, toPyG g (.int n) = some (.int n) := fun n => rfl
  have sh : ∀ n : Int, SeqAt.shaped (.int n) = true := fun n => by simp [SeqAt.shaped, PyData.canLay0, PyData.depth]
  simp only [eqG, e, sh, Bool.and_self, PyData.eqv]
  by_cases h : n = m <;> simp [h]
theorem eqG_bl (g : GS) (n m : Bool) : eqG g (.bl n) (.bl m) = some (decide (n = m)) := by
  have e : ∀ n : Bool, toPyG g (.bl n) = some (.bool n) := fun n => rfl
  have sh : ∀ n : Bool, SeqAt.shaped (.bool n) = true := fun n => by simp [SeqAt.shaped, PyData.canLay0, PyData.depth]
  simp only [eqG, e, sh, Bool.and_self, PyData.eqv]
  cases n <;> cases m <;> rfl
theorem eqG_scr (ns : List Int) (t : Nat) (c : List Ch) : eqG ⟨ns, some t, c⟩ .scr (.lst []) = some (decide (ns = [])) := by
  have e1 : toPyG ⟨ns, some t, c⟩ .scr = some (.list (ns.map PyData.int)) := rfl
  have e2 : toPyG ⟨ns, some t, c⟩ (.lst []) = some (.list (([] : List Int).map PyData.int)) := rfl
  simp only [eqG, e1, e2, shaped_lst, Bool.and_self, PyData.eqv, eqv_ints]
theorem mul_r {i j : Int} {s : LS} (h : -(2 ^ 64) < j ∧ j < 2 ^ 64) : sMul (.int i) (.int j) s = okD (.int (i * j)) s := by
  show gd ((decide (-(2 ^ 64) < i) && decide (i < 2 ^ 64)) || (decide (-(2 ^ 64) < j) && decide (j < 2 ^ 64))) (okD (.int (i * j)) s) = _
  rw [show ((decide (-(2 ^ 64) < i) && decide (i < 2 ^ 64)) || (decide (-(2 ^ 64) < j) && decide (j < 2 ^ 64))) = true by simp; omega]
  rfl
theorem mul_l {i j : Int} {s : LS} (h : -(2 ^ 64) < i ∧ i < 2 ^ 64) : sMul (.int i) (.int j) s = okD (.int (i * j)) s := by
  show gd ((decide (-(2 ^ 64) < i) && decide (i < 2 ^ 64)) || (decide (-(2 ^ 64) < j) && decide (j < 2 ^ 64))) (okD (.int (i * j)) s) = _
  rw [show ((decide (-(2 ^ 64) < i) && decide (i < 2 ^ 64)) || (decide (-(2 ^ 64) < j) && decide (j < 2 ^ 64))) = true by simp; omega]
  rfl
theorem mod_pos {i j : Int} {s : LS} (h : 0 < j) : sMod (.int i) (.int j) s = okD (.int (i % j)) s := by
  show gd (decide (0 < j)) (okD (.int (i % j)) s) = _
  rw [decide_eq_true h]
  rfl
/-! ### a draw -/
def dCell : LS → Out Fl := (sSeq (sIf (tV (eOp sLt (eVar 1) (eB (arg1 sLen) (aCons (eVar 0) aNil)))) (sRet (eOp sIx (eVar 0) (eVar 1))) sNx)
  (sSeq (sIf (tV (eOp sEq (eVar 0) (eLst aNil))) (sRet (eC (.int 0))) sNx)
  (sSeq (sSet 2 (eOp sIx (eVar 0) (eOp sMod (eVar 1) (eB (arg1 sLen) (aCons (eVar 0) aNil)))))
  (sSeq (sFor (iRng rng1 (aCons (eB (arg2 sMin2) (aCons (eOp sFdiv (eVar 1) (eB (arg1 sLen) (aCons (eVar 0) aNil))) (aCons (eC (.int 60)) aNil))) aNil)) (gN 3) (sSet 2 (eOp sFdiv (eVar 2) (eC (.int 1000003)))))
  (sRet (eOp sAdd (eOp sAdd (eOp sMul (eOp sIx (eVar 0) (eOp sMod (eVar 1) (eB (arg1 sLen) (aCons (eVar 0) aNil)))) (eC (.int 31))) (eVar 1)) (eOp sMul (eVar 2) (eC (.int 101)))))))))
def mCell : List D → GS → FOut := runF 2 4 dCell
def dMixed : LS → Out Fl := (sSeq (sSet 3 (eOp sMod (eOp sAdd (eOp sAdd (eOp sMul (eCall mCell (aCons (eVar 0) (aCons (eVar 1) aNil))) (eC (.int 1103515245))) (eOp sMul (eC (.int 7919)) (eVar 1))) (eC (.int 12345))) (eC (.int 2147483647))))
  (sRet (eOp sMod (eOp sMod (eOp sMod (eOp sPow (eVar 3) (eC (.int 5))) (eC (.int 2147483647))) (eC (.int 999983))) (eVar 2))))
def mMixed : List D → GS → FOut := runF 3 4 dMixed
def dDraw : LS → Out Fl := (sSeq (sTown 1)
  (sRet (eCall mMixed (aCons (eVar 0) (aCons (eB (arg1 sLen) (aCons (eVar 1) aNil)) (aCons (eVar 2) aNil))))))
def mDraw : List D → GS → FOut := runF 3 3 dDraw
theorem atI_nat {α : Type} {xs : List α} {k : Int} (h0 : 0 ≤ k) (h : k < xs.length) : ∃ x, atI xs k = some x := by
  unfold atI ixN
  have h1 : ¬ k < 0 := by omega
  have h2 : k.toNat < xs.length := by omega
  simp [h1, h2, h0, h]
theorem spare_loop (ns : List Int) (t : Nat) (c : List Ch) (k : Int) : ∀ (j : Nat) (lo v : Int) (o : Option Lv), ∃ v' o', forL (gN 3) (sSet 2 (eOp sFdiv (eVar 2) (eC (.int 1000003)))) (rgD lo j) ⟨[some (.d .scr), some (.d (.int k)), some (.d (.int v)), o], [], ⟨ns, some t, c⟩⟩ = .ok .nx ⟨[some (.d .scr), some (.d (.int k)), some (.d (.int v')), o'], [], ⟨ns, some t, c⟩⟩
  | 0, lo, v, o => ⟨v, o, rfl⟩
  | j + 1, lo, v, o => by
    obtain ⟨v', o', e⟩ := spare_loop ns t c k j (lo + 1) (v / 1000003) (some (.d (.int lo)))
    exact ⟨v', o', e⟩
theorem cell_ok (ns : List Int) (hl : ns.length ≤ 63) (t : Nat) (c : List Ch) (k : Int) (hk : 0 ≤ k) : ∃ v, mCell [.scr, .int k] ⟨ns, some t, c⟩ = .ok (.int v) ⟨ns, some t, c⟩ := by
  have run : ∀ v s1, s1.g = ⟨ns, some t, c⟩ → dCell ⟨[some (.d .scr), some (.d (.int k)), none, none], [], ⟨ns, some t, c⟩⟩ = .ok (.ret (.int v)) s1 → mCell [.scr, .int k] ⟨ns, some t, c⟩ = .ok (.int v) ⟨ns, some t, c⟩ := by
    intro v s1 h1 h2
    show fin (dCell ⟨[some (.d .scr), some (.d (.int k)), none, none], [], ⟨ns, some t, c⟩⟩) = _
    rw [h2, ← h1]
    rfl
  by_cases h1 : k < ns.length
  · obtain ⟨x, hx⟩ := atI_nat hk h1
    refine ⟨x, run x ⟨[some (.d .scr), some (.d (.int k)), none, none], [], ⟨ns, some t, c⟩⟩ rfl ?_⟩
    unfold dCell
    refine sSeq_ret ?_
    rw [sIf_t (s1 := ⟨[some (.d .scr), some (.d (.int k)), none, none], [], ⟨ns, some t, c⟩⟩) (by
      show Out.ok (decide (k < (ns.length : Int))) _ = _
      rw [decide_eq_true h1])]
    show (onO (atI ns k) fun n => okD (.int n) _).bind _ = _
    rw [hx]
    rfl
  · by_cases h2 : ns = []
    · refine ⟨0, run 0 ⟨[some (.d .scr), some (.d (.int k)), none, none], [], ⟨ns, some t, c⟩⟩ rfl ?_⟩
      unfold dCell
      rw [sSeq_nx (s1 := ⟨[some (.d .scr), some (.d (.int k)), none, none], [], ⟨ns, some t, c⟩⟩) (by
        rw [sIf_f (s1 := ⟨[some (.d .scr), some (.d (.int k)), none, none], [], ⟨ns, some t, c⟩⟩) (by
          show Out.ok (decide (k < (ns.length : Int))) _ = _
          rw [decide_eq_false h1])]
        rfl)]
      refine sSeq_ret ?_
      rw [sIf_t (s1 := ⟨[some (.d .scr), some (.d (.int k)), none, none], [], ⟨ns, some t, c⟩⟩) (by
        show (onO (eqG ⟨ns, some t, c⟩ .scr (.lst [])) fun b => okD (.bl b) _).bind _ = _
        rw [eqG_scr, decide_eq_true h2]
        rfl)]
      rfl
    · have hp : 0 < ns.length := List.length_pos_iff.mpr h2
      have m0 : 0 ≤ k % (ns.length : Int) := Int.emod_nonneg _ (by omega)
      have m1 : k % (ns.length : Int) < ns.length := Int.emod_lt_of_pos _ (by omega)
      obtain ⟨x, hx⟩ := atI_nat m0 m1
      have gm : (decide ((0 : Int) < ns.length)) = true := decide_eq_true (by omega)
      have gf : (decide ((0 : Int) < ns.length) && decide ((ns.length : Int) < 18446744073709551616)) = true := by simp; omega
      let S2 : Option Lv → Option Lv → LS := fun a b => ⟨[some (.d .scr), some (.d (.int k)), a, b], [], ⟨ns, some t, c⟩⟩
      have hq : 0 ≤ k / (ns.length : Int) := Int.ediv_nonneg hk (by omega)
      let q : Int := if (60 : Int) < k / (ns.length : Int) then 60 else k / (ns.length : Int)
      have q0 : 0 ≤ q := by show 0 ≤ (if (60 : Int) < k / (ns.length : Int) then 60 else k / (ns.length : Int)); split <;> omega
      have q1 : q ≤ 60 := by show (if (60 : Int) < k / (ns.length : Int) then 60 else k / (ns.length : Int)) ≤ 60; split <;> omega
      have sq : small q = true := by unfold small; simp; omega
      obtain ⟨v', o', hv⟩ := spare_loop ns t c k q.toNat 0 x none
      refine ⟨x * 31 + k + v' * 101, run _ (S2 (some (.d (.int v'))) o') rfl ?_⟩
      unfold dCell
      rw [sSeq_nx (s1 := S2 none none) (by
        rw [sIf_f (s1 := S2 none none) (by
          show Out.ok (decide (k < (ns.length : Int))) _ = _
          rw [decide_eq_false h1])]
        rfl)]
      rw [sSeq_nx (s1 := S2 none none) (by
        rw [sIf_f (s1 := S2 none none) (by
          show (onO (eqG ⟨ns, some t, c⟩ .scr (.lst [])) fun b => okD (.bl b) _).bind _ = _
          rw [eqG_scr, decide_eq_false h2]
          rfl)]
        rfl)]
      rw [sSeq_nx (s1 := S2 (some (.d (.int x))) none) (by
        show ((gd (decide ((0 : Int) < ns.length)) (okD (.int (k % (ns.length : Int))) (S2 none none))).bind fun y s2 => onO (borrow s2 (.d .scr)) fun d => onO (borrow s2 y) fun e => sIx d e s2).bind _ = _
        rw [gm]
        show (onO (atI ns (k % (ns.length : Int))) fun n => okD (.int n) _).bind _ = _
        rw [hx]
        rfl)]
      rw [sSeq_nx (s1 := S2 (some (.d (.int v'))) o') (by
        have hi : iRng rng1 (aCons (eB (arg2 sMin2) (aCons (eOp sFdiv (eVar 1) (eB (arg1 sLen) (aCons (eVar 0) aNil))) (aCons (eC (.int 60)) aNil))) aNil) (S2 (some (.d (.int x))) none) = .ok (rgD 0 q.toNat) (S2 (some (.d (.int x))) none) := by
          show Out.bind (Out.bind (Out.bind (Out.bind (gd (decide ((0 : Int) < ns.length) && decide ((ns.length : Int) < 18446744073709551616)) (okD (.int (k / (ns.length : Int))) (S2 (some (.d (.int x))) none))) _) _) _) _ = _
          rw [gf]
          show gd (small q) _ = _
          rw [sq]
          rfl
        unfold sFor
        rw [hi]
        exact hv)]
      have a1 : eOp sMod (eVar 1) (eB (arg1 sLen) (aCons (eVar 0) aNil)) (S2 (some (.d (.int v'))) o') = okD (.int (k % (ns.length : Int))) (S2 (some (.d (.int v'))) o') := (eOp_d (d := .int k) (e := .int ns.length) rfl rfl).trans (mod_pos (by omega))
      have a2 : eOp sIx (eVar 0) (eOp sMod (eVar 1) (eB (arg1 sLen) (aCons (eVar 0) aNil))) (S2 (some (.d (.int v'))) o') = okD (.int x) (S2 (some (.d (.int v'))) o') := by
        rw [eOp_d (show eVar 0 (S2 (some (.d (.int v'))) o') = okD .scr (S2 (some (.d (.int v'))) o') from rfl) a1]
        show onO (atI ns (k % (ns.length : Int))) _ = _
        rw [hx]
        rfl
      have a3 := (eOp_d (sem := sMul) a2 (show eC (.int 31) _ = okD (.int 31) _ from rfl)).trans (mul_r (by decide))
      have a4 := (eOp_d (sem := sAdd) a3 (show eVar 1 _ = okD (.int k) _ from rfl))
      have a5 : eOp sMul (eVar 2) (eC (.int 101)) (S2 (some (.d (.int v'))) o') = okD (.int (v' * 101)) (S2 (some (.d (.int v'))) o') := (eOp_d (d := .int v') (e := .int 101) rfl rfl).trans (mul_r (by decide))
      exact sRet_d (eOp_d (sem := sAdd) (a4.trans rfl) a5)
theorem mixed_ok (ns : List Int) (hl : ns.length ≤ 63) (t : Nat) (c : List Ch) (k many : Int) (hk : 0 ≤ k) (hm : 0 < many) : ∃ d, 0 ≤ d ∧ d < many ∧ mMixed [.scr, .int k, .int many] ⟨ns, some t, c⟩ = .ok (.int d) ⟨ns, some t, c⟩ := by
  obtain ⟨v, hv⟩ := cell_ok ns hl t c k hk
  let S : Option Lv → LS := fun a => ⟨[some (.d .scr), some (.d (.int k)), some (.d (.int many)), a], [], ⟨ns, some t, c⟩⟩
  let u : Int := (v * 1103515245 + 7919 * k + 12345) % 2147483647
  have u0 : 0 ≤ u := Int.emod_nonneg _ (by decide)
  have u1 : u < 2147483647 := Int.emod_lt_of_pos _ (by decide)
  refine ⟨u ^ 5 % 2147483647 % 999983 % many, Int.emod_nonneg _ (by omega), Int.emod_lt_of_pos _ hm, ?_⟩
  show fin (dMixed (S none)) = _
  unfold dMixed
  rw [sSeq_nx (s1 := S (some (.d (.int u)))) (by
    have a1 : eCall mCell (aCons (eVar 0) (aCons (eVar 1) aNil)) (S none) = okD (.int v) (S none) := by
      show called true (S none) (mCell [.scr, .int k] ⟨ns, some t, c⟩) = _
      rw [hv]
      rfl
    have a2 := (eOp_d (sem := sMul) a1 (show eC (.int 1103515245) _ = okD (.int 1103515245) _ from rfl)).trans (mul_r (by decide))
    have a3 : eOp sMul (eC (.int 7919)) (eVar 1) (S none) = okD (.int (7919 * k)) (S none) := (eOp_d (d := .int 7919) (e := .int k) rfl rfl).trans (mul_l (by decide))
    have a4 : eOp sAdd _ _ (S none) = okD (.int (v * 1103515245 + 7919 * k)) (S none) := eOp_d a2 a3
    have a5 : eOp sAdd _ (eC (.int 12345)) (S none) = okD (.int (v * 1103515245 + 7919 * k + 12345)) (S none) := eOp_d a4 (e := .int 12345) rfl
    exact sSet_d ((eOp_d a5 (e := .int 2147483647) rfl).trans (mod_pos (by decide))))]
  have hp : sPow (.int u) (.int 5) (S (some (.d (.int u)))) = okD (.int (u ^ 5)) (S (some (.d (.int u)))) := by
    show gd (decide ((0 : Int) ≤ 5) && decide ((5 : Int) ≤ 1000000) && decide (u.natAbs < 2 ^ 64)) (okD (.int (u ^ 5)) (S (some (.d (.int u))))) = _
    rw [show (decide ((0 : Int) ≤ 5) && decide ((5 : Int) ≤ 1000000) && decide (u.natAbs < 2 ^ 64)) = true by simp; omega]
    rfl
  have b1 : eOp sPow (eVar 3) (eC (.int 5)) (S (some (.d (.int u)))) = okD (.int (u ^ 5)) (S (some (.d (.int u)))) := (eOp_d (d := .int u) (e := .int 5) rfl rfl).trans hp
  have b2 := (eOp_d (sem := sMod) b1 (show eC (.int 2147483647) _ = okD (.int 2147483647) _ from rfl)).trans (mod_pos (by decide))
  have b3 := (eOp_d (sem := sMod) b2 (show eC (.int 999983) _ = okD (.int 999983) _ from rfl)).trans (mod_pos (by decide))
  have b4 := (eOp_d (sem := sMod) b3 (show eVar 2 _ = okD (.int many) _ from rfl)).trans (mod_pos hm)
  rw [sRet_d b4]
  rfl
theorem draw_ok (ns : List Int) (hl : ns.length ≤ 63) (t : Nat) (ht : t < 100000) (c : List Ch) (many : Int) (hm : 0 < many) : ∃ d, 0 ≤ d ∧ d < many ∧ mDraw [.scr, .town, .int many] ⟨ns, some t, c⟩ = .ok (.int d) ⟨ns, some (t + 1), c⟩ := by
  obtain ⟨d, h0, h1, h⟩ := mixed_ok ns hl (t + 1) c ((t + 1 : Nat) : Int) many (by omega) hm
  refine ⟨d, h0, h1, ?_⟩
  show fin (dDraw ⟨[some (.d .scr), some (.d .town), some (.d (.int many))], [], ⟨ns, some t, c⟩⟩) = _
  unfold dDraw
  rw [sSeq_nx (s1 := ⟨[some (.d .scr), some (.d .town), some (.d (.int many))], [], ⟨ns, some (t + 1), c⟩⟩) (by
    show gd (decide (t < 100000)) _ = _
    rw [decide_eq_true ht]
    rfl)]
  show fin (Out.bind (called true ⟨[some (.d .scr), some (.d .town), some (.d (.int many))], [], ⟨ns, some (t + 1), c⟩⟩ (mMixed [.scr, .int ((t + 1 : Nat) : Int), .int many] ⟨ns, some (t + 1), c⟩)) _) = _
  rw [h]
  rfl
/-! ### laws with few draws -/
/-- a part of a law: one that draws nothing, or a draw put into a slot -/
inductive Pt where
  | p (f : LS → Out Fl)
  | dr (f : LS → Out Fl) (slot : Nat) (off : Int) (many : LS → Out Lv)
  | e (f : LS → Out Fl)
def Pt.run : Pt → LS → Out Fl
  | .p f => f
  | .dr f _ _ _ => f
  | .e f => f
def seqP : List Pt → LS → Out Fl
  | [] => sNx
  | [x] => x.run
  | x :: y :: r => sSeq x.run (seqP (y :: r))
/-- the statement slot = off + draw(many) -/
def DrS (f : LS → Out Fl) (slot : Nat) (off : Int) (many : LS → Out Lv) : Prop := ∀ (ns : List Int), ns.length ≤ 63 → ∀ (t : Nat), t < 100000 → ∀ (s : LS), s.g.base → s.loc[0]? = some (some (.d .scr)) → s.loc[1]? = some (some (.d .town)) →
  ∀ m, many s = .ok (.d (.int m)) s → 0 < m → ∃ d : Int, 0 ≤ d ∧ d < m ∧ f (s.up ns (some t)) = .ok .nx (LS.up ns (some (t + 1)) { s with loc := s.loc.set slot (some (.d (.int (off + d)))) })
def PtOk : Pt → Prop
  | .p f => Mn f
  | .dr f j off many => DrS f j off many ∧ 2 ≤ j
  | .e f => ∀ (ns : List Int) (t : Nat) (s : LS), s.g.base → s.g.chs = [] → ∃ s1, f (s.up ns (some t)) = .ok (.ret (.bl true)) s1
def at01 (s : LS) : Bool := match s.loc with
  | some (.d .scr) :: some (.d .town) :: _ => true
  | _ => false
def okT : Out Fl → Bool
  | .ok (.ret (.bl true)) _ => true
  | _ => false
def chk : List Pt → LS → Bool
  | [], _ => false
  | .p f :: r, s => match f s with
    | .ok .nx s1 => chk r s1
    | .ok (.ret (.bl true)) _ => true
    | _ => false
  | .dr _ j off many :: r, s => match many s with
    | .ok (.d (.int m)) _ => decide (0 < m) && at01 s && (List.range m.toNat).all fun d => chk r { s with loc := s.loc.set j (some (.d (.int (off + (d : Nat))))) }
    | _ => false
  | .e _ :: _, s => s.g.chs.isEmpty
/-- asking for many does not change anything -/
def Quiet (many : LS → Out Lv) : Prop := ∀ s x s1, many s = .ok x s1 → s1 = s
theorem quiet_c (d : D) : Quiet (eC d) := fun s x s1 h => by cases h; rfl
theorem quiet_v (i : Nat) : Quiet (eVar i) := fun s x s1 h => by
  unfold eVar at h
  split at h
  · cases h; rfl
  · cases h
def PtQ : Pt → Prop
  | .p _ => True
  | .dr _ _ _ many => Quiet many
  | .e _ => True
theorem at01_of {s : LS} (h : at01 s = true) : s.loc[0]? = some (some (.d .scr)) ∧ s.loc[1]? = some (some (.d .town)) := by
  unfold at01 at h
  split at h
  · rename_i e
    rw [e]
    exact ⟨rfl, rfl⟩
  · cases h
theorem chk_ok (ns : List Int) (hl : ns.length ≤ 63) : ∀ (ps : List Pt) (s : LS) (t : Nat), (∀ p ∈ ps, PtOk p ∧ PtQ p) → t + ps.length < 100000 → s.g.base → chk ps s = true → ∃ s1, seqP ps (s.up ns (some t)) = .ok (.ret (.bl true)) s1
  | [], s, t, _, _, _, h => by cases h
  | [.p f], s, t, hp, _, hb, h => by
    have q := (hp _ (List.mem_singleton.mpr rfl)).1 ns (some t) s hb
    simp only [chk] at h
    cases hf : f s with
    | bad => rw [hf] at h; cases h
    | exc c s1 => rw [hf] at h; cases h
    | ok fl s1 =>
      rw [hf] at h q
      obtain ⟨_, q⟩ := q
      cases fl with
      | nx => simp only [chk] at h; cases h
      | bk => cases h
      | ct => cases h
      | ret d =>
        refine ⟨s1.up ns (some t), ?_⟩
        show f _ = _
        rw [q]
        split at h
        · rename_i e; cases e
        · rename_i e; cases e; rfl
        · cases h
  | [.dr f j off many], s, t, hp, _, hb, h => by
    exfalso
    simp only [chk] at h
    split at h
    · rename_i m s1 hm
      rw [Bool.and_eq_true, Bool.and_eq_true] at h
      have h0 := h.2
      have hpos : 0 < m := of_decide_eq_true h.1.1
      rw [List.all_eq_true] at h0
      have := h0 0 (List.mem_range.mpr (by omega))
      cases this
    · cases h
  | [.e f], s, t, hp, _, hb, h => (hp _ List.mem_cons_self).1 ns t s hb (List.isEmpty_iff.mp h)
  | .e f :: y :: r, s, t, hp, _, hb, h => by
    obtain ⟨s1, q⟩ := (hp _ List.mem_cons_self).1 ns t s hb (List.isEmpty_iff.mp h)
    exact ⟨s1, sSeq_ret q⟩
  | .p f :: y :: r, s, t, hp, ht, hb, h => by
    have q := (hp _ List.mem_cons_self).1 ns (some t) s hb
    simp only [chk] at h
    show ∃ s1, sSeq f (seqP (y :: r)) _ = _
    cases hf : f s with
    | bad => rw [hf] at h; cases h
    | exc c s1 => rw [hf] at h; cases h
    | ok fl s1 =>
      rw [hf] at h q
      obtain ⟨hb1, q⟩ := q
      cases fl with
      | nx =>
        rw [sSeq_nx q]
        exact chk_ok ns hl (y :: r) s1 t (fun p m => hp p (List.mem_cons_of_mem _ m)) (by simp only [List.length_cons] at ht ⊢; omega) hb1 h
      | bk => cases h
      | ct => cases h
      | ret d =>
        rw [sSeq_ret q]
        split at h
        · rename_i e; cases e
        · rename_i e; cases e; exact ⟨_, rfl⟩
        · cases h
  | .dr f j off many :: y :: r, s, t, hp, ht, hb, h => by
    obtain ⟨⟨q, hj⟩, hq⟩ := hp _ List.mem_cons_self
    simp only [chk] at h
    show ∃ s1, sSeq f (seqP (y :: r)) _ = _
    split at h
    · rename_i m s1 hm
      rw [Bool.and_eq_true, Bool.and_eq_true] at h
      obtain ⟨⟨hpos, h01⟩, h0⟩ := h
      have hpos : 0 < m := of_decide_eq_true hpos
      obtain ⟨e0, e1⟩ := at01_of h01
      have es : s1 = s := hq s _ s1 hm
      subst es
      obtain ⟨d, d0, d1, e⟩ := q ns hl t (by simp only [List.length_cons] at ht; omega) s1 hb e0 e1 m hm hpos
      rw [sSeq_nx e]
      rw [List.all_eq_true] at h0
      have h2 := h0 d.toNat (List.mem_range.mpr (by omega))
      have ed : ((d.toNat : Nat) : Int) = d := by omega
      rw [ed] at h2
      exact chk_ok ns hl (y :: r) _ (t + 1) (fun p m => hp p (List.mem_cons_of_mem _ m)) (by simp only [List.length_cons] at ht ⊢; omega) hb h2
    · cases h
/-- the answers of a draw, one by one -/
theorem chk_dr {f : LS → Out Fl} {j : Nat} {off : Int} {m : Nat} {ps : List Pt} {s : LS} (hm : 0 < m) (h1 : at01 s = true) (h : ∀ d : Nat, d < m → chk ps { s with loc := s.loc.set j (some (.d (.int (off + (d : Nat))))) } = true) : chk (.dr f j off (eC (.int (m : Nat))) :: ps) s = true := by
  show (decide ((0 : Int) < (m : Nat)) && at01 s && (List.range (Int.toNat (m : Nat))).all fun d => chk ps { s with loc := s.loc.set j (some (.d (.int (off + (d : Nat))))) }) = true
  rw [h1, decide_eq_true (by omega), Bool.true_and, Bool.true_and, List.all_eq_true]
  intro d hd
  rw [Int.toNat_natCast] at hd
  exact h d (List.mem_range.mp hd)
/-- slot = off + draw(script, town, many) -/
theorem drs_off {j : Nat} {off : Int} {many : LS → Out Lv} (hm : Mn many) : DrS (sSet j (eOp sAdd (eC (.int off)) (eCall mDraw (aCons (eVar 0) (aCons (eVar 1) (aCons many aNil)))))) j off many := by
  intro ns hl t ht s hb h0 h1 m hs hpos
  obtain ⟨d, d0, d1, e⟩ := draw_ok ns hl t ht s.g.chs m hpos
  refine ⟨d, d0, d1, ?_⟩
  have q := hm ns (some t) s hb
  rw [hs] at q
  obtain ⟨_, q⟩ := q
  have v0 : eVar 0 (s.up ns (some t)) = .ok (.d .scr) (s.up ns (some t)) := by
    unfold eVar
    have : (s.up ns (some t)).loc[0]? = some (some (.d .scr)) := h0
    rw [this]
  have v1 : eVar 1 (s.up ns (some t)) = .ok (.d .town) (s.up ns (some t)) := by
    unfold eVar
    have : (s.up ns (some t)).loc[1]? = some (some (.d .town)) := h1
    rw [this]
  have ea : aCons (eVar 0) (aCons (eVar 1) (aCons many aNil)) (s.up ns (some t)) = .ok [.d .scr, .d .town, .d (.int m)] (s.up ns (some t)) := by
    simp only [aCons, v0, v1, Out.bind, q, aNil]
  have ec : eCall mDraw (aCons (eVar 0) (aCons (eVar 1) (aCons many aNil))) (s.up ns (some t)) = okD (.int d) (s.up ns (some (t + 1))) := by
    unfold eCall
    rw [ea]
    show called true (s.up ns (some t)) (mDraw [.scr, .town, .int m] ⟨ns, some t, s.g.chs⟩) = _
    rw [e]
    rfl
  unfold sSet eOp
  show Out.bind (Out.bind (eCall mDraw (aCons (eVar 0) (aCons (eVar 1) (aCons many aNil))) (s.up ns (some t))) _) _ = _
  rw [ec]
  rfl
/-- slot = draw(script, town, many) -/
theorem drs_0 {j : Nat} {many : LS → Out Lv} (hm : Mn many) : DrS (sSet j (eCall mDraw (aCons (eVar 0) (aCons (eVar 1) (aCons many aNil))))) j 0 many := by
  intro ns hl t ht s hb h0 h1 m hs hpos
  obtain ⟨d, d0, d1, e⟩ := drs_off (off := 0) (j := j) hm ns hl t ht s hb h0 h1 m hs hpos
  refine ⟨d, d0, d1, ?_⟩
  rw [← e]
  unfold sSet eOp
  show _ = Out.bind (Out.bind (eCall mDraw (aCons (eVar 0) (aCons (eVar 1) (aCons many aNil))) (s.up ns (some t))) _) _
  obtain ⟨d', _, _, e'⟩ := draw_ok ns hl t ht s.g.chs m hpos
  have q := hm ns (some t) s hb
  rw [hs] at q
  obtain ⟨_, q⟩ := q
  have v0 : eVar 0 (s.up ns (some t)) = .ok (.d .scr) (s.up ns (some t)) := by
    unfold eVar
    have : (s.up ns (some t)).loc[0]? = some (some (.d .scr)) := h0
    rw [this]
  have v1 : eVar 1 (s.up ns (some t)) = .ok (.d .town) (s.up ns (some t)) := by
    unfold eVar
    have : (s.up ns (some t)).loc[1]? = some (some (.d .town)) := h1
    rw [this]
  have ea : aCons (eVar 0) (aCons (eVar 1) (aCons many aNil)) (s.up ns (some t)) = .ok [.d .scr, .d .town, .d (.int m)] (s.up ns (some t)) := by
    simp only [aCons, v0, v1, Out.bind, q, aNil]
  have ec : eCall mDraw (aCons (eVar 0) (aCons (eVar 1) (aCons many aNil))) (s.up ns (some t)) = okD (.int d') (s.up ns (some (t + 1))) := by
    unfold eCall
    rw [ea]
    show called true (s.up ns (some t)) (mDraw [.scr, .town, .int m] ⟨ns, some t, s.g.chs⟩) = _
    rw [e']
    rfl
  rw [ec]
  show Out.ok Fl.nx { s.up ns (some (t + 1)) with loc := s.loc.set j (some (.d (.int d'))) } = Out.ok Fl.nx { s.up ns (some (t + 1)) with loc := s.loc.set j (some (.d (.int (0 + d')))) }
  rw [Int.zero_add]
/-- a def without arguments that says True: asked once -/
def saysTrue : FOut → Bool
  | .ok (.bl true) ⟨[], none, []⟩ => true
  | _ => false
theorem end_of {m : List D → GS → FOut} (mn : MnF m) (h : saysTrue (m [] ⟨[], none, []⟩) = true) : PtOk (.e (sRet (eCall m aNil))) := fun ns t s hb hc => by
  have e : m [] ⟨[], none, []⟩ = .ok (.bl true) ⟨[], none, []⟩ := by
    unfold saysTrue at h
    split at h
    · rename_i q; exact q
    · cases h
  have q := mn ns (some t) [] ⟨[], none, []⟩ ⟨rfl, rfl⟩
  rw [e] at q
  refine ⟨⟨s.loc, s.own, ⟨ns, some t, []⟩⟩, ?_⟩
  have g1 : (s.up ns (some t)).g = GS.up ns (some t) ⟨[], none, []⟩ := by
    show GS.mk ns (some t) s.g.chs = _
    rw [hc]
    rfl
  show Out.bind (called true (s.up ns (some t)) (m [] (s.up ns (some t)).g)) _ = _
  rw [g1, q.2]
  rfl
/-- a law: the counter is made, then parts -/
theorem law_of {np : Nat} {ps : List Pt} (hp : ∀ p ∈ ps, PtOk p ∧ PtQ p) (hn : ps.length < 99999) (h : chk ps ⟨some (.d .scr) :: some (.d .town) :: List.replicate np none, [], ⟨[], none, []⟩⟩ = true) (ns : List Int) (hl : ns.length ≤ 63) :
    ∃ g', runF 1 (np + 2) (sSeq (sSet 1 eTown) (seqP ps)) [.scr] ⟨ns, none, []⟩ = .ok (.bl true) g' := by
  obtain ⟨s1, e⟩ := chk_ok ns hl ps _ 0 hp (by omega) ⟨rfl, rfl⟩ h
  refine ⟨s1.g, ?_⟩
  show fin (sSeq (sSet 1 eTown) (seqP ps) ⟨start0 (np + 2) [.scr], [], ⟨ns, none, []⟩⟩) = _
  have e0 : start0 (np + 2) [.scr] = some (.d .scr) :: none :: List.replicate np none := by
    unfold start0
    show some (Lv.d .scr) :: List.replicate (np + 2 - 1) none = _
    rw [show np + 2 - 1 = np + 1 by omega, List.replicate_succ]
  have e1 : sSet 1 eTown ⟨some (.d .scr) :: none :: List.replicate np none, [], ⟨ns, none, []⟩⟩ = .ok .nx (LS.up ns (some 0) ⟨some (.d .scr) :: some (.d .town) :: List.replicate np none, [], ⟨[], none, []⟩⟩) := rfl
  rw [e0, sSeq_nx e1, e]
  rfl
end Br

/-! tuple(range(i, j, -1)); (x,) * 0 and (x,) * 1; a def without arguments. -/
namespace Br
open PySem L2 PySem.Spec PyProof.Rows
section
variable {X : Cx} {P : Gh} {W : WX} {w : Wd} {σ : L2.St} {H : Hp} {s : LS} {a b c e : Expr} {ga : LS → Out (List Lv)} {fa fb : LS → Out Lv} {pos : Pos}
/-! ### downwards -/
def downD : List Int → LS → Out Lv
  | [i, j, c], s => gd (small i && small j && decide (c = -1) && decide ((i - j).toNat ≤ 100000)) (okD (.tup (rgC i (-1) (i - j).toNat)) s)
  | _, _ => .bad
def eTRgD (ga : LS → Out (List Lv)) : LS → Out Lv := fun s => (ga s).bind fun xs s1 => onO (intArgs xs) fun is => downD is s1
def downV (i : Int) (n : Nat) : List V := (List.range n).map fun m => V.int (i + (m : Nat) * (-1))
theorem down_reps {Γ : Gm} {H : Hp} {nb : Addr → Prop} {ad : Ad} : ∀ (n : Nat) (i : Int), Reps Γ H nb ad (downV i n) (rgC i (-1) n)
  | 0, _ => .nil
  | n + 1, i => by
    have e : downV i (n + 1) = V.int i :: downV (i + -1) n := by
      simp only [downV, List.range_succ_eq_map, List.map_cons, List.map_map]
      congr 1
      · simp
      · apply List.map_congr_left
        intro m _
        simp only [Function.comp]
        congr 1
        push_cast
        omega
    rw [e, rgC]
    exact .cons (.int _) (down_reps n _)
theorem pe_tupDown {ta : TA} {p p2 q : Pos} (calm : X.calm = true) (gt : Gl X "tuple") (mt : X.mg "tuple" = none) (gr : Gl X "range") (mr : X.mg "range" = none) (ha : PA X [a, b, c] ta)
    (st : starEach [a, b, c] X.env = (false, eval a X.env) :: starEach [b, c] X.env := by rfl) (pl : (backTo q (starEach [b, c] X.env)).any (·.1) = false := by rfl) :
    PE X (.Call (.Name "tuple" p) [.Call (.Name "range" p2) [a, b, c] [] q] [] pos) (fun σ H Q => ta σ H fun vs H1 => ∃ i j : Int, vs = [.int i, .int j, .int (-1)] ∧ RgC i j (-1) (i - j).toNat ∧ (i - j).toNat ≤ 100000 ∧ ∀ p, H1 p = none → Q (.ref p) (upd H1 p (.tup (downV i (i - j).toNat)))) where
  run := fun pins s σ H Q I h => Call_ (ld_blt I gt mt boot_tuple (callWith_type1 (args_cons (Call_ (ld_blt I gr mr boot_range (callWith_type1 (thn (ha.run q pins s σ H _ I h) fun us s1 ⟨vs, H1, I1, rel, i, j, three, ⟨c0, c1, c2, c3⟩, few, k⟩ => by
    subst three
    cases rel with
    | cons r1 rel => cases rel with
      | cons r2 rel => cases rel with
        | cons r3 rel =>
          cases rel
          obtain ⟨t1, rfl⟩ := r1
          obtain ⟨t2, rfl⟩ := r2
          obtain ⟨t3, rfl⟩ := r3
          refine call_range_3 c0 (args_nil ?_) (.inl (PyProof.noPylong_small c1))
          have I2 : Inv X pins σ H1 { s1 with heap := s1.heap.push { cls := .type "range", data := .fields #[.int i t1, .int j t2, .int (-1) t3] }, toks := s1.toks } := I1.kept fun _ _ z => Heap.get?_push_of_some _ z
          refine call_tuple_range (n := (i - j).toNat) (I2.ok.hd calm) (IsRange.new ..) c2 c3 (Nat.le_trans few (by decide)) fun heap tk acc old each => ?_
          have I3 : Inv X pins σ H1 { s1 with heap := heap, toks := tk } := I2.kept old
          have len : (downV i (i - j).toNat).length ≤ sizeLine := by rw [downV, List.length_map, List.length_range]; exact Nat.le_trans few (by decide)
          have size : acc.toList.length = (i - j).toNat := by rw [Array.length_toList]; exact each.1
          have vals : Vals (downV i (i - j).toNat) acc.toList := by
            rw [downV, ← size]
            exact vals_of_get acc.toList _ fun m u hm => each.2 m u (by rw [← hm, Array.getElem?_toList])
          refine ⟨.ref heap.objs.size, upd H1 heap.objs.size (.tup (downV i (i - j).toNat)), I3.laid (t' := tk) (o := .tup (downV i (i - j).toNat)) (fun _ _ z => Heap.get?_push_of_some _ z) (Nat.le_refl _) ⟨len, acc.toList, vals, ?_⟩, rfl, k _ (I3.hok.fresh (Nat.le_refl _))⟩
          rw [Array.toArray_toList]
          exact IsTup.new _ _) st pl))) rfl) rfl rfl))
theorem de_tupDown {p p2 q : Pos} (calm : X.calm = true) (gt : Gl X "tuple") (mt : X.mg "tuple" = none) (gr : Gl X "range") (mr : X.mg "range" = none) (ha : PA X [a, b, c] (RA P W ga))
    (st : starEach [a, b, c] X.env = (false, eval a X.env) :: starEach [b, c] X.env := by rfl) (pl : (backTo q (starEach [b, c] X.env)).any (·.1) = false := by rfl) :
    PE X (.Call (.Name "tuple" p) [.Call (.Name "range" p2) [a, b, c] [] q] [] pos) (RE P W (eTRgD ga)) := PE.mono (pe_tupDown calm gt mt gr mr ha st pl) fun σ H Q ⟨w, s, S, h⟩ => by
  refine ⟨w, s, S, (At.first (relX := relA P) h).imp ?_⟩
  rintro v H1 ⟨w1, s1, xs, S1, r1, a1, h1⟩
  obtain ⟨is, hi, h1⟩ := At.onO h1
  have ev := intArgs_rep r1 hi
  match is, ev, h1 with
  | [i, j, c], ev, h1 =>
    obtain ⟨cc, h2⟩ := At.gd (k := okD (.tup (rgC i (-1) (i - j).toNat)) s1) h1
    simp only [Bool.and_eq_true] at cc
    obtain ⟨q1, q2⟩ := small_of cc.1.1.1
    obtain ⟨q3, q4⟩ := small_of cc.1.1.2
    have ec : c = -1 := of_decide_eq_true cc.1.2
    subst ec
    exact ⟨i, j, ev, RgC.neg q1 q2 q3 q4, of_decide_eq_true cc.2, fun p hp => give_tup h2 S1 (down_reps _ _) p hp⟩
  | [], _, h1 => exact h1.elim
  | [_], _, h1 => exact h1.elim
  | [_, _], _, h1 => exact h1.elim
  | _ :: _ :: _ :: _ :: _, _, h1 => exact h1.elim
theorem mn_downD (is : List Int) : Mn (downD is) := fun ns t s h => by
  unfold downD
  split
  · exact Le.gd ⟨h, rfl⟩
  · trivial
theorem mn_eTRgD (p : Mn ga) : Mn (eTRgD ga) := fun ns t s h => (p ns t s h).bind fun xs s1 h1 => Le.onO fun is => mn_downD is ns t s1 h1
/-! ### a def without arguments -/
theorem de_call0 {k : Nat} {x : Str} {p : Pos} {m : List D → GS → FOut} (F : FnT X.prog X.w X.base P.Γ k x m) (hK : X.K = P.Γ.K) (hmg : X.mg = P.Γ.mg) (hr : Room k X.A) (tk : L2N.Takes X W) (hg : Gl X x) (hdb : (x == ("__debug__" : Str)) = false := by decide) :
    PE X (.Call (.Name x p) [] [] pos) (RE P W (eCall m aNil)) := by
  obtain ⟨f, fd, ps, hm, hk, hb, F⟩ := F.ex
  rw [← hK, ← hmg] at F
  refine ⟨fun pins s σ H Q I ⟨w, s0, S, h⟩ => wpAny_Call_Name_kw (ld_glob I hg (by rw [hmg]; exact hm) (PySem.W.callWith_K0 I.kIn (by rw [hK]; exact hk) (run_fnSD (E := fun σ cls d H' => W cls d σ H') (dvs := []) (ds := []) (us := []) (vs := []) F hr (by rw [hK]; exact hb) .nil (L2N.passAt tk σ) I .nil ?_)) hdb)⟩
  exact call_at (xs := []) (ds := []) S .nil rfl h
end
end Br

/-! try .. except RowError as e: return _law_which(e); a function picked out of a list. -/
namespace Br
open PySem L2 PySem.Spec PyProof.Rows

/-! ### one call of a def while an error is handled -/
theorem kinds_ok {N ps : List Str} {sc : Scope} (S : FnScope N ps sc) (us : List Value) (n : Nat) : ∀ y ∈ ps.zip us, sc.names.lookup y.1 = some .local ∨ (sc.names.lookup y.1 = some .cell ∧ ((cellsFrom n sc.names []).lookup y.1).isSome = true) := by
  rintro ⟨x, u⟩ h
  exact (S.par x (List.of_mem_zip h).1).imp id fun c => ⟨c, PySem.W.cellsFrom_some _ _ _ (.inl c)⟩
def retV : Flow → Value
  | .ret v => v
  | _ => .none
/-- a body's end is the call's end -/
theorem end_call {X : Cx} {Q : VK} {fl : Flow} {s' : Shared} (e0 : X.ex = []) (h : SP X [] { nx := fun _ H' => Q .non H', rt := Q } fl s') :
    CE X.outer X.prog X.w X.H_0 X.s_0 Q (retV fl) s' := by
  cases fl with
  | brk => obtain ⟨_, _, _, no⟩ := h; exact no.elim
  | cont => obtain ⟨_, _, _, no⟩ := h; exact no.elim
  | ret u =>
    obtain ⟨v, _, H', J, rv, q⟩ := h
    have un := J.base
    rw [e0] at un
    exact ⟨v, H', J.os, J.bare, un, J.hok, rv, q⟩
  | next =>
    obtain ⟨_, H', J, q⟩ := h
    have un := J.base
    rw [e0] at un
    exact ⟨.non, H', J.os, J.bare, un, J.hok, rfl, q⟩
theorem hot_call {CX : CXT} {P : Program} {w : World} {K : PySem.W.Frag} {mg : Str → Option Value} {base : Heap} {k : Nat} {f : Addr} {name qual : Str} {params : Arguments} {body : List Stmt} {scope : Scope} {dV kV doc pm cdv ct oc : Value} {an od : Option Addr}
    {osl : Array (Option Value)} {N ps : List Str} {A : Around} {outer : List Env} {s : Shared} {H : Hp} {args : Args} {us : List Value} {vs : List V} {Q : VK} {E : XK} {p : Addr × Obj} {t : TS}
    (lk : K.lookup f = some ⟨oc, od, .func (PySem.W.fnOf name qual params body scope dV kV doc pm an cdv ct), osl⟩) (hcd : PySem.W.codeIn K cdv qual = true) (S : FnScope N ps scope) (hr : L2H.RoomH (k + 1) A) (pin : L2H.PinOk outer H s p) (e0 : Env0 P w K mg base A outer s H)
    (hb : BindsTo s (PySem.W.fnOf name qual params body scope dV kV doc pm an cdv ct) args (ps.zip us)) (hl : vs.length = ps.length) (r : Vals vs us)
    (ht : PSs (L2H.cxH CX P w K mg base N qual scope f cdv A outer s H E p) body t) (hq : t { nx := fun _ H' => Q .non H', rt := Q } (L2.start N vs) H) : codeAny (model P w) A (.call (.ref f) args) (CR CX outer P w H s Q E) s := by
  have old : ∀ b o, base.get? b = some o → s.heap.get? b = some o := fun b o z => (e0.bs b o z).1
  have kin := e0.mod.kin.keeps old
  apply codeAny_call_function hr.depth (kin f _ lk) rfl S.co S.gen rfl (PySem.W.codeRec_of kin hcd)
  apply hb
  apply wpAny_newFunctionEnv_cells S.kind (kinds_ok S us _)
  rintro _ rfl s1 x
  refine ⟨(e0.mod.nolimit.keeps old).keeps x.toInCall.keep, codeAny_func ?_⟩
  exact wpAny_mono (ht.run [] s1 _ H _ (L2H.inv_startH S pin e0 hl r x) hq) (fun fl s' q => by have e := end_call rfl q; cases fl <;> exact e) fun _ _ z => z

/-! ### what is asked of the error -/
section
variable {X : Cx}
theorem call_isW {a D : Addr} {oe : Obj} (C : ExcC X.K D) (hz : L2N.Zn (.ref D) none oe) (hf : ∃ vs, oe.data = .fields vs) (hp : (a, oe) ∈ X.pn) : CallR X (.builtin "isinstance") (rIsE X.K D a) := by
  intro pins s σ H xs us Q I both asked
  obtain ⟨c, cv, b, rfl, one, kit, q⟩ := asked
  obtain ⟨u1, u2, rfl, r1, r2⟩ := Vals.two both
  cases r1
  cases one _ r2
  obtain ⟨vs, hv⟩ := hf
  have at_ : PySem.W.InstAt s.heap a oe D none := by
    refine ⟨(I.pin (a, oe) (List.mem_append_left _ hp)).1, hz.1, ?_, ?_⟩
    · unfold PySem.W.notCls
      rw [hv]
    · rw [hz.2.1]
      trivial
  refine PySem.W.kia_one (PySem.W.handS_kitx_exc C.hg C.hk C.hs C.hd C.ha C.hn C.ht C.hm) I.kIn at_ kit (fun z => nomatch z) fun tk => ?_
  exact ⟨.bl b, H, I.kept (t' := tk) fun _ _ z => z, rfl, q⟩
/-- xs.count(b), xs a list of truth values -/
def rCountB (K : PySem.W.Frag) : V → List V → Hp → VK → Prop := fun x xs H Q => ∃ (p : Addr) (bs : List Bool) (b : Bool), x = .ref p ∧ xs = [.bl b] ∧ SqL K H p (bs.map V.bl) ∧ Q (.int (bs.count b : Nat)) H
theorem dp_bools {K : PySem.W.Frag} {H : Hp} : ∀ bs : List Bool, DpAll K H (bs.map V.bl) (bs.map PyData.bool)
  | [] => .nil
  | b :: r => .cons (.bl b) (dp_bools r)
theorem plain_bools : ∀ bs : List Bool, PyData.plainAll (bs.map PyData.bool) = true
  | [] => by simp [PyData.plainAll]
  | b :: r => by simp [PyData.plainAll, PyData.plain, plain_bools r]
theorem count_bools (b : Bool) : ∀ bs : List Bool, (bs.map PyData.bool).countP (fun y => PyData.eqv y (.bool b)) = bs.count b
  | [] => rfl
  | c :: r => by
    rw [List.map_cons, List.countP_cons, List.count_cons, count_bools b r]
    cases b <;> cases c <;> rfl
theorem mt_countB (hu : X.A.units + 65 < cLine) : MtR X "list.count" (rCountB X.K) := by
  intro pins s σ H x xs v us Q I self args asked
  obtain ⟨p, bs, b, rfl, rfl, sq, q⟩ := asked
  cases self
  obtain ⟨u, rfl, ru⟩ := args.one
  obtain ⟨its, rv, pl, _⟩ := I.list sq
  obtain ⟨as, ra⟩ := Dp.readsAll I _ _ its (dp_bools bs) rv
  obtain ⟨bs', rb⟩ := Dp.reads I (.bool b) (.bl b) u (.bl b) ru
  have deep : min (PyData.depthAll (bs.map PyData.bool)) (PyData.depth (.bool b)) = 0 := by simp [PyData.depth]
  refine SeqAt.count_list_data (pl.isList) (by simpa using ra) rb (plain_bools bs) (by simp [PyData.plain]) (by rw [deep]; omega) ?_
  rw [count_bools]
  exact ⟨.int (bs.count b : Nat), H, I.tok _, ⟨s.toks, rfl⟩, q⟩
end

/-! ### _law_which -/
/-- the ten classes, and their base -/
structure Wh10 (Γ : Gm) (C : Nat → Addr) (CR : Addr) : Prop where
  g0 : Γ.mg "InvalidNumber" = some (.ref (C 0))
  g1 : Γ.mg "InvalidOrder" = some (.ref (C 1))
  g2 : Γ.mg "InvalidRanks" = some (.ref (C 2))
  g3 : Γ.mg "InvalidPlace" = some (.ref (C 3))
  g4 : Γ.mg "InvalidRank" = some (.ref (C 4))
  g5 : Γ.mg "InvalidRule" = some (.ref (C 5))
  g6 : Γ.mg "InvalidGoal" = some (.ref (C 6))
  g7 : Γ.mg "AllCame" = some (.ref (C 7))
  g8 : Γ.mg "NothingToUndo" = some (.ref (C 8))
  g9 : Γ.mg "ParseError" = some (.ref (C 9))
  gR : Γ.mg "RowError" = some (.ref CR)
/-- the class of number i may be raised -/
structure WhC (Γ : Gm) (C : Nat → Addr) (CR : Addr) (i : Nat) : Prop where
  ec : ExcC Γ.K (C i)
  kt : ∀ j, j < 10 → PySem.W.kitOne Γ.K (.ref (C i)) (.ref (C j)) = some (decide (i = j))
  kv : PySem.W.kitOne Γ.K (.ref (C i)) (.type "ValueError") = some true
  ex : PySem.W.exmOne Γ.K (.ref (C i)) (.ref CR) = some true
  lt : i < 10
theorem kit_own {K : PySem.W.Frag} {t : Value} : PySem.W.kitOne K t t = some true := by
  unfold PySem.W.kitOne
  rw [if_pos (beq_self_eq_true t)]
theorem kit_ref {K : PySem.W.Frag} {C D : Addr} (hd : PySem.W.hasDictIn K C = true) (ht : PySem.W.typeIn K (.ref C) = some (.type "type")) (hs : PySem.W.subIn K (.ref D) (.ref C) = some false) (ne : D ≠ C) : PySem.W.kitOne K (.ref D) (.ref C) = some false := by
  obtain ⟨cd, hc, _⟩ := PySem.W.any_some hd
  unfold PySem.W.kitOne PySem.W.kitCls
  rw [if_neg (by simpa using ne)]
  show (if ((PySem.W.clsIn K C).isSome && PySem.W.typeIn K (.ref C) == some (.type "type")) = true then PySem.W.subIn K (.ref D) (.ref C) else none) = some false
  rw [if_pos (by rw [hc, ht]; rfl), hs]
theorem kit_val {K : PySem.W.Frag} {D : Addr} (hs : PySem.W.subIn K (.ref D) (.type "ValueError") = some true) : PySem.W.kitOne K (.ref D) (.type "ValueError") = some true := by
  unfold PySem.W.kitOne PySem.W.kitCls
  rw [if_neg (by simp)]
  show (if PySem.W.kitMeta "ValueError" = true then PySem.W.subIn K (.ref D) (.type "ValueError") else none) = some true
  rw [if_pos (by decide +kernel), hs]
def whName : Nat → Str
  | 0 => "InvalidNumber"
  | 1 => "InvalidOrder"
  | 2 => "InvalidRanks"
  | 3 => "InvalidPlace"
  | 4 => "InvalidRank"
  | 5 => "InvalidRule"
  | 6 => "InvalidGoal"
  | 7 => "AllCame"
  | 8 => "NothingToUndo"
  | _ => "ParseError"
theorem Wh10.at {Γ : Gm} {C : Nat → Addr} {CR : Addr} (T : Wh10 Γ C CR) {i : Nat} (h : i < 10) : Γ.mg (whName i) = some (.ref (C i)) := by
  match i, h with
  | 0, _ => exact T.g0
  | 1, _ => exact T.g1
  | 2, _ => exact T.g2
  | 3, _ => exact T.g3
  | 4, _ => exact T.g4
  | 5, _ => exact T.g5
  | 6, _ => exact T.g6
  | 7, _ => exact T.g7
  | 8, _ => exact T.g8
  | 9, _ => exact T.g9
  | n + 10, h => omega
/-- what a call of it gives: the pair, new -/
def raisedTo (H : Hp) (i : Nat) (Q : VK) : Prop := ∀ H' q, (∀ b o, H b = some o → H' b = some o) → H q = none → H' q = some (.tup [.str "raised", .int (i : Nat)]) → Q (.ref q) H'
theorem upd_on {H0 H : Hp} {p : Addr} {o' : HO} (k : ∀ b o, H0 b = some o → H b = some o) (hp : H0 p = none) : ∀ b o, H0 b = some o → upd H p o' b = some o := fun b o h => by
  rw [upd_ne (ne_of_none h hp)]; exact k b o h
theorem none_back {H0 H : Hp} {p : Addr} (k : ∀ b o, H0 b = some o → H b = some o) (h : H p = none) : H0 p = none := by
  cases e : H0 p with
  | none => rfl
  | some o => rw [k p o e] at h; cases h
theorem upd_on3 {H0 H : Hp} {n l : Addr} (k : ∀ b o, H0 b = some o → H b = some o) (hn : H0 n = none) (hl : H0 l = none) (x y z : HO) : ∀ b o, H0 b = some o → upd (upd (upd H n x) l y) l z b = some o := upd_on (upd_on (upd_on k hn) hl) hl
def whList (i : Nat) : List V := [.bl (decide (i = 0)), .bl (decide (i = 1)), .bl (decide (i = 2)), .bl (decide (i = 3)), .bl (decide (i = 4)), .bl (decide (i = 5)), .bl (decide (i = 6)), .bl (decide (i = 7)), .bl (decide (i = 8)), .bl (decide (i = 9))]
theorem which_at {i m : Nat} (h : m < 10) : (whList i)[m]? = some (.bl (decide (i = m))) := by
  match m, h with
  | 0, _ => rfl
  | 1, _ => rfl
  | 2, _ => rfl
  | 3, _ => rfl
  | 4, _ => rfl
  | 5, _ => rfl
  | 6, _ => rfl
  | 7, _ => rfl
  | 8, _ => rfl
  | 9, _ => rfl
  | n + 10, h => omega
theorem which_hit {i : Nat} (h : i < 10) : (whList i)[i]? = some (.bl true) := by rw [which_at h]; simp
theorem which_miss {i m : Nat} {z : V} (h : i < 10) (hm : m < i) (e : (whList i)[m]? = some z) : eqV z (.bl true) = false := by
  rw [which_at (by omega)] at e
  cases e
  have no : ¬ i = m := by omega
  rw [decide_eq_false no]
  rfl
theorem which_one : ∀ i, i < 10 → [decide (i = 0), decide (i = 1), decide (i = 2), decide (i = 3), decide (i = 4), decide (i = 5), decide (i = 6), decide (i = 7), decide (i = 8), decide (i = 9)].count true = 1 := by decide
structure FnW (Pg : Program) (wd : World) (base : Heap) (Γ : Gm) (C : Nat → Addr) (k : Nat) : Prop where
  ex : ∃ (f : Addr) (fd : FuncData), Γ.mg "_law_which" = some (.ref f) ∧ PySem.W.keepIn Γ.K (.ref f) = true ∧ Binds Γ.K fd ["e"] [] ∧
    ∀ (R : Addr) (i : Nat), WhC Γ C R i → ∀ (A : Around) (outer : List Env) (s : Shared) (H : Hp) (args : Args) (us : List Value) (Q : VK) (E : XK) (p : Addr × Obj), L2H.RoomH k A → L2H.Hot1 A p → L2N.Zn (.ref (C i)) none p.2 → (∃ vs, p.2.data = .fields vs) →
      L2H.PinOk outer H s p → Env0 Pg wd Γ.K Γ.mg base A outer s H → BindsTo s fd args (List.zip ["e"] us) → Vals [.ref p.1] us → raisedTo H i Q → codeAny (model Pg wd) A (.call (.ref f) args) (CR (L2N.CX Pg wd) outer Pg wd H s Q E) s

/-! ### the try -/
def tabOf (l : List Nat) (c : Str) : Option Nat := l.find? fun i => decide (whName i = c)
theorem tab_spec {l : List Nat} {c : Str} {i : Nat} (h : tabOf l c = some i) : i ∈ l ∧ whName i = c :=
  ⟨List.mem_of_find?_eq_some h, of_decide_eq_true (List.find?_some (p := fun i => decide (whName i = c)) h)⟩
def sTry (i : Nat) (l : List Nat) (f : LS → Out Fl) : LS → Out Fl := fun s => match f s with
  | .exc c s1 => onO (tabOf l c) fun j => gd (decide (i < s1.loc.length)) (.ok (.ret (.tup [.str "raised", .int (j : Nat)])) s1)
  | .ok fl s1 => .ok fl s1
  | .bad => .bad
section
variable {X : Cx} {P : Gh} {W : WX} {f : LS → Out Fl} {C : Nat → Addr} {R : Addr} {k i : Nat} {l : List Nat} {body : List Stmt} {np q p pos pos2 pos3 pos' : Pos}
/-- what the suite asks -/
def tWh (Γ : Gm) (C : Nat → Addr) (R : Addr) (i : Nat) (a : Addr) (cls : Value) (d : Option Addr) : TE := fun σ H Q => ∃ j, WhC Γ C R j ∧ cls = .ref (C j) ∧ d = none ∧ σ[i]? = some (some (.ref a)) ∧ raisedTo H j Q
theorem pe_which {a : Addr} {oe : Obj} {pn : List (Addr × Obj)} {cls : Value} {d : Option Addr} (F : FnW X.prog X.w X.base P.Γ C k) (hK : X.K = P.Γ.K) (hmg : X.mg = P.Γ.mg) (hr : Room k X.A) (hi : X.N[i]? = some "e") (hln : X.env.kindOf "e" = some .local) (gW : Gl X "_law_which")
    (hz : L2N.Zn cls d oe) (hf : ∃ vs, oe.data = .fields vs) : PE (X.suite a ((a, oe) :: pn)) (.Call (.Name "_law_which" q) [.Name "e" p] [] pos) (tWh P.Γ C R i a cls d) where
  run := fun pins s σ H Q I h => by
    obtain ⟨j, w, rfl, rfl, hσ, hq⟩ := h
    obtain ⟨f, fd, hm, hk, hb, run⟩ := F.ex
    rw [← hK, ← hmg] at run
    rw [← hmg] at hm
    rw [← hK] at hk hb
    have arg : PA (X.suite a ((a, oe) :: pn)) [.Name "e" p] (tCons (tVar i) tNil) := pa_cons (pe_var hi (.inl hln)) pa_nil
    refine wpAny_Call_Name_kw (ld_glob I gW hm ?_)
    refine PySem.W.callWith_K (h₀ := X.base) I.ok.mod.kin hk (thn (arg.run pos pins s σ H (fun vs H1 => vs = [.ref a] ∧ H1 = H) I ⟨_, hσ, rfl, rfl⟩) ?_)
    rintro us s1 ⟨_, _, I1, r, rfl, rfl⟩
    refine ⟨I1.kIn, ?_⟩
    obtain ⟨u, rfl, ru⟩ := r.one
    obtain ⟨g1, g2, g3, g4, g5⟩ := I1.pin (a, oe) (List.mem_append_left _ List.mem_cons_self)
    have nost : a ∉ frs (X.suite a ((a, oe) :: pn)).stack := fun z => by
      rcases List.mem_cons.mp (I1.stkSub a z) with e | e
      · exact g3 e
      · exact g4 e
    obtain ⟨vs, hv⟩ := hf
    have hot : L2H.Hot1 (X.suite a ((a, oe) :: pn)).A (a, oe) := ⟨rfl, vs, hv, hz.2.2 vs hv⟩
    have bnd := hb s1 [u] I1.kIn rfl
    rw [List.append_nil] at bnd
    refine wpAny_call (codeAny_mono (run R j w _ _ s1 _ ⟨[u], []⟩ [u] Q (fun _ _ _ => False) (a, oe) ⟨hr.dp, hr.un⟩ hot hz ⟨vs, hv⟩ ⟨g1, g2, nost, g5⟩ I1.env0 bnd (.cons ru .nil) hq) ?_)
    rintro (e | fl) s' hc
    · exact hc.elim fun _ ⟨_, _, _, _, _, _, _, _, _, _, _, z⟩ => z.elim
    · cases fl with
      | ret u => exact I1.after hc
      | next => exact hc.elim
      | brk => exact hc.elim
      | cont => exact hc.elim
theorem ds_try (F : FnW X.prog X.w X.base P.Γ C k) (T : Wh10 P.Γ C R) (hW : ∀ j ∈ l, WhC P.Γ C R j) (hK : X.K = P.Γ.K) (hmg : X.mg = P.Γ.mg) (hr : Room k X.A) (hs : X.stack = X.env :: X.outer) (hf : X.env.frame = some X.env.locals) (hN : X.N.Nodup) (hi : X.N[i]? = some "e") (hln : X.env.kindOf "e" = some .local) (gR : Gl X "RowError") (gW : Gl X "_law_which")
    (tk : L2N.Takes X W) (hb : ∀ (W : WX) (pn : List (Addr × Obj)) (xe : Value → Shared → Prop), L2N.Takes (X.tr pn xe) W → PassesOwn (model X.prog X.w) X.A X.env xe → PSs (X.tr pn xe) body (RS P W f)) :
    PS X (.Try body [.ExceptHandler (some (.Name "RowError" np)) (some "e") [.Return (some (.Call (.Name "_law_which" q) [.Name "e" p] [] pos2)) pos3] pos'] [] [] pos) (RS P W (sTry i l f)) := by
  refine PS.mono (L2N.ps_try_as (c := .ref R) (ts := fun a cls d => tRet (tWh P.Γ C R i a cls d)) hs hf hN hi hln ⟨gR, rfl, .inl (by rw [hmg]; exact T.gR)⟩ tk hb fun a oe cls d pn hz hv => pss_one (ps_ret (pe_which F hK hmg hr hi hln gW hz hv))) ?_
  rintro E σ H ⟨w, s, S, h⟩
  refine ⟨w, s, S, ?_⟩
  unfold sTry at h
  cases hfs : f s with
  | bad => rw [hfs] at h; exact h
  | ok fl s1 =>
    rw [hfs] at h
    cases fl <;> exact h
  | exc c s1 =>
    rw [hfs] at h
    obtain ⟨j, hj, h⟩ := AtS.onO h
    obtain ⟨few, h⟩ := AtS.gd h
    obtain ⟨mem, nm⟩ := tab_spec hj
    intro w' σ' H' A S' C' eC
    rw [← nm, T.at (hW j mem).lt] at eC
    cases eC
    have len : i < σ'.length := by rw [S'.len]; exact of_decide_eq_true few
    refine ⟨true, by rw [hK]; exact (hW j mem).ex, fun _ a ha => ⟨j, hW j mem, rfl, rfl, List.getElem?_set_self len, fun H2 q k _ hq => ?_⟩, fun z => nomatch z⟩
    exact h w' σ' H2 (.ref q) (A.trans (Adv.toS (ext_adv k))) (S'.more k) (.tup hq (.cons (.str _) (.cons (.int _) .nil)))
theorem mn_sTry (h : Mn f) : Mn (sTry i l f) := fun ns t s hb => by
  have q := h ns t s hb
  show Le ns t (match f s with | .exc c s1 => _ | .ok fl s1 => _ | .bad => _) (match f (s.up ns t) with | .exc c s1 => _ | .ok fl s1 => _ | .bad => _)
  cases e : f s with
  | bad => trivial
  | ok fl s1 =>
    rw [e] at q
    rw [q.2]
    exact ⟨q.1, rfl⟩
  | exc c s1 =>
    rw [e] at q
    rw [q.2]
    exact Le.onO fun j => Le.gd ⟨q.1, rfl⟩
end

/-! ### a def out of a list -/
def fnAt (tbl : List (Str × (List D → GS → FOut))) : Lv → Option (List D → GS → FOut)
  | .d (.gl x) => tbl.lookup x
  | _ => none
def eCallV (tbl : List (Str × (List D → GS → FOut))) (ff : LS → Out Lv) (ga : LS → Out (List Lv)) : LS → Out Lv := fun s => (ff s).bind fun y s0 => onO (fnAt tbl y) fun m => (ga s0).bind fun xs s1 => onO (borrows s1 xs) fun ds => called (allD xs) s1 (m ds s1.g)
theorem lookup_mem {β : Type} {x : Str} {b : β} : ∀ {l : List (Str × β)}, l.lookup x = some b → (x, b) ∈ l
  | [], h => nomatch h
  | (y, c) :: r, h => by
    rw [List.lookup_cons] at h
    split at h
    · rename_i e
      cases h
      rw [beq_iff_eq.mp e]
      exact List.mem_cons_self
    · exact List.mem_cons_of_mem _ (lookup_mem h)
section
variable {X : Cx} {P : Gh} {W : WX} {fo fi e : Expr} {es : List Expr} {ff : LS → Out Lv} {ga : LS → Out (List Lv)} {pos p : Pos} {k : Nat} {x : Str}
theorem de_gl {f : Addr} (hg : Gl X x) (hmg : X.mg = P.Γ.mg) (hm : P.Γ.mg x = some (.ref f)) (hd : (x == ("__debug__" : Str)) = false := by decide) : PE X (.Name x p) (RE P W (eC (.gl x))) :=
  de_c (pe_glob (v := .ref f) hg (by rw [hmg]; exact hm) rfl hd) fun _ _ _ => .gl hm
theorem de_glT {m : List D → GS → FOut} {Pg : Program} {wd : World} {base : Heap} (F : FnT Pg wd base P.Γ k x m) (hg : Gl X x) (hmg : X.mg = P.Γ.mg) (hd : (x == ("__debug__" : Str)) = false := by decide) : PE X (.Name x p) (RE P W (eC (.gl x))) := by
  obtain ⟨f, _, _, hm, _⟩ := F.ex
  exact de_gl hg hmg hm hd
theorem de_callV {tbl : List (Str × (List D → GS → FOut))} (hT : ∀ x m, (x, m) ∈ tbl → FnT X.prog X.w X.base P.Γ k x m) (hK : X.K = P.Γ.K) (hmg : X.mg = P.Γ.mg) (hr : Room k X.A) (tk : L2N.Takes X W) (hf : PE X (.Subscript fo fi p) (RE P W ff)) (ha : PA X (e :: es) (RA P W ga))
    (he : starEach (e :: es) X.env = (false, eval e X.env) :: starEach es X.env := by rfl) (hpl : (backTo pos (starEach es X.env)).any (·.1) = false := by rfl) : PE X (.Call (.Subscript fo fi p) (e :: es) [] pos) (RE P W (eCallV tbl ff ga)) where
  run := fun pins s σ H Q I ⟨w, st, S, h⟩ => by
    refine Call_ (thn (hf.run pins s σ H _ I ⟨w, st, S, At.first (relX := relE P) h⟩) ?_) rfl
    rintro u s1 ⟨v, H1, I1, rv, w1, st1, y, S1, r1, a1, h1⟩
    obtain ⟨m, hm, h9⟩ := At.onO h1
    cases y with
    | own k => simp only [fnAt] at hm; cases hm
    | d z =>
      cases z <;> simp only [fnAt] at hm <;> try cases hm
      rename_i x
      obtain ⟨f, fd, ps, hg, hk, hb, F⟩ := (hT x m (lookup_mem hm)).ex
      rw [← hK, ← hmg] at F
      rw [← hK] at hk hb
      cases r1 with
      | gl hg2 =>
        rw [hg] at hg2
        cases hg2
        cases rv
        refine PySem.W.callWith_K (h₀ := X.base) I.ok.mod.kin hk (thn (ha.run pos pins s1 σ H1 _ I1 ⟨w1, st1, S1, At.first (relX := relA P) h9⟩) ?_) he hpl
        rintro us s2 ⟨vs, H2, I2, r, w2, st2, xs, S2, r2, a2, h2⟩
        obtain ⟨ds, hd, h2⟩ := At.onO h2
        exact ⟨I2.kIn, run_fnS F hr hb (L2N.passAt tk σ) I2 r (call_at S2 r2 hd h2)⟩
theorem mn_eCallV {tbl : List (Str × (List D → GS → FOut))} (h : ∀ x m, (x, m) ∈ tbl → MnF m) (p : Mn ff) (q : Mn ga) : Mn (eCallV tbl ff ga) := fun ns t s hb => (p ns t s hb).bind fun y s0 h0 => by
  cases e : fnAt tbl y with
  | none => trivial
  | some m =>
    have mm : MnF m := by
      cases y with
      | own k => simp only [fnAt] at e; cases e
      | d z => cases z <;> simp only [fnAt] at e <;> first | cases e | exact h _ m (lookup_mem e)
    refine (q ns t s0 h0).bind fun xs s1 h1 => ?_
    rw [borrows_up]
    refine Le.onO fun ds => ?_
    have z := mm ns t ds s1.g h1
    show Le ns t (called (allD xs) s1 (m ds s1.g)) (called (allD xs) (s1.up ns t) (m ds (s1.g.up ns t)))
    cases em : m ds s1.g with
    | bad => trivial
    | ok d g =>
      rw [em] at z
      rw [z.2]
      exact Le.gd ⟨z.1, rfl⟩
    | exc c g =>
      rw [em] at z
      rw [z.2]
      exact ⟨z.1, rfl⟩
end
section
variable {Pg : Program} {wd : World} {base : Heap} {Γ : Gm} {j k : Nat} {x : Str} {m : List D → GS → FOut} {tbl : List (Str × (List D → GS → FOut))}
theorem FnT.up (F : FnT Pg wd base Γ j x m) (h : j ≤ k) : FnT Pg wd base Γ k x m := by
  obtain ⟨f, fd, ps, h1, h2, h3, h4⟩ := F.ex
  exact ⟨f, fd, ps, h1, h2, h3, h4.mono h⟩
theorem tbl_nil : ∀ y n, (y, n) ∈ ([] : List (Str × (List D → GS → FOut))) → FnT Pg wd base Γ k y n := fun _ _ h => nomatch h
theorem tbl_cons (F : FnT Pg wd base Γ j x m) (h : j ≤ k) (r : ∀ y n, (y, n) ∈ tbl → FnT Pg wd base Γ k y n) : ∀ y n, (y, n) ∈ (x, m) :: tbl → FnT Pg wd base Γ k y n := fun y n q => by
  obtain e | q := List.mem_cons.mp q
  · cases e
    exact F.up h
  · exact r y n q
theorem mnt_nil : ∀ y n, (y, n) ∈ ([] : List (Str × (List D → GS → FOut))) → MnF n := fun _ _ h => nomatch h
theorem mnt_cons (F : MnF m) (r : ∀ y n, (y, n) ∈ tbl → MnF n) : ∀ y n, (y, n) ∈ (x, m) :: tbl → MnF n := fun y n q => by
  obtain e | q := List.mem_cons.mp q
  · cases e
    exact F
  · exact r y n q
end
end Br

/-! min of a sequence; list.index; a comprehension within a comprehension. -/
namespace Br
open PySem L2 PySem.Spec PyProof.Rows
/-- a block without free names is fine within any scope -/
theorem blkOk_none {N : List Str} {sc scope : Scope} {own : List (Str × Nat)} (h : blkC N { kind := .function, names := [], isGenerator := false, isCoroutine := false } scope own = true) : BlkOk N sc scope own := by
  have q := blkOk_by h
  exact ⟨q.kind, q.uniq, q.ix, fun y hy e => (q.free y hy e).elim (fun z => by cases z) (fun z => by cases z), q.own⟩
/-! ### min -/
theorem min_fold : ∀ (xs : List Int) (x : Int), PySem.W.minOf x xs ∈ x :: xs ∧ ∀ y ∈ x :: xs, PySem.W.minOf x xs ≤ y
  | [], x => ⟨List.mem_cons_self, fun y h => by rw [List.mem_singleton] at h; subst h; exact Int.le_refl _⟩
  | z :: r, x => by
    have e : PySem.W.minOf x (z :: r) = PySem.W.minOf (if decide (z < x) = true then z else x) r := rfl
    rw [e]
    obtain ⟨h1, h2⟩ := min_fold r (if decide (z < x) = true then z else x)
    by_cases c : z < x
    · simp only [c, decide_true, if_true] at h1 h2 ⊢
      refine ⟨List.mem_cons_of_mem _ h1, fun y hy => ?_⟩
      obtain rfl | hy := List.mem_cons.mp hy
      · exact Int.le_trans (h2 z List.mem_cons_self) (Int.le_of_lt c)
      · exact h2 y hy
    · simp only [c, decide_false, Bool.false_eq_true, if_false] at h1 h2 ⊢
      refine ⟨(List.mem_cons.mp h1).elim (fun q => by rw [q]; exact List.mem_cons_self) fun q => List.mem_cons_of_mem _ (List.mem_cons_of_mem _ q), fun y hy => ?_⟩
      obtain rfl | hy := List.mem_cons.mp hy
      · exact h2 y List.mem_cons_self
      · obtain rfl | hy := List.mem_cons.mp hy
        · exact Int.le_trans (h2 x List.mem_cons_self) (by omega)
        · exact h2 y (List.mem_cons_of_mem _ hy)
theorem min_least (x : Int) (xs : List Int) : PySem.W.minOf x xs = least (x :: xs) := by
  obtain ⟨h1, h2⟩ := min_fold xs x
  exact Int.le_antisymm (h2 _ (least_mem (by simp))) (least_le h1)
section
variable {X : Cx} {P : Gh} {W : WX}
def rMinT (K : PySem.W.Frag) : List V → Hp → VK → Prop := fun vs H Q => ∃ (a : Addr) (ns : List Int), vs = [V.ref a] ∧ SqT K H a (ns.map V.int) ∧ ns ≠ [] ∧ Q (.int (least ns)) H
theorem reads_int {h : Heap} {v : Value} {n : Int} {as : List Addr} (r : Reads h v (.int n) as) : ∃ t, v = .int n t := by
  cases r with
  | int i t => exact ⟨t, rfl⟩
theorem depth_int : PySem.W.Datum.depth Int = 0 := rfl
theorem cr_minT (hc : X.calm = true) (hu : X.A.units + 64 < cLine) : CallR X (.builtin "min") (rMinT X.K) := by
  intro pins s σ H vs us Q I args asked
  obtain ⟨a, ns, rfl, sq, ne, q⟩ := asked
  obtain ⟨its, rv, tp, _⟩ := I.tuple sq
  rw [Vals.ref1 args]
  obtain ⟨as, ra⟩ := Dp.readsAll I _ _ its (dp_ints ns) rv
  cases ns with
  | nil => exact absurd rfl ne
  | cons x xs =>
    have hold : PySem.W.HoldAll s.heap its.toArray.toList (x :: xs) := ⟨as, ra⟩
    have room : X.A.units + 1 + PySem.W.Datum.depth Int < cLine := by rw [depth_int]; omega
    refine PySem.W.min_tuple_datum (I.ok.hd hc) tp hold room ?_
    intro i v h' tk _ hold k
    obtain ⟨bs, rd⟩ := hold
    obtain ⟨t, rfl⟩ := reads_int rd
    rw [min_least]
    exact ⟨.int _, H, I.kept k, ⟨t, rfl⟩, q⟩
def sMin : D → LS → Out Lv
  | .tup ds, s => onO (intsD ds) fun ns => gd (decide (ns ≠ [])) (okD (.int (least ns)) s)
  | _, _ => .bad
theorem cs_min {K : PySem.W.Frag} : CallS P W (rMinT K) (arg1 sMin) := cs_arg1 (by
  intro w σ H s v d Q S hd h
  cases d <;> first | exact h.elim | skip
  obtain ⟨a, xs, rfl, ha, ra⟩ := hd
  obtain ⟨ns, hn, h⟩ := At.onO h
  obtain ⟨c, h⟩ := At.gd h
  rw [intsD_eq hn] at ra
  cases ra.ints_inv
  exact ⟨a, ns, rfl, SqT.of ha, of_decide_eq_true c, give h S (.int _)⟩)
theorem mn_sMin : MnU sMin := fun d ns t s h => by
  cases d <;> first | trivial | exact Le.onO fun _ => Le.gd ⟨h, rfl⟩
/-! ### xs.index(y) -/
def isLst : D → Bool
  | .lst _ => true
  | _ => false
/-- o.m(e), o a list -/
def eMl (sem : D → D → LS → Out Lv) (fo fa : LS → Out Lv) : LS → Out Lv := fun s => (fo s).bind fun x s1 => onO (borrow s1 x) fun d => gd (isLst d) ((fa s1).bind fun y s2 => onO (borrow s2 x) fun d => onO (borrow s2 y) fun e => sem d e s2)
def sIndex : D → D → LS → Out Lv
  | .lst ds, e, s => onO (flat e) fun v => onO (flats ds) fun vs => onO (vs.findIdx? fun z => eqV z v) fun j => okD (.int (j : Nat)) s
  | _, _, _ => .bad
theorem os_index : OpS P W (fun x y H Q => rIndex P.Γ.K x [y] H Q) sIndex := by
  intro w σ H s v u d e Q S hd he h
  cases d <;> first | exact h.elim | skip
  rename_i ds
  have h : At P W (relE P) w s σ H Q (onO (flat e) fun v => onO (flats ds) fun vs => onO (vs.findIdx? fun z => eqV z v) fun j => okD (.int (j : Nat)) s) := h
  obtain ⟨a, xs, rfl, h1, h2⟩ := hd
  obtain ⟨v', hv, h⟩ := At.onO h
  obtain ⟨vs, hvs, h⟩ := At.onO h
  obtain ⟨rfl, f⟩ := flat_rep he hv
  obtain ⟨rfl, g⟩ := flats_rep h2 hvs
  obtain ⟨j, hj, h9⟩ := At.onO h
  obtain ⟨hl, hit, miss⟩ := List.findIdx?_eq_some_iff_getElem.mp hj
  refine ⟨a, xs, u, j, xs[j], rfl, rfl, SqL.of h1, f, g, List.getElem?_eq_getElem hl, hit, fun m z hm ez => ?_, give h9 S (.int _)⟩
  obtain ⟨hl2, e2⟩ := List.getElem?_eq_some_iff.mp ez
  have := miss m hm
  rw [e2] at this
  simpa using this
theorem de_ml {o e : Expr} {fo fa : LS → Out Lv} {name : Str} {id : String} {r : V → List V → Hp → VK → Prop} {sem : D → D → LS → Out Lv} {apos cpos : Pos} (hs : OpS P W (fun x y H Q => r x [y] H Q) sem) (slot : Slot "list" name id) (hty : typeOf (.builtin id) = pure (.type "method_descriptor")) (hm : MtR X id r) (hK : X.K = P.Γ.K)
    (ho : PE X o (RE P W fo)) (ha : PE X e (RE P W fa)) (hbase : attributeBase o name X.env (eval o X.env) = eval o X.env := by rfl)
    (hfew : ((backTo cpos (starEach [e] X.env)).all (fun x => !x.1) && (backToKw cpos (keywordEach [] X.env)).all (fun x => x.1.isSome) && decide ([e].length + ([] : List Keyword).length + (if ([] : List Keyword).isEmpty then 0 else 1) < 30)) = true := by rfl)
    (hline : (apos.endLine == cpos.line) = true := by rfl) (hst : starEach [e] X.env = (false, eval e X.env) :: starEach [] X.env := by rfl) (hplain : (backTo cpos (starEach [] X.env)).any (·.1) = false := by rfl) :
    PE X (.Call (.Attribute o name apos) [e] [] cpos) (RE P W (eMl sem fo fa)) :=
  PE.mono (pe_bm PySem.F.plainAttrs_list slot hty hm ho (pa_cons ha pa_nil hst) hbase hfew hline hst hplain) fun σ H Q ⟨w, s, S, h⟩ => by
    refine ⟨w, s, S, (At.first (relX := relE P) h).imp ?_⟩
    rintro v H1 ⟨w1, s1, x, S1, r1, a1, h1⟩
    obtain ⟨d, hd, h1⟩ := At.onO h1
    obtain ⟨c, h1⟩ := At.gd h1
    have b1 := borrowed S1 r1 hd
    cases d <;> simp only [isLst] at c <;> try cases c
    obtain ⟨a, xs, rfl, ea, _⟩ := b1
    refine ⟨.inl ⟨rfl, _, SqL.of ea⟩, w1, s1, S1, (At.first (relX := relE P) h1).imp ?_⟩
    rintro u H2 ⟨w2, s2, y, S2, r2, a2, h2⟩
    obtain ⟨d, hx, h2⟩ := At.onO h2
    obtain ⟨e, hy, h2⟩ := At.onO h2
    exact hs w2 σ H2 s2 _ u d e Q S2 (borrowed S2 (RepL.adv a2 r1) hx) (borrowed S2 r2 hy) h2
theorem mn_eMl {sem : D → D → LS → Out Lv} {fo fa : LS → Out Lv} (b : MnB sem) (p : Mn fo) (q : Mn fa) : Mn (eMl sem fo fa) := fun ns t s h => (p ns t s h).bind fun x s1 h1 => Le.onO fun d => Le.gd ((q ns t s1 h1).bind fun y s2 h2 => Le.onO fun d => Le.onO fun e => b d e ns t s2 h2)
theorem mn_sIndex : MnB sIndex := fun d e ns t s h => by
  cases d <;> first | trivial | exact Le.onO fun _ => Le.onO fun _ => Le.onO fun _ => ⟨h, rfl⟩
end
end Br

/-! The same answers by a shorter way: what the fractions' defs give, said plainly, for kernel runs. -/
namespace Br
open PySem L2
/-- F's answer where it has one -/
def fastF (F : List D → Option D) (m : List D → GS → FOut) : List D → GS → FOut := fun ds g => match F ds with
  | some d => .ok d g
  | none => m ds g
theorem fastF_eq {F : List D → Option D} {m : List D → GS → FOut} (h : ∀ ds d g, F ds = some d → m ds g = .ok d g) : fastF F m = m := by
  funext ds g
  unfold fastF
  cases e : F ds with
  | none => rfl
  | some d => exact (h ds d g e).symm
theorem fdiv_ok {i j : Int} {s : LS} (h : 0 < j ∧ j < 18446744073709551616) : sFdiv (.int i) (.int j) s = okD (.int (i / j)) s := by
  show gd (decide (0 < j) && decide (j < 18446744073709551616)) (okD (.int (i / j)) s) = _
  rw [decide_eq_true h.1, decide_eq_true h.2]
  rfl
theorem aCons_d {f : LS → Out Lv} {ga : LS → Out (List Lv)} {x : Lv} {xs : List Lv} {s s1 s2 : LS} (h1 : f s = .ok x s1) (h2 : ga s1 = .ok xs s2) : aCons f ga s = .ok (x :: xs) s2 := by
  unfold aCons
  rw [h1]
  show Out.bind (ga s1) _ = _
  rw [h2]
  rfl
theorem aNil_d {s : LS} : aNil s = .ok [] s := rfl
theorem eCall_d {m : List D → GS → FOut} {ga : LS → Out (List Lv)} {xs : List Lv} {ds : List D} {d : D} {s s1 : LS} {g' : GS} (h1 : ga s = .ok xs s1) (h2 : borrows s1 xs = some ds) (h3 : m ds s1.g = .ok d g') (hp : allD xs = true) : eCall m ga s = okD d { s1 with g := g' } := by
  unfold eCall
  rw [h1]
  show onO (borrows s1 xs) _ = _
  rw [h2]
  show called (allD xs) s1 (m ds s1.g) = _
  rw [h3, hp]
  rfl
theorem eTup2 {f h : LS → Out Lv} {d e : D} {s : LS} (h1 : f s = okD d s) (h2 : h s = okD e s) : eTup (aCons f (aCons h aNil)) s = okD (.tup [d, e]) s := by
  unfold eTup
  rw [aCons_d h1 (aCons_d h2 aNil_d)]
  rfl
/-! ### the greatest common divisor -/
theorem wh_gcd {ft : LS → Out Bool} {fb : LS → Out Fl} (S : Int → Int → LS) (ht : ∀ a b, ft (S a b) = .ok (decide (0 < b)) (S a b)) (hb : ∀ a b, 0 < b → fb (S a b) = .ok .nx (S b (a % b))) :
    ∀ (k A B n : Nat), B < 2 ^ k → 2 * k + 1 ≤ n → whL ft fb n (S A B) = .ok .nx (S (Nat.gcd A B) 0) := by
  have stop : ∀ (A m : Nat), whL ft fb (m + 1) (S A (0 : Nat)) = .ok .nx (S A 0) := fun A m => by
    show (ft (S A (0 : Nat))).bind _ = _
    rw [ht]
    rfl
  have step : ∀ (A B m : Nat), 0 < B → whL ft fb (m + 1) (S A B) = whL ft fb m (S B ((A % B : Nat) : Int)) := fun A B m h => by
    show (ft (S A B)).bind _ = _
    rw [ht, decide_eq_true (by omega : (0 : Int) < (B : Int))]
    show (fb (S A B)).bind _ = _
    rw [hb _ _ (by omega)]
    rfl
  intro k
  induction k with
  | zero =>
    intro A B n hB hn
    obtain ⟨m, rfl⟩ : ∃ m, n = m + 1 := Nat.exists_eq_add_of_le' (by omega : 1 ≤ n)
    have : B = 0 := by simpa using hB
    subst this
    rw [stop, Nat.gcd_zero_right]
  | succ k ih =>
    intro A B n hB hn
    obtain ⟨m, rfl⟩ : ∃ m, n = m + 1 + 1 + 1 := ⟨n - 3, by omega⟩
    by_cases h0 : B = 0
    · subst h0
      rw [stop, Nat.gcd_zero_right]
    · rw [step A B _ (by omega)]
      have e1 : Nat.gcd A B = Nat.gcd B (A % B) := by rw [Nat.gcd_comm A B, Nat.gcd_rec B A, Nat.gcd_comm]
      rw [e1]
      by_cases h1 : A % B = 0
      · rw [h1, stop, Nat.gcd_zero_right]
      · rw [step B (A % B) _ (by omega)]
        have lt1 : A % B < B := Nat.mod_lt _ (by omega)
        have lt2 : B % (A % B) < A % B := Nat.mod_lt _ (by omega)
        have sum : B % (A % B) + A % B ≤ B := by
          have h2 := Nat.mod_add_div B (A % B)
          have h3 : 0 < B / (A % B) := Nat.div_pos (by omega) (by omega)
          have h4 : A % B ≤ A % B * (B / (A % B)) := Nat.le_mul_of_pos_right _ h3
          omega
        have e2 : Nat.gcd B (A % B) = Nat.gcd (A % B) (B % (A % B)) := by rw [Nat.gcd_comm B, Nat.gcd_rec (A % B) B, Nat.gcd_comm]
        rw [e2]
        exact ih _ _ _ (by rw [Nat.pow_succ] at hB; omega) (by omega)
def dDiv : LS → Out Fl := (sSeq (whL (tV (eOp sGt (eVar 1) (eC (.int 0)))) (sPar2 0 1 (aCons (eVar 1) (aCons (eOp sMod (eVar 0) (eVar 1)) aNil))) 10000)
  (sRet (eVar 0)))
def mDiv : List D → GS → FOut := runF 2 2 dDiv
theorem div_ok (A B : Nat) (g : GS) (h : B < 2 ^ 1000) : mDiv [.int A, .int B] g = .ok (.int (Nat.gcd A B : Nat)) g := by
  let S : Int → Int → LS := fun a b => ⟨[some (.d (.int a)), some (.d (.int b))], [], g⟩
  show fin (dDiv (S A B)) = _
  unfold dDiv
  have hb : ∀ a b, 0 < b → sPar2 0 1 (aCons (eVar 1) (aCons (eOp sMod (eVar 0) (eVar 1)) aNil)) (S a b) = .ok .nx (S b (a % b)) := fun a b h => by
    have v : eVar 1 (S a b) = .ok (.d (.int b)) (S a b) := rfl
    have e : eOp sMod (eVar 0) (eVar 1) (S a b) = okD (.int (a % b)) (S a b) := (eOp_d (d := .int a) (e := .int b) rfl rfl).trans (mod_pos h)
    unfold sPar2
    rw [aCons_d v (aCons_d e aNil_d)]
    rfl
  rw [sSeq_nx (wh_gcd S (fun a b => rfl) hb 1000 A B 10000 h (by decide))]
  rfl
def fDiv : List D → Option D
  | [.int (.ofNat A), .int (.ofNat B)] => if B < 2 ^ 1000 then some (.int (Nat.gcd A B : Nat)) else none
  | _ => none
theorem ok_div : ∀ ds d g, fDiv ds = some d → mDiv ds g = .ok d g := by
  intro ds d g h
  unfold fDiv at h
  split at h
  · split at h
    · rename_i A B c
      cases h
      exact div_ok A B g c
    · cases h
  · cases h
/-! ### lowest terms -/
def low (t : Int) (B : Nat) : Option D := if 0 < B ∧ B < 2 ^ 1000 ∧ Nat.gcd t.natAbs B < 18446744073709551616 then some (.tup [.int (t / (Nat.gcd t.natAbs B : Nat)), .int ((B : Int) / (Nat.gcd t.natAbs B : Nat))]) else none
theorem low_some {t : Int} {B : Nat} {d : D} (h : low t B = some d) : (0 < B ∧ B < 2 ^ 1000 ∧ Nat.gcd t.natAbs B < 18446744073709551616) ∧ d = .tup [.int (t / (Nat.gcd t.natAbs B : Nat)), .int ((B : Int) / (Nat.gcd t.natAbs B : Nat))] := by
  unfold low at h
  split at h
  · rename_i c
    cases h
    exact ⟨c, rfl⟩
  · cases h
theorem abs_max (t : Int) : (if (0 - t) > t then (0 - t) else t) = (t.natAbs : Int) := by split <;> omega
def dLow : LS → Out Fl := (sSeq (sSet 2 (eCall mDiv (aCons (eB (arg2 sMax2) (aCons (eVar 0) (aCons (eOp sSub (eC (.int 0)) (eVar 0)) aNil))) (aCons (eVar 1) aNil))))
  (sRet (eTup (aCons (eOp sFdiv (eVar 0) (eVar 2)) (aCons (eOp sFdiv (eVar 1) (eVar 2)) aNil)))))
def mLow : List D → GS → FOut := runF 2 3 dLow
theorem low_ok {t : Int} {B : Nat} {d : D} {g : GS} (h : low t B = some d) : mLow [.int t, .int B] g = .ok d g := by
  obtain ⟨⟨h0, h1, h2⟩, rfl⟩ := low_some h
  let S : Option Lv → LS := fun o => ⟨[some (.d (.int t)), some (.d (.int B)), o], [], g⟩
  show fin (dLow (S none)) = _
  unfold dLow
  have pos : 0 < Nat.gcd t.natAbs B := Nat.gcd_pos_of_pos_right _ h0
  have e1 : eCall mDiv (aCons (eB (arg2 sMax2) (aCons (eVar 0) (aCons (eOp sSub (eC (.int 0)) (eVar 0)) aNil))) (aCons (eVar 1) aNil)) (S none) = okD (.int (Nat.gcd t.natAbs B : Nat)) (S none) := by
    show called true (S none) (mDiv [.int (if (0 - t) > t then (0 - t) else t), .int B] g) = _
    rw [abs_max, div_ok _ _ _ h1]
    rfl
  rw [sSeq_nx (sSet_d e1)]
  show fin (sRet _ (S (some (.d (.int (Nat.gcd t.natAbs B : Nat)))))) = _
  have gd : (0 : Int) < (Nat.gcd t.natAbs B : Nat) ∧ ((Nat.gcd t.natAbs B : Nat) : Int) < 18446744073709551616 := by omega
  have e2 : eOp sFdiv (eVar 0) (eVar 2) (S (some (.d (.int (Nat.gcd t.natAbs B : Nat))))) = okD (.int (t / (Nat.gcd t.natAbs B : Nat))) (S (some (.d (.int (Nat.gcd t.natAbs B : Nat))))) := (eOp_d (d := .int t) (e := .int (Nat.gcd t.natAbs B : Nat)) rfl rfl).trans (fdiv_ok gd)
  have e3 : eOp sFdiv (eVar 1) (eVar 2) (S (some (.d (.int (Nat.gcd t.natAbs B : Nat))))) = okD (.int ((B : Int) / (Nat.gcd t.natAbs B : Nat))) (S (some (.d (.int (Nat.gcd t.natAbs B : Nat))))) := (eOp_d (d := .int B) (e := .int (Nat.gcd t.natAbs B : Nat)) rfl rfl).trans (fdiv_ok gd)
  rw [sRet_d (eTup2 e2 e3)]
  rfl
def fLow : List D → Option D
  | [.int t, .int (.ofNat B)] => low t B
  | _ => none
theorem ok_low : ∀ ds d g, fLow ds = some d → mLow ds g = .ok d g := by
  intro ds d g h
  unfold fLow at h
  split at h
  · exact low_ok h
  · cases h
/-! ### sums and products -/
def fits64 (i : Int) : Bool := decide (-(2 ^ 64) < i) && decide (i < 2 ^ 64)
theorem fits64_of {i : Int} (h : fits64 i = true) : -(2 ^ 64) < i ∧ i < 2 ^ 64 := by
  unfold fits64 at h
  rw [Bool.and_eq_true] at h
  exact ⟨of_decide_eq_true h.1, of_decide_eq_true h.2⟩
def dPlus : LS → Out Fl := (sRet (eCall mLow (aCons (eOp sAdd (eOp sMul (eOp sIx (eVar 0) (eC (.int 0))) (eOp sIx (eVar 1) (eC (.int 1)))) (eOp sMul (eOp sIx (eVar 1) (eC (.int 0))) (eOp sIx (eVar 0) (eC (.int 1))))) (aCons (eOp sMul (eOp sIx (eVar 0) (eC (.int 1))) (eOp sIx (eVar 1) (eC (.int 1)))) aNil))))
def mPlus : List D → GS → FOut := runF 2 2 dPlus
def dTimes : LS → Out Fl := (sRet (eCall mLow (aCons (eOp sMul (eOp sIx (eVar 0) (eC (.int 0))) (eOp sIx (eVar 1) (eC (.int 0)))) (aCons (eOp sMul (eOp sIx (eVar 0) (eC (.int 1))) (eOp sIx (eVar 1) (eC (.int 1)))) aNil))))
def mTimes : List D → GS → FOut := runF 2 2 dTimes
def fPlus : List D → Option D
  | [.tup [.int a, .int (.ofNat b)], .tup [.int c, .int (.ofNat e)]] => if (fits64 a && fits64 b && fits64 c && fits64 e) = true then low (a * e + c * b) (b * e) else none
  | _ => none
def fTimes : List D → Option D
  | [.tup [.int a, .int (.ofNat b)], .tup [.int c, .int (.ofNat e)]] => if (fits64 a && fits64 b && fits64 c && fits64 e) = true then low (a * c) (b * e) else none
  | _ => none
theorem ok_plus : ∀ ds d g, fPlus ds = some d → mPlus ds g = .ok d g := by
  intro ds d g h
  unfold fPlus at h
  split at h
  · rename_i a b c e
    split at h
    · rename_i k
      rw [Bool.and_eq_true, Bool.and_eq_true, Bool.and_eq_true] at k
      obtain ⟨⟨⟨ka, kb⟩, kc⟩, ke⟩ := k
      let S : LS := ⟨[some (.d (.tup [.int a, .int b])), some (.d (.tup [.int c, .int e]))], [], g⟩
      show fin (dPlus S) = _
      unfold dPlus
      have x0 : eOp sIx (eVar 0) (eC (.int 0)) S = okD (.int a) S := rfl
      have x1 : eOp sIx (eVar 0) (eC (.int 1)) S = okD (.int b) S := rfl
      have y0 : eOp sIx (eVar 1) (eC (.int 0)) S = okD (.int c) S := rfl
      have y1 : eOp sIx (eVar 1) (eC (.int 1)) S = okD (.int e) S := rfl
      have m1 := (eOp_d (sem := sMul) x0 y1).trans (mul_l (fits64_of ka))
      have m2 := (eOp_d (sem := sMul) y0 x1).trans (mul_l (fits64_of kc))
      have m3 := (eOp_d (sem := sMul) x1 y1).trans (mul_l (fits64_of kb))
      have m4 : eOp sAdd _ _ S = okD (.int (a * e + c * b)) S := eOp_d m1 m2
      have e5 := eCall_d (m := mLow) (d := d) (g' := g) (aCons_d m4 (aCons_d m3 aNil_d)) rfl (by
        show mLow [.int (a * e + c * b), .int ((b : Int) * e)] g = _
        have := low_ok (g := g) h
        rw [Int.natCast_mul] at this
        exact this) rfl
      rw [sRet_d e5]
      rfl
    · cases h
  · cases h
theorem ok_times : ∀ ds d g, fTimes ds = some d → mTimes ds g = .ok d g := by
  intro ds d g h
  unfold fTimes at h
  split at h
  · rename_i a b c e
    split at h
    · rename_i k
      rw [Bool.and_eq_true, Bool.and_eq_true, Bool.and_eq_true] at k
      obtain ⟨⟨⟨ka, kb⟩, kc⟩, ke⟩ := k
      let S : LS := ⟨[some (.d (.tup [.int a, .int b])), some (.d (.tup [.int c, .int e]))], [], g⟩
      show fin (dTimes S) = _
      unfold dTimes
      have x0 : eOp sIx (eVar 0) (eC (.int 0)) S = okD (.int a) S := rfl
      have x1 : eOp sIx (eVar 0) (eC (.int 1)) S = okD (.int b) S := rfl
      have y0 : eOp sIx (eVar 1) (eC (.int 0)) S = okD (.int c) S := rfl
      have y1 : eOp sIx (eVar 1) (eC (.int 1)) S = okD (.int e) S := rfl
      have m1 := (eOp_d (sem := sMul) x0 y0).trans (mul_l (fits64_of ka))
      have m3 := (eOp_d (sem := sMul) x1 y1).trans (mul_l (fits64_of kb))
      have e5 := eCall_d (m := mLow) (d := d) (g' := g) (aCons_d m1 (aCons_d m3 aNil_d)) rfl (by
        show mLow [.int (a * c), .int ((b : Int) * e)] g = _
        have := low_ok (g := g) h
        rw [Int.natCast_mul] at this
        exact this) rfl
      rw [sRet_d e5]
      rfl
    · cases h
  · cases h
/-! ### the law's own -/
def dPart : LS → Out Fl := (sSeq (sPar2 2 3 (aCons (eB (arg2 sMax2) (aCons (eVar 0) (aCons (eOp sSub (eC (.int 0)) (eVar 0)) aNil))) (aCons (eVar 1) aNil)))
  (sSeq (whL (tV (eOp sGt (eVar 3) (eC (.int 0)))) (sPar2 2 3 (aCons (eVar 3) (aCons (eOp sMod (eVar 2) (eVar 3)) aNil))) 10000)
  (sRet (eTup (aCons (eOp sFdiv (eVar 0) (eVar 2)) (aCons (eOp sFdiv (eVar 1) (eVar 2)) aNil))))))
def mPart : List D → GS → FOut := runF 2 4 dPart
theorem part_ok {t : Int} {B : Nat} {d : D} {g : GS} (h : low t B = some d) : mPart [.int t, .int B] g = .ok d g := by
  obtain ⟨⟨h0, h1, h2⟩, rfl⟩ := low_some h
  let S : Int → Int → LS := fun a b => ⟨[some (.d (.int t)), some (.d (.int B)), some (.d (.int a)), some (.d (.int b))], [], g⟩
  show fin (dPart ⟨[some (.d (.int t)), some (.d (.int B)), none, none], [], g⟩) = _
  unfold dPart
  have pos : 0 < Nat.gcd t.natAbs B := Nat.gcd_pos_of_pos_right _ h0
  have e0 : sPar2 2 3 (aCons (eB (arg2 sMax2) (aCons (eVar 0) (aCons (eOp sSub (eC (.int 0)) (eVar 0)) aNil))) (aCons (eVar 1) aNil)) ⟨[some (.d (.int t)), some (.d (.int B)), none, none], [], g⟩ = .ok .nx (S t.natAbs B) := by
    show Out.ok Fl.nx (S (if (0 - t) > t then (0 - t) else t) B) = _
    rw [abs_max]
  rw [sSeq_nx e0]
  have hb : ∀ a b, 0 < b → sPar2 2 3 (aCons (eVar 3) (aCons (eOp sMod (eVar 2) (eVar 3)) aNil)) (S a b) = .ok .nx (S b (a % b)) := fun a b h => by
    have v : eVar 3 (S a b) = .ok (.d (.int b)) (S a b) := rfl
    have e : eOp sMod (eVar 2) (eVar 3) (S a b) = okD (.int (a % b)) (S a b) := (eOp_d (d := .int a) (e := .int b) rfl rfl).trans (mod_pos h)
    unfold sPar2
    rw [aCons_d v (aCons_d e aNil_d)]
    rfl
  rw [sSeq_nx (wh_gcd S (fun a b => rfl) hb 1000 t.natAbs B 10000 h1 (by decide))]
  have gd : (0 : Int) < (Nat.gcd t.natAbs B : Nat) ∧ ((Nat.gcd t.natAbs B : Nat) : Int) < 18446744073709551616 := by omega
  have e2 : eOp sFdiv (eVar 0) (eVar 2) (S (Nat.gcd t.natAbs B : Nat) 0) = okD (.int (t / (Nat.gcd t.natAbs B : Nat))) (S (Nat.gcd t.natAbs B : Nat) 0) := (eOp_d (d := .int t) (e := .int (Nat.gcd t.natAbs B : Nat)) rfl rfl).trans (fdiv_ok gd)
  have e3 : eOp sFdiv (eVar 1) (eVar 2) (S (Nat.gcd t.natAbs B : Nat) 0) = okD (.int ((B : Int) / (Nat.gcd t.natAbs B : Nat))) (S (Nat.gcd t.natAbs B : Nat) 0) := (eOp_d (d := .int B) (e := .int (Nat.gcd t.natAbs B : Nat)) rfl rfl).trans (fdiv_ok gd)
  rw [sRet_d (eTup2 e2 e3)]
  rfl
theorem ok_part : ∀ ds d g, fLow ds = some d → mPart ds g = .ok d g := by
  intro ds d g h
  unfold fLow at h
  split at h
  · exact part_ok h
  · cases h
/-! ### the answers of a draw, one by one -/
theorem chk_drm {f : LS → Out Fl} {j : Nat} {off : Int} {many : LS → Out Lv} {m : Nat} {ps : List Pt} {s s' : LS} (hm : 0 < m) (h1 : at01 s = true) (hs : many s = .ok (.d (.int (m : Nat))) s') (h : ∀ d : Nat, d < m → chk ps { s with loc := s.loc.set j (some (.d (.int (off + (d : Nat))))) } = true) : chk (.dr f j off many :: ps) s = true := by
  simp only [chk]
  rw [hs]
  show (decide ((0 : Int) < (m : Nat)) && at01 s && (List.range (Int.toNat (m : Nat))).all fun d => chk ps { s with loc := s.loc.set j (some (.d (.int (off + (d : Nat))))) }) = true
  rw [h1, decide_eq_true (by omega), Bool.true_and, Bool.true_and, List.all_eq_true]
  intro d hd
  rw [Int.toNat_natCast] at hd
  exact h d (List.mem_range.mp hd)
end Br

/-! Membership of nested data; an own list given away; three targets; xs[i] += e. -/
namespace Br
open PySem L2 PySem.Spec PyProof.Rows
theorem room65 {k : Nat} {A : Around} (r : Room k A) : A.units + 65 < cLine := by
  have := r.un
  omega
section
variable {X : Cx} {P : Gh} {W : WX} {a b c e : Expr} {f fa fb : LS → Out Lv} {ga : LS → Out (List Lv)} {pos : Pos}
/-! ### in, not in -/
def sInD : D → D → LS → Out Lv
  | d, .lst ds, s => onO (toPy d) fun p => onO (toPys ds) fun ps => gd (SeqAt.shaped p && SeqAt.shaped (.list ps)) (okD (.bl (ps.any fun z => PyData.eqv z p)) s)
  | _, _, _ => .bad
def sNotInD : D → D → LS → Out Lv
  | d, .lst ds, s => onO (toPy d) fun p => onO (toPys ds) fun ps => gd (SeqAt.shaped p && SeqAt.shaped (.list ps)) (okD (.bl (!ps.any fun z => PyData.eqv z p)) s)
  | _, _, _ => .bad
theorem toPy_lst {ds : List D} {ps : List PyData} (h : toPys ds = some ps) : toPy (.lst ds) = some (.list ps) := by
  simp only [toPy, h]
  rfl
theorem os_inD : OpS P W (rInD P.Γ.K) sInD := by
  intro w σ H s v u d e Q S hd he h
  cases e with
  | lst ds =>
    have h : At P W (relE P) w s σ H Q (onO (toPy d) fun p => onO (toPys ds) fun ps => gd (SeqAt.shaped p && SeqAt.shaped (.list ps)) (okD (.bl (ps.any fun z => PyData.eqv z p)) s)) := by cases d <;> exact h
    obtain ⟨p, hp, h⟩ := At.onO h
    obtain ⟨ps, hps, h⟩ := At.onO h
    obtain ⟨c, h⟩ := At.gd h
    rw [Bool.and_eq_true] at c
    exact ⟨p, ps, toPyC hd hp, toPyC he (toPy_lst hps), c.1, c.2, give h S (.bl _)⟩
  | _ => cases d <;> exact h.elim
theorem os_notInD : OpS P W (rNotInD P.Γ.K) sNotInD := by
  intro w σ H s v u d e Q S hd he h
  cases e with
  | lst ds =>
    have h : At P W (relE P) w s σ H Q (onO (toPy d) fun p => onO (toPys ds) fun ps => gd (SeqAt.shaped p && SeqAt.shaped (.list ps)) (okD (.bl (!ps.any fun z => PyData.eqv z p)) s)) := by cases d <;> exact h
    obtain ⟨p, hp, h⟩ := At.onO h
    obtain ⟨ps, hps, h⟩ := At.onO h
    obtain ⟨c, h⟩ := At.gd h
    rw [Bool.and_eq_true] at c
    exact ⟨p, ps, toPyC hd hp, toPyC he (toPy_lst hps), c.1, c.2, give h S (.bl _)⟩
  | _ => cases d <;> exact h.elim
theorem mn_sInD : MnB sInD := fun d e ns t s h => by
  cases e with
  | lst ds =>
    have key : ∀ s : LS, sInD d (.lst ds) s = onO (toPy d) fun p => onO (toPys ds) fun ps => gd (SeqAt.shaped p && SeqAt.shaped (.list ps)) (okD (.bl (ps.any fun z => PyData.eqv z p)) s) := fun s => by cases d <;> rfl
    rw [key, key]
    exact Le.onO fun _ => Le.onO fun _ => Le.gd (Le.okk h)
  | _ => cases d <;> trivial
theorem mn_sNotInD : MnB sNotInD := fun d e ns t s h => by
  cases e with
  | lst ds =>
    have key : ∀ s : LS, sNotInD d (.lst ds) s = onO (toPy d) fun p => onO (toPys ds) fun ps => gd (SeqAt.shaped p && SeqAt.shaped (.list ps)) (okD (.bl (!ps.any fun z => PyData.eqv z p)) s) := fun s => by cases d <;> rfl
    rw [key, key]
    exact Le.onO fun _ => Le.onO fun _ => Le.gd (Le.okk h)
  | _ => cases d <;> trivial
/-! ### given away -/
def eFrz (f : LS → Out Lv) : LS → Out Lv := fun s => (f s).bind fun x s1 => (freeze x s1).bind fun d s2 => okD d s2
theorem de_frz (h : PE X e (RE P W f)) : PE X e (RE P W (eFrz f)) := PE.mono h fun σ H Q ⟨w, s, S, q⟩ => by
  refine ⟨w, s, S, (At.first (relX := relE P) q).imp ?_⟩
  rintro v H1 ⟨w1, s1, x, S1, r1, a1, h1⟩
  obtain ⟨d, s2, S2, A2, R2, h2⟩ := At.freeze h1 S1 r1
  exact At.done h2 S2 R2
theorem mn_eFrz (p : Mn f) : Mn (eFrz f) := fun ns t s h => (p ns t s h).bind fun x s1 h1 => (mn_freeze x ns t s1 h1).bind fun d s2 h2 => ⟨h2, rfl⟩
/-! ### three names -/
theorem ds_par3 {i j l : Nat} {x y z : Str} {px py pz pt : Pos} {kt k2 : Nat} {pt2 : Pos} (hc : X.calm = true) (hN : X.N.Nodup) (hi : X.N[i]? = some x) (hj : X.N[j]? = some y) (hl : X.N[l]? = some z) (hij : i ≠ j) (hil : i ≠ l) (hjl : j ≠ l)
    (hx : X.env.scope.names.lookup x = some .local) (hy : X.env.scope.names.lookup y = some .local) (hz : X.env.scope.names.lookup z = some .local) (ha : PA X [a, b, c] (RA P W ga)) (hw : swappedStores [.Tuple [.Name x px, .Name y py, .Name z pz] kt pt] (.Tuple [a, b, c] k2 pt2) X.env = pure (some [x, y, z])) (hs : swapsWithSole [.Tuple [.Name x px, .Name y py, .Name z pz] kt pt] (.Tuple [a, b, c] k2 pt2) pos.line X.env = pure false := by rfl) :
    PS X (.Assign [.Tuple [.Name x px, .Name y py, .Name z pz] kt pt] (.Tuple [a, b, c] k2 pt2) pos) (RS P W (sPar3 i j l ga)) := PS.mono (ps_par3 hc hN hi hj hl hij hil hjl hx hy hz ha hw hs) fun E σ H ⟨w, s, S, h⟩ => by
  refine ⟨w, s, S, (AtS.first (rel := relA P) h).imp ?_⟩
  rintro v H1 ⟨w1, s1, xs, S1, r1, a1, h1⟩
  match xs, r1, h1 with
  | [], _, h1 => exact h1.elim
  | [_], _, h1 => exact h1.elim
  | [_, _], _, h1 => exact h1.elim
  | _ :: _ :: _ :: _ :: _, _, h1 => exact h1.elim
  | [x, y, z], r1, h1 =>
    cases r1 with
    | cons r r1 => cases r1 with
      | cons r' r1 => cases r1 with
        | cons r'' r1 =>
          cases r1
          exact ⟨_, _, _, rfl, h1 _ _ _ Adv.S.refl (((S1.set r).set r').set r'')⟩
/-! ### xs[i] += e -/
def rGetL (K : PySem.W.Frag) : V → V → Hp → VK → Prop := fun o i H Q => ∃ (p : Addr) (xs : List V) (k : Int) (v : V), o = .ref p ∧ i = .int k ∧ SqL K H p xs ∧ 0 ≤ k ∧ xs[k.toNat]? = some v ∧ Q v H
theorem get_list : PGet X (rGetL X.K) := by
  intro pins s σ H o i ov iv Q I ro ri asked
  obtain ⟨p, xs, k, v, rfl, rfl, sq, k0, at_, q⟩ := asked
  cases ro
  obtain ⟨t, rfl⟩ := ri
  obtain ⟨its, r, pl, few⟩ := I.list sq
  obtain ⟨u, eu, ru⟩ := r.get at_
  have len := r.length
  obtain ⟨lt, _⟩ := List.getElem?_eq_some_iff.mp eu
  have line := line63
  refine wpAny_getItem_list pl.isList k0 (by omega) (x := u) (by simpa using eu) ?_
  exact ⟨v, H, I, ru, q⟩
/-- slot i's own list; an int there grows -/
def sAugS (i : Nat) (fi fe : LS → Out Lv) : LS → Out Fl := fun s => onO (ownAt i s) fun k => (fi s).bind fun x s1 => match x with
  | .d (.int j) => gd (decide (0 ≤ j)) (onO (ownL k s1) fun ds => match ds[j.toNat]? with
    | some (.int m) => (fe s1).bind fun y s2 => (match y with
      | .d (.int n) => onO (ownL k s2) fun ds2 => gd (decide (j.toNat < ds2.length)) (.ok .nx { s2 with own := s2.own.set k (some (.l (ds2.set j.toNat (.int (m + n))))) })
      | _ => .bad)
    | _ => .bad)
  | _ => .bad
theorem ixN_lt {n : Nat} {j : Int} (h0 : 0 ≤ j) (h : j.toNat < n) : ixN n j = some j.toNat := by
  unfold ixN
  rw [if_pos h0, if_pos (by omega)]
theorem ds_augS {i : Nat} {x : Str} {ie : Expr} {fi fe : LS → Out Lv} {px tpos : Pos} (hi : PE X ie (RE P W fi)) (he : PE X e (RE P W fe)) (hK : X.K = P.Γ.K) (hN : X.N[i]? = some x := by rfl) (hv : Vis X.env.scope x := by first | exact Or.inl rfl | exact Or.inr (Or.inl rfl) | exact Or.inr (Or.inr rfl))
    (hd : (x == ("__debug__" : Str)) = false := by decide) (hcd : (x == ("__classdict__" : Str)) = false := by decide) (ha : ∀ ov iv new, augStore ie ov iv new = (do holding [new, ov, iv] (setItem ov iv new); release [new, ov, iv] []; pure .next) := by intros; rfl) :
    PS X (.AugAssign (.Subscript (.Name x px) ie tpos) .Add e pos) (RS P W (sAugS i fi fe)) :=
  PS.mono (ps_augS (pv i hN hv hd hcd) hi get_list he ip_add set_list ha) fun E σ H ⟨w, s, S, h⟩ => by
    obtain ⟨k, hk, h⟩ := AtS.onO h
    obtain ⟨hl, ds0, hds0⟩ := ownAt_some hk
    obtain ⟨v, ev, l, hla, rfl⟩ := S.slot i _ hl
    refine ⟨.ref l, ev, w, s, S, (AtS.first (rel := relE P) h).imp ?_⟩
    rintro v H1 ⟨w1, s1, x, S1, r1, a1, h1⟩
    cases x with
    | own _ => exact h1.elim
    | d y =>
      cases y <;> first | exact h1.elim | skip
      rename_i j
      cases r1
      obtain ⟨c0, h2⟩ := AtS.gd h1
      obtain ⟨ds, hds, h3⟩ := AtS.onO h2
      have j0 : 0 ≤ j := of_decide_eq_true c0
      have hla1 := a1.2 k l hla
      obtain ⟨xs, hx, rx⟩ := own_at S1 hla1 (ownL_some hds)
      revert h3
      cases hat : ds[j.toNat]? with
      | none => exact fun z => z.elim
      | some d =>
        cases d <;> first | exact fun z => z.elim | skip
        rename_i m
        intro h3
        obtain ⟨v, ev, rv⟩ := rx.getD hat
        cases rv
        refine ⟨l, xs, j, .int m, rfl, rfl, SqL.of hx, j0, ev, w1, s1, S1, (AtS.first (rel := relE P) h3).imp ?_⟩
        rintro u H2 ⟨w2, s2, y, S2, r2, a2, h4⟩
        cases y with
        | own _ => exact h4.elim
        | d y =>
          cases y <;> first | exact h4.elim | skip
          rename_i n
          cases r2
          obtain ⟨ds2, hds2, h5⟩ := AtS.onO h4
          obtain ⟨c1, h6⟩ := AtS.gd h5
          have lt : j.toNat < ds2.length := of_decide_eq_true c1
          have hla2 := a2.2 k l hla1
          obtain ⟨ys, hy, ry⟩ := own_at S2 hla2 (ownL_some hds2)
          refine ⟨m, n, rfl, rfl, l, ys, j, j.toNat, rfl, rfl, hy, ixN_lt j0 (by rw [ry.length]; exact lt), ?_⟩
          obtain ⟨S3, A3⟩ := S2.mut (ds' := ds2.set j.toNat (.int (m + n))) hla2 (ownL_some hds2) (ry.set (.int (m + n)) j.toNat)
          exact h6 _ _ _ A3 S3
theorem mn_sAugS {fi fe : LS → Out Lv} {i : Nat} (p : Mn fi) (q : Mn fe) : Mn (sAugS i fi fe) := fun ns t s h => by
  show Le ns t (onO (ownAt i s) _) (onO (ownAt i s) _)
  refine Le.onO fun k => (p ns t s h).bind fun x s1 h1 => ?_
  cases x with
  | own _ => trivial
  | d y =>
    cases y <;> first | trivial | skip
    rename_i j
    refine Le.gd ?_
    show Le ns t (onO (ownL k s1) _) (onO (ownL k s1) _)
    refine Le.onO fun ds => ?_
    cases ds[j.toNat]? with
    | none => trivial
    | some d =>
      cases d <;> first | trivial | skip
      refine (q ns t s1 h1).bind fun y s2 h2 => ?_
      cases y with
      | own _ => trivial
      | d y =>
        cases y <;> first | trivial | skip
        show Le ns t (onO (ownL k s2) _) (onO (ownL k s2) _)
        exact Le.onO fun ds2 => Le.gd ⟨h2, rfl⟩
end
end Br

/-! What the defs of ranks and rules give, said plainly. -/
namespace Br
open PySem L2
def medium (i : Int) : Bool := decide (-(2 ^ 30) < i) && decide (i < 2 ^ 30)
theorem medium_of {i : Int} (h : medium i = true) : -(2 ^ 30) < i ∧ i < 2 ^ 30 := by
  unfold medium at h
  rw [Bool.and_eq_true] at h
  exact ⟨of_decide_eq_true h.1, of_decide_eq_true h.2⟩
theorem small_medium {i : Int} (h : -(2 ^ 31) < i ∧ i < 2 ^ 31) : small i = true := by
  unfold small
  simp
  omega
theorem sub_d {i j : Int} {s : LS} {fa fb : LS → Out Lv} (ha : fa s = okD (.int i) s) (hb : fb s = okD (.int j) s) : eOp sSub fa fb s = okD (.int (i - j)) s := eOp_d ha hb
theorem add_d {i j : Int} {s : LS} {fa fb : LS → Out Lv} (ha : fa s = okD (.int i) s) (hb : fb s = okD (.int j) s) : eOp sAdd fa fb s = okD (.int (i + j)) s := eOp_d ha hb
/-- a call of data -/
theorem call_d {m : List D → GS → FOut} {ga : LS → Out (List Lv)} {xs : List Lv} {ds : List D} {d : D} {s : LS} (h1 : ga s = .ok xs s) (h2 : borrows s xs = some ds) (h3 : m ds s.g = .ok d s.g) (hp : allD xs = true) : eCall m ga s = okD d s := eCall_d h1 h2 h3 hp
/-! ### ways -/
def wayGo (many : Int) : Nat → Int → Int → Int
  | 0, _, r => r
  | k + 1, at_, r => wayGo many k (at_ + 1) (r * (many - at_) / (at_ + 1))
def wayI (many some_ : Int) : Int := if some_ < 0 ∨ some_ > many then 0 else wayGo many some_.toNat 0 1
def dWays : LS → Out Fl := (sSeq (sIf (tOu (tV (eOp sLt (eVar 1) (eC (.int 0)))) (tV (eOp sGt (eVar 1) (eVar 0)))) (sRet (eC (.int 0))) sNx)
  (sSeq (sSet 2 (eC (.int 1)))
  (sSeq (sFor (iRng rng1 (aCons (eVar 1) aNil)) (gN 3) (sSet 2 (eOp sFdiv (eOp sMul (eVar 2) (eOp sSub (eVar 0) (eVar 3))) (eOp sAdd (eVar 3) (eC (.int 1))))))
  (sRet (eVar 2)))))
def mWays : List D → GS → FOut := runF 2 4 dWays
theorem way_loop (many some_ : Int) (g : GS) (hm : many < 2 ^ 30) : ∀ (k : Nat) (at_ r : Int) (o : Option Lv), 0 ≤ at_ → at_ + k ≤ many → ∃ o',
    forL (gN 3) (sSet 2 (eOp sFdiv (eOp sMul (eVar 2) (eOp sSub (eVar 0) (eVar 3))) (eOp sAdd (eVar 3) (eC (.int 1))))) (rgD at_ k) ⟨[some (.d (.int many)), some (.d (.int some_)), some (.d (.int r)), o], [], g⟩ = .ok .nx ⟨[some (.d (.int many)), some (.d (.int some_)), some (.d (.int (wayGo many k at_ r))), o'], [], g⟩
  | 0, at_, r, o, _, _ => ⟨o, rfl⟩
  | k + 1, at_, r, o, h0, h1 => by
    obtain ⟨o', ih⟩ := way_loop many some_ g hm k (at_ + 1) (r * (many - at_) / (at_ + 1)) (some (.d (.int at_))) (by omega) (by omega)
    refine ⟨o', ?_⟩
    let S : LS := ⟨[some (.d (.int many)), some (.d (.int some_)), some (.d (.int r)), some (.d (.int at_))], [], g⟩
    have e1 : eOp sSub (eVar 0) (eVar 3) S = okD (.int (many - at_)) S := rfl
    have e2 : eOp sMul (eVar 2) (eOp sSub (eVar 0) (eVar 3)) S = okD (.int (r * (many - at_))) S := (eOp_d (d := .int r) (e := .int (many - at_)) rfl e1).trans (mul_r (by omega))
    have e3 : eOp sAdd (eVar 3) (eC (.int 1)) S = okD (.int (at_ + 1)) S := rfl
    have e4 := (eOp_d (sem := sFdiv) e2 e3).trans (fdiv_ok (by omega))
    show (sSet 2 (eOp sFdiv (eOp sMul (eVar 2) (eOp sSub (eVar 0) (eVar 3))) (eOp sAdd (eVar 3) (eC (.int 1)))) S).bind _ = _
    rw [sSet_d e4]
    exact ih
theorem ways_ok {many some_ : Int} (hm : many < 2 ^ 30) (g : GS) : mWays [.int many, .int some_] g = .ok (.int (wayI many some_)) g := by
  let S : Option Lv → Option Lv → LS := fun a b => ⟨[some (.d (.int many)), some (.d (.int some_)), a, b], [], g⟩
  show fin (dWays (S none none)) = _
  unfold dWays wayI
  have t : tOu (tV (eOp sLt (eVar 1) (eC (.int 0)))) (tV (eOp sGt (eVar 1) (eVar 0))) (S none none) = .ok (decide (some_ < 0) || decide (many < some_)) (S none none) := by
    by_cases h : some_ < 0
    · show (match decide (some_ < 0) with | true => _ | false => _) = _
      rw [decide_eq_true h]
      rfl
    · show (match decide (some_ < 0) with | true => _ | false => _) = _
      rw [decide_eq_false h]
      rfl
  by_cases c : some_ < 0 ∨ some_ > many
  · have yes : (decide (some_ < 0) || decide (many < some_)) = true := by
      rw [Bool.or_eq_true]
      exact c.imp decide_eq_true decide_eq_true
    rw [yes] at t
    rw [if_pos c, sSeq_ret (d := .int 0) (s1 := S none none) (by
      rw [sIf_t t]
      rfl)]
    rfl
  · have no : (decide (some_ < 0) || decide (many < some_)) = false := by
      rw [decide_eq_false (fun z => c (.inl z)), decide_eq_false (fun z => c (.inr z))]
      rfl
    rw [no] at t
    rw [if_neg c, sSeq_nx (s1 := S none none) (by
      rw [sIf_f t]
      rfl)]
    have one : sSet 2 (eC (.int 1)) (S none none) = .ok .nx (S (some (.d (.int 1))) none) := rfl
    rw [sSeq_nx one]
    obtain ⟨o', e⟩ := way_loop many some_ g hm some_.toNat 0 1 none (by omega) (by omega)
    rw [sSeq_nx (s1 := S (some (.d (.int (wayGo many some_.toNat 0 1)))) o') (by
      have hi : iRng rng1 (aCons (eVar 1) aNil) (S (some (.d (.int 1))) none) = .ok (rgD 0 some_.toNat) (S (some (.d (.int 1))) none) := by
        show gd (small some_) _ = _
        rw [small_medium (by omega)]
        rfl
      unfold sFor
      rw [hi]
      exact e)]
    rfl
def fWays : List D → Option D
  | [.int many, .int some_] => if many < 2 ^ 30 then some (.int (wayI many some_)) else none
  | _ => none
theorem ok_ways : ∀ ds d g, fWays ds = some d → mWays ds g = .ok d g := by
  intro ds d g h
  unfold fWays at h
  split at h
  · split at h
    · rename_i c
      cases h
      exact ways_ok c g
    · cases h
  · cases h
/-! ### chance_for, mean_for -/
def chF (n i a b : Int) : Option D := if (decide (b - 1 < 2 ^ 30) && decide (n - b < 2 ^ 30) && decide (n < 2 ^ 30) && fits64 (wayI (b - 1) (a - 1))) = true then (match wayI n i with
  | .ofNat B => low (wayI (b - 1) (a - 1) * wayI (n - b) (i - a)) B
  | _ => none) else none
def dChance : LS → Out Fl := (sRet (eCall mLow (aCons (eOp sMul (eCall mWays (aCons (eOp sSub (eVar 3) (eC (.int 1))) (aCons (eOp sSub (eVar 2) (eC (.int 1))) aNil))) (eCall mWays (aCons (eOp sSub (eVar 0) (eVar 3)) (aCons (eOp sSub (eVar 1) (eVar 2)) aNil)))) (aCons (eCall mWays (aCons (eVar 0) (aCons (eVar 1) aNil))) aNil))))
def mChance : List D → GS → FOut := runF 4 4 dChance
theorem chance_ok {n i a b : Int} {d : D} (h : chF n i a b = some d) (g : GS) : mChance [.int n, .int i, .int a, .int b] g = .ok d g := by
  unfold chF at h
  split at h
  · rename_i k
    rw [Bool.and_eq_true, Bool.and_eq_true, Bool.and_eq_true] at k
    obtain ⟨⟨⟨k1, k2⟩, k3⟩, k4⟩ := k
    split at h
    · rename_i B hB
      let S : LS := ⟨[some (.d (.int n)), some (.d (.int i)), some (.d (.int a)), some (.d (.int b))], [], g⟩
      show fin (dChance S) = _
      unfold dChance
      have s1 : eOp sSub (eVar 3) (eC (.int 1)) S = okD (.int (b - 1)) S := rfl
      have s2 : eOp sSub (eVar 2) (eC (.int 1)) S = okD (.int (a - 1)) S := rfl
      have s3 : eOp sSub (eVar 0) (eVar 3) S = okD (.int (n - b)) S := rfl
      have s4 : eOp sSub (eVar 1) (eVar 2) S = okD (.int (i - a)) S := rfl
      have v0 : eVar 0 S = okD (.int n) S := rfl
      have v1 : eVar 1 S = okD (.int i) S := rfl
      have w1 : eCall mWays (aCons _ (aCons _ aNil)) S = okD (.int (wayI (b - 1) (a - 1))) S := call_d (aCons_d s1 (aCons_d s2 aNil_d)) rfl (ways_ok (of_decide_eq_true k1) g) rfl
      have w2 : eCall mWays (aCons _ (aCons _ aNil)) S = okD (.int (wayI (n - b) (i - a))) S := call_d (aCons_d s3 (aCons_d s4 aNil_d)) rfl (ways_ok (of_decide_eq_true k2) g) rfl
      have w3 : eCall mWays (aCons _ (aCons _ aNil)) S = okD (.int (wayI n i)) S := call_d (aCons_d v0 (aCons_d v1 aNil_d)) rfl (ways_ok (of_decide_eq_true k3) g) rfl
      have mm := (eOp_d (sem := sMul) w1 w2).trans (mul_l (fits64_of k4))
      have e5 := call_d (m := mLow) (d := d) (aCons_d mm (aCons_d w3 aNil_d)) rfl (by
        show mLow [.int (wayI (b - 1) (a - 1) * wayI (n - b) (i - a)), .int (wayI n i)] g = _
        rw [hB]
        exact low_ok h) rfl
      rw [sRet_d e5]
      rfl
    · cases h
  · cases h
def fChance : List D → Option D
  | [.int n, .int i, .int a, .int b] => chF n i a b
  | _ => none
theorem ok_chance : ∀ ds d g, fChance ds = some d → mChance ds g = .ok d g := by
  intro ds d g h
  unfold fChance at h
  split at h
  · exact chance_ok h g
  · cases h
def meF (n i a : Int) : Option D := if fits64 a = true then (match i + 1 with
  | .ofNat B => low (a * (n + 1)) B
  | _ => none) else none
def dMean : LS → Out Fl := (sRet (eCall mLow (aCons (eOp sMul (eVar 2) (eOp sAdd (eVar 0) (eC (.int 1)))) (aCons (eOp sAdd (eVar 1) (eC (.int 1))) aNil))))
def mMean : List D → GS → FOut := runF 3 3 dMean
theorem mean_ok {n i a : Int} {d : D} (h : meF n i a = some d) (g : GS) : mMean [.int n, .int i, .int a] g = .ok d g := by
  unfold meF at h
  split at h
  · rename_i k
    split at h
    · rename_i B hB
      let S : LS := ⟨[some (.d (.int n)), some (.d (.int i)), some (.d (.int a))], [], g⟩
      show fin (dMean S) = _
      unfold dMean
      have s1 : eOp sAdd (eVar 0) (eC (.int 1)) S = okD (.int (n + 1)) S := rfl
      have s2 : eOp sAdd (eVar 1) (eC (.int 1)) S = okD (.int (i + 1)) S := rfl
      have mm : eOp sMul (eVar 2) (eOp sAdd (eVar 0) (eC (.int 1))) S = okD (.int (a * (n + 1))) S := (eOp_d (d := .int a) (e := .int (n + 1)) rfl s1).trans (mul_l (fits64_of k))
      have e5 := call_d (m := mLow) (d := d) (aCons_d mm (aCons_d s2 aNil_d)) rfl (by
        show mLow [.int (a * (n + 1)), .int (i + 1)] g = _
        rw [hB]
        exact low_ok h) rfl
      rw [sRet_d e5]
      rfl
    · cases h
  · cases h
def fMean : List D → Option D
  | [.int n, .int i, .int a] => meF n i a
  | _ => none
theorem ok_mean : ∀ ds d g, fMean ds = some d → mMean ds g = .ok d g := by
  intro ds d g h
  unfold fMean at h
  split at h
  · exact mean_ok h g
  · cases h
/-! ### worth -/
def woF (n : Int) (goal : Str) (i a : Int) : Option D := if goal = ("chance" : Str) then chF n i a 1 else if goal = ("mean" : Str) then meF n i a else none
theorem eq_cc (s : LS) : sEq (.str "chance") (.str "chance") s = okD (.bl true) s := by
  have e : eqG s.g (.str "chance") (.str "chance") = some true := (show _ = eqG ⟨[], none, []⟩ (.str "chance") (.str "chance") from rfl).trans (by decide +kernel)
  unfold sEq
  rw [e]
  rfl
theorem eq_mc (s : LS) : sEq (.str "mean") (.str "chance") s = okD (.bl false) s := by
  have e : eqG s.g (.str "mean") (.str "chance") = some false := (show _ = eqG ⟨[], none, []⟩ (.str "mean") (.str "chance") from rfl).trans (by decide +kernel)
  unfold sEq
  rw [e]
  rfl
def dWorth : LS → Out Fl := (sRet (eIf (tV (eOp sEq (eVar 1) (eC (.str "chance")))) (eCall mChance (aCons (eVar 0) (aCons (eVar 2) (aCons (eVar 3) (aCons (eC (.int 1)) aNil))))) (eCall mMean (aCons (eVar 0) (aCons (eVar 2) (aCons (eVar 3) aNil))))))
def mWorth : List D → GS → FOut := runF 4 4 dWorth
theorem worth_ok {n i a : Int} {goal : Str} {d : D} (h : woF n goal i a = some d) (g : GS) : mWorth [.int n, .str goal, .int i, .int a] g = .ok d g := by
  let S : LS := ⟨[some (.d (.int n)), some (.d (.str goal)), some (.d (.int i)), some (.d (.int a))], [], g⟩
  show fin (dWorth S) = _
  unfold dWorth
  unfold woF at h
  have v0 : eVar 0 S = okD (.int n) S := rfl
  have v1 : eVar 1 S = okD (.str goal) S := rfl
  have v2 : eVar 2 S = okD (.int i) S := rfl
  have v3 : eVar 3 S = okD (.int a) S := rfl
  have c1 : eC (.int 1) S = okD (.int 1) S := rfl
  have cc : eC (.str "chance") S = okD (.str "chance") S := rfl
  have e : eIf (tV (eOp sEq (eVar 1) (eC (.str "chance")))) (eCall mChance (aCons (eVar 0) (aCons (eVar 2) (aCons (eVar 3) (aCons (eC (.int 1)) aNil))))) (eCall mMean (aCons (eVar 0) (aCons (eVar 2) (aCons (eVar 3) aNil)))) S = okD d S := by
    unfold eIf tV
    rw [eOp_d v1 cc]
    split at h
    · rename_i c
      rw [c, eq_cc]
      exact call_d (aCons_d v0 (aCons_d v2 (aCons_d v3 (aCons_d c1 aNil_d)))) rfl (chance_ok h g) rfl
    · split at h
      · rename_i c
        rw [c, eq_mc]
        exact call_d (aCons_d v0 (aCons_d v2 (aCons_d v3 aNil_d))) rfl (mean_ok h g) rfl
      · cases h
  rw [sRet_d e]
  rfl
def fWorth : List D → Option D
  | [.int n, .str goal, .int i, .int a] => woF n goal i a
  | _ => none
theorem ok_worth : ∀ ds d g, fWorth ds = some d → mWorth ds g = .ok d g := by
  intro ds d g h
  unfold fWorth at h
  split at h
  · exact worth_ok h g
  · cases h
/-! ### mixed -/
def mixGo (n : Int) (goal : Str) (i thr : Int) (later : D) : Nat → Int → D → Option D
  | 0, _, tot => some tot
  | k + 1, a, tot => match (if a ≤ thr then woF n goal i a else some later) with
    | none => none
    | some w => match fPlus [tot, w] with
      | none => none
      | some t => mixGo n goal i thr later k (a + 1) t
def mixF (n : Int) (goal : Str) (i thr : Int) (later : D) : Option D := if medium i = true then (match mixGo n goal i thr later i.toNat 1 (.tup [.int 0, .int 1]) with
  | none => none
  | some t => fTimes [t, .tup [.int 1, .int i]]) else none
def bMixed : LS → Out Fl := (sSet 5 (eCall mPlus (aCons (eVar 5) (aCons (eIf (tV (eOp sLe (eVar 6) (eVar 3))) (eCall mWorth (aCons (eVar 0) (aCons (eVar 1) (aCons (eVar 2) (aCons (eVar 6) aNil))))) (eVar 4)) aNil))))
def dMixed2 : LS → Out Fl := (sSeq (sSet 5 (eTup (aCons (eC (.int 0)) (aCons (eC (.int 1)) aNil))))
  (sSeq (sFor (iRng rng2 (aCons (eC (.int 1)) (aCons (eOp sAdd (eVar 2) (eC (.int 1))) aNil))) (gN 6) bMixed)
  (sRet (eCall mTimes (aCons (eVar 5) (aCons (eTup (aCons (eC (.int 1)) (aCons (eVar 2) aNil))) aNil))))))
def mMixed2 : List D → GS → FOut := runF 5 7 dMixed2
def stM (n : Int) (goal : Str) (i thr : Int) (later : D) (g : GS) (a b : Option Lv) : LS := ⟨[some (.d (.int n)), some (.d (.str goal)), some (.d (.int i)), some (.d (.int thr)), some (.d later), a, b], [], g⟩
theorem mix_loop {n : Int} {goal : Str} {i thr : Int} {later : D} {g : GS} : ∀ (k : Nat) (a : Int) (tot t : D) (o : Option Lv), mixGo n goal i thr later k a tot = some t → ∃ o', forL (gN 6) bMixed (rgD a k) (stM n goal i thr later g (some (.d tot)) o) = .ok .nx (stM n goal i thr later g (some (.d t)) o')
  | 0, a, tot, t, o, h => by
    cases h
    exact ⟨o, rfl⟩
  | k + 1, a, tot, t, o, h => by
    simp only [mixGo] at h
    split at h
    · cases h
    · rename_i w hw
      split at h
      · cases h
      · rename_i t1 ht
        obtain ⟨o', ih⟩ := mix_loop (g := g) k (a + 1) t1 t (some (.d (.int a))) h
        refine ⟨o', ?_⟩
        let S : LS := stM n goal i thr later g (some (.d tot)) (some (.d (.int a)))
        have v0 : eVar 0 S = okD (.int n) S := rfl
        have v1 : eVar 1 S = okD (.str goal) S := rfl
        have v2 : eVar 2 S = okD (.int i) S := rfl
        have v4 : eVar 4 S = okD later S := rfl
        have v5 : eVar 5 S = okD tot S := rfl
        have v6 : eVar 6 S = okD (.int a) S := rfl
        have t0 : tV (eOp sLe (eVar 6) (eVar 3)) S = .ok (decide (a ≤ thr)) S := rfl
        have e : eIf (tV (eOp sLe (eVar 6) (eVar 3))) (eCall mWorth (aCons (eVar 0) (aCons (eVar 1) (aCons (eVar 2) (aCons (eVar 6) aNil))))) (eVar 4) S = okD w S := by
          unfold eIf
          rw [t0]
          by_cases c : a ≤ thr
          · rw [if_pos c] at hw
            rw [decide_eq_true c]
            exact call_d (aCons_d v0 (aCons_d v1 (aCons_d v2 (aCons_d v6 aNil_d)))) rfl (worth_ok hw g) rfl
          · rw [if_neg c] at hw
            cases hw
            rw [decide_eq_false c]
            exact v4
        have p := call_d (m := mPlus) (aCons_d v5 (aCons_d e aNil_d)) rfl (ok_plus _ _ g ht) rfl
        show (bMixed S).bind _ = _
        unfold bMixed
        rw [sSet_d p]
        exact ih
theorem mixed_at {n : Int} {goal : Str} {i thr : Int} {later d : D} (h : mixF n goal i thr later = some d) (g : GS) : mMixed2 [.int n, .str goal, .int i, .int thr, later] g = .ok d g := by
  unfold mixF at h
  split at h
  · rename_i k
    obtain ⟨k1, k2⟩ := medium_of k
    split at h
    · cases h
    · rename_i t ht
      show fin (dMixed2 (stM n goal i thr later g none none)) = _
      unfold dMixed2
      have st : sSet 5 (eTup (aCons (eC (.int 0)) (aCons (eC (.int 1)) aNil))) (stM n goal i thr later g none none) = .ok .nx (stM n goal i thr later g (some (.d (.tup [.int 0, .int 1]))) none) := rfl
      rw [sSeq_nx st]
      obtain ⟨o', e⟩ := mix_loop (g := g) i.toNat 1 _ t none ht
      have hi : iRng rng2 (aCons (eC (.int 1)) (aCons (eOp sAdd (eVar 2) (eC (.int 1))) aNil)) (stM n goal i thr later g (some (.d (.tup [.int 0, .int 1]))) none) = .ok (rgD 1 i.toNat) (stM n goal i thr later g (some (.d (.tup [.int 0, .int 1]))) none) := by
        show gd (small 1 && small (i + 1)) (.ok (rgD 1 (i + 1 - 1).toNat) _) = _
        rw [small_medium (i := i + 1) (by omega), show small 1 = true from rfl, show (i + 1 - 1).toNat = i.toNat by congr 1; omega]
        rfl
      rw [sSeq_nx (s1 := stM n goal i thr later g (some (.d t)) o') (by
        unfold sFor
        rw [hi]
        exact e)]
      let S : LS := stM n goal i thr later g (some (.d t)) o'
      have v5 : eVar 5 S = okD t S := rfl
      have one : eC (.int 1) S = okD (.int 1) S := rfl
      have v2 : eVar 2 S = okD (.int i) S := rfl
      have p := call_d (m := mTimes) (aCons_d v5 (aCons_d (eTup2 one v2) aNil_d)) rfl (ok_times _ _ g h) rfl
      rw [sRet_d p]
      rfl
  · cases h
def fMixed : List D → Option D
  | [.int n, .str goal, .int i, .int thr, later] => mixF n goal i thr later
  | _ => none
theorem ok_mixed : ∀ ds d g, fMixed ds = some d → mMixed2 ds g = .ok d g := by
  intro ds d g h
  unfold fMixed at h
  split at h
  · exact mixed_at h g
  · cases h
/-! ### value_of -/
theorem iRng_d {r : List Int → LS → Out (List D)} {f : LS → Out (List Lv)} {xs : List Lv} {is : List Int} {s s1 : LS} (h : f s = .ok xs s1) (hi : intArgs xs = some is) : iRng r f s = r is s1 := by
  unfold iRng
  rw [h]
  show onO (intArgs xs) _ = _
  rw [hi]
  rfl
theorem rng3_d {i j : Int} {s : LS} (hi : small i = true) (hj : small j = true) : rng3 [i, j, -1] s = .ok (rgC i (-1) (i - j).toNat) s := by
  simp only [rng3]
  rw [hi, hj]
  rfl
theorem small_0 : small 0 = true := by decide +kernel
def intAt (rule : List D) (k : Nat) : Option Int := match rule[k]? with
  | some (.int r) => some r
  | _ => none
theorem intAt_some {rule : List D} {k : Nat} {r : Int} (h : intAt rule k = some r) : rule[k]? = some (.int r) := by
  unfold intAt at h
  split at h
  · rename_i e
    cases h
    exact e
  · cases h
def valGo (n : Int) (goal : Str) (rule : List D) : Nat → D → Option D
  | 0, l => some l
  | k + 1, l => (intAt rule k).bind fun r => (mixF n goal ((k + 1 : Nat) : Int) r l).bind fun l' => valGo n goal rule k l'
theorem valGo_succ {n : Int} {goal : Str} {rule : List D} {k : Nat} {l d : D} (h : valGo n goal rule (k + 1) l = some d) : ∃ r l', rule[k]? = some (.int r) ∧ mixF n goal ((k + 1 : Nat) : Int) r l = some l' ∧ valGo n goal rule k l' = some d := by
  have h : (intAt rule k).bind (fun r => (mixF n goal ((k + 1 : Nat) : Int) r l).bind fun l' => valGo n goal rule k l') = some d := h
  obtain ⟨r, hr, h⟩ := Option.bind_eq_some_iff.mp h
  obtain ⟨l', hl', h⟩ := Option.bind_eq_some_iff.mp h
  exact ⟨r, l', intAt_some hr, hl', h⟩
def bValue : LS → Out Fl := (sSet 3 (eCall mMixed2 (aCons (eVar 0) (aCons (eVar 1) (aCons (eVar 4) (aCons (eOp sIx (eVar 2) (eOp sSub (eVar 4) (eC (.int 1)))) (aCons (eVar 3) aNil)))))))
def dValue : LS → Out Fl := (sSeq (sSet 3 (eTup (aCons (eC (.int 0)) (aCons (eC (.int 1)) aNil))))
  (sSeq (sFor (iRng rng3 (aCons (eVar 0) (aCons (eC (.int 0)) (aCons (eUn sNeg (eC (.int 1))) aNil)))) (gN 4) bValue)
  (sRet (eVar 3))))
def mValue : List D → GS → FOut := runF 3 5 dValue
def stV (n : Int) (goal : Str) (rule : List D) (g : GS) (a b : Option Lv) : LS := ⟨[some (.d (.int n)), some (.d (.str goal)), some (.d (.tup rule)), a, b], [], g⟩
theorem atI_of {α : Type} {xs : List α} {k : Nat} {x : α} (h : xs[k]? = some x) : atI xs ((k : Nat) : Int) = some x := by
  obtain ⟨hl, _⟩ := List.getElem?_eq_some_iff.mp h
  unfold atI
  rw [ixN_lt (by omega) (by omega)]
  simpa using h
theorem val_turn {n : Int} {goal : Str} {rule : List D} {g : GS} {k : Nat} {l l' : D} {r : Int} (hr : rule[k]? = some (.int r)) (hl' : mixF n goal ((k + 1 : Nat) : Int) r l = some l') :
    bValue (stV n goal rule g (some (.d l)) (some (.d (.int ((k + 1 : Nat) : Int))))) = .ok .nx (stV n goal rule g (some (.d l')) (some (.d (.int ((k + 1 : Nat) : Int))))) := by
  generalize hK : ((k + 1 : Nat) : Int) = K at *
  let S : LS := stV n goal rule g (some (.d l)) (some (.d (.int K)))
  have v0 : eVar 0 S = okD (.int n) S := rfl
  have v1 : eVar 1 S = okD (.str goal) S := rfl
  have v2 : eVar 2 S = okD (.tup rule) S := rfl
  have v3 : eVar 3 S = okD l S := rfl
  have v4 : eVar 4 S = okD (.int K) S := rfl
  have c1 : eC (.int 1) S = okD (.int 1) S := rfl
  have x : eOp sIx (eVar 2) (eOp sSub (eVar 4) (eC (.int 1))) S = okD (.int r) S := by
    have e1 := sub_d v4 c1
    rw [show K - 1 = ((k : Nat) : Int) by omega] at e1
    rw [eOp_d v2 e1]
    show onO (atI rule ((k : Nat) : Int)) _ = _
    rw [atI_of hr]
    rfl
  have p := call_d (m := mMixed2) (aCons_d v0 (aCons_d v1 (aCons_d v4 (aCons_d x (aCons_d v3 aNil_d))))) rfl (mixed_at hl' g) rfl
  exact sSet_d p
theorem forL_cons {t : Tgt} {body : LS → Out Fl} {d : D} {r : List D} {s s1 : LS} {loc' : Loc0} (h1 : t d s.loc = some loc') (h2 : body { s with loc := loc' } = .ok .nx s1) : forL t body (d :: r) s = forL t body r s1 := by
  simp only [forL]
  rw [h1]
  show (body { s with loc := loc' }).bind _ = _
  rw [h2]
  rfl
theorem rgC_down (k : Nat) : rgC ((k + 1 : Nat) : Int) (-1) (k + 1) = .int ((k + 1 : Nat) : Int) :: rgC ((k : Nat) : Int) (-1) k := by
  rw [rgC, show ((k + 1 : Nat) : Int) + -1 = ((k : Nat) : Int) by omega]
theorem val_loop {n : Int} {goal : Str} {rule : List D} {g : GS} (k : Nat) : ∀ (l d : D) (o : Option Lv), valGo n goal rule k l = some d → ∃ o', forL (gN 4) bValue (rgC ((k : Nat) : Int) (-1) k) (stV n goal rule g (some (.d l)) o) = .ok .nx (stV n goal rule g (some (.d d)) o') := by
  induction k with
  | zero =>
    intro l d o h
    cases h
    exact ⟨o, rfl⟩
  | succ k ih =>
    intro l d o h
    obtain ⟨r, l', hr, hl', h⟩ := valGo_succ h
    obtain ⟨o', e⟩ := ih l' d (some (.d (.int ((k + 1 : Nat) : Int)))) h
    refine ⟨o', ?_⟩
    rw [rgC_down, forL_cons (loc' := (stV n goal rule g (some (.d l)) (some (.d (.int ((k + 1 : Nat) : Int))))).loc) rfl (val_turn hr hl')]
    exact e
theorem value_ok {n : Nat} (hn : n < 2 ^ 30) {goal : Str} {rule : List D} {d : D} (h : valGo n goal rule n (.tup [.int 0, .int 1]) = some d) (g : GS) : mValue [.int n, .str goal, .tup rule] g = .ok d g := by
  show fin (dValue (stV n goal rule g none none)) = _
  unfold dValue
  have st : sSet 3 (eTup (aCons (eC (.int 0)) (aCons (eC (.int 1)) aNil))) (stV n goal rule g none none) = .ok .nx (stV n goal rule g (some (.d (.tup [.int 0, .int 1]))) none) := rfl
  rw [sSeq_nx st]
  obtain ⟨o', e⟩ := val_loop (g := g) n _ d none h
  have hi : iRng rng3 (aCons (eVar 0) (aCons (eC (.int 0)) (aCons (eUn sNeg (eC (.int 1))) aNil))) (stV n goal rule g (some (.d (.tup [.int 0, .int 1]))) none) = .ok (rgC n (-1) n) (stV n goal rule g (some (.d (.tup [.int 0, .int 1]))) none) := by
    have v0 : eVar 0 (stV n goal rule g (some (.d (.tup [.int 0, .int 1]))) none) = .ok (.d (.int n)) (stV n goal rule g (some (.d (.tup [.int 0, .int 1]))) none) := rfl
    have c0 : eC (.int 0) (stV n goal rule g (some (.d (.tup [.int 0, .int 1]))) none) = .ok (.d (.int 0)) (stV n goal rule g (some (.d (.tup [.int 0, .int 1]))) none) := rfl
    have c1 : eUn sNeg (eC (.int 1)) (stV n goal rule g (some (.d (.tup [.int 0, .int 1]))) none) = .ok (.d (.int (-1))) (stV n goal rule g (some (.d (.tup [.int 0, .int 1]))) none) := rfl
    rw [iRng_d (aCons_d v0 (aCons_d c0 (aCons_d c1 aNil_d))) (is := [(n : Int), 0, -1]) rfl, rng3_d (small_medium (by omega)) small_0, show ((n : Int) - 0).toNat = n by omega]
  rw [sSeq_nx (s1 := stV n goal rule g (some (.d d)) o') (by
    unfold sFor
    rw [hi]
    exact e)]
  rfl
def fValue : List D → Option D
  | [.int (.ofNat n), .str goal, .tup rule] => if n < 2 ^ 30 then valGo n goal rule n (.tup [.int 0, .int 1]) else none
  | _ => none
theorem ok_value : ∀ ds d g, fValue ds = some d → mValue ds g = .ok d g := by
  intro ds d g h
  unfold fValue at h
  split at h
  · split at h
    · rename_i c
      exact value_ok c h g
    · cases h
  · cases h
end Br

/-! What the defs about orders give, told on lists of ints. -/
namespace Br
open PySem L2
abbrev ofI (xs : List Int) : List D := xs.map D.int
/-! ### comprehensions -/
theorem lc_filter {t : Tgt} {ft : LS → Out Bool} {fe : LS → Out Lv} {L : Loc0} {g : GS} {F : D → Option D} : ∀ {ds : List D}, (∀ d ∈ ds, lcTurn t ft fe L d g = some (F d, g)) → lcLoop t ft fe L ds g = some (ds.filterMap F, g)
  | [], _ => rfl
  | d :: r, h => by
    have h1 := h d List.mem_cons_self
    have h2 := lc_filter (ds := r) fun x m => h x (List.mem_cons_of_mem _ m)
    simp only [lcLoop, h1, h2, List.filterMap_cons]
    cases F d <;> rfl
theorem eLc_ok {fi : LS → Out (List D)} {t : Tgt} {ft : LS → Out Bool} {fe : LS → Out Lv} {vs : List Nat} {s s1 : LS} {ds : List D} {F : D → Option D} (hi : fi s = .ok ds s1) (len : ds.length ≤ 100000) (h : ∀ d ∈ ds, lcTurn t ft fe (seen s1.loc vs) d s1.g = some (F d, s1.g)) :
    eLc fi t ft fe vs s = okD (.lst (ds.filterMap F)) s1 := by
  unfold eLc
  rw [hi]
  show gd (decide (ds.length ≤ 100000)) _ = _
  rw [decide_eq_true len, lc_filter h]
  rfl
theorem filterMap_ofI {β : Type} (F : D → Option β) (xs : List Int) : (ofI xs).filterMap F = xs.filterMap fun x => F (.int x) := by
  rw [ofI, List.filterMap_map]; rfl
theorem len_ofI (xs : List Int) : (ofI xs).length = xs.length := List.length_map ..
/-! ### steps -/
section
variable {fa fb fc : LS → Out Lv} {ta tb : LS → Out Bool} {s s1 : LS} {d e r : D} {g' : GS} {x y z : Bool}
theorem eUn_d {sem : D → LS → Out Lv} (ha : fa s = okD d s) : eUn sem fa s = sem d s := by unfold eUn; rw [ha]; rfl
theorem eB1_d {sem : D → LS → Out Lv} (ha : fa s = okD d s) : eB (arg1 sem) (aCons fa aNil) s = sem d s := by unfold eB aCons; rw [ha]; rfl
theorem eB2_d {sem : D → D → LS → Out Lv} (ha : fa s = okD d s) (hb : fb s = okD e s) : eB (arg2 sem) (aCons fa (aCons fb aNil)) s = sem d e s := by
  unfold eB aCons
  rw [ha]
  show Out.bind (Out.bind (Out.bind (fb s) _) _) _ = _
  rw [hb]
  rfl
theorem eAn_t (ha : fa s = okD (.bl true) s) : eAn fa fb s = fb s := by unfold eAn; rw [ha]; rfl
theorem eAn_f (ha : fa s = okD (.bl false) s) : eAn fa fb s = okD (.bl false) s := by unfold eAn; rw [ha]; rfl
theorem eNo_d (ha : fa s = okD (.bl x) s) : eNo fa s = okD (.bl (!x)) s := by unfold eNo; rw [ha]; rfl
theorem eCh_d {a b c : Int} (ha : fa s = okD (.int a) s) (hb : fb s = okD (.int b) s) (hc : fc s = okD (.int c) s) : eCh sLe sLe fa fb fc s = okD (.bl (decide (a ≤ b) && decide (b ≤ c))) s := by
  unfold eCh
  rw [ha]
  simp only [okD, Out.bind, hb, onO, borrow, sLe, asB]
  cases decide (a ≤ b) with
  | false => rfl
  | true => simp only [hc, okD, Out.bind, onO, borrow, sLe, Bool.true_and]
theorem tV_d (ha : fa s = okD (.bl x) s) : tV fa s = .ok x s := by unfold tV; rw [ha]; rfl
theorem tNo_d (ha : ta s = .ok x s) : tNo ta s = .ok (!x) s := by unfold tNo; rw [ha]; rfl
theorem tOu_d (ha : ta s = .ok x s) (hb : tb s = .ok y s) : tOu ta tb s = .ok (x || y) s := by
  unfold tOu
  rw [ha]
  cases x with
  | true => rfl
  | false => exact hb
theorem tAn_d (ha : ta s = .ok x s) (hb : tb s = .ok y s) : tAn ta tb s = .ok (x && y) s := by
  unfold tAn
  rw [ha]
  cases x with
  | true => exact hb
  | false => rfl
theorem eCall1 {m : List D → GS → FOut} (ha : fa s = okD d s) (h : m [d] s.g = .ok r g') : eCall m (aCons fa aNil) s = okD r { s with g := g' } := by
  unfold eCall aCons
  rw [ha]
  show called true s (m [d] s.g) = _
  rw [h]
  rfl
theorem eCall2 {m : List D → GS → FOut} (ha : fa s = okD d s) (hb : fb s = okD e s) (h : m [d, e] s.g = .ok r g') : eCall m (aCons fa (aCons fb aNil)) s = okD r { s with g := g' } := by
  unfold eCall aCons
  rw [ha]
  show Out.bind (Out.bind (Out.bind (fb s) _) _) _ = _
  rw [hb]
  show called true s (m [d, e] s.g) = _
  rw [h]
  rfl
theorem eCall3 {m : List D → GS → FOut} {q : D} (ha : fa s = okD d s) (hb : fb s = okD e s) (hc : fc s = okD q s) (h : m [d, e, q] s.g = .ok r g') : eCall m (aCons fa (aCons fb (aCons fc aNil))) s = okD r { s with g := g' } := by
  unfold eCall aCons
  rw [ha]
  show Out.bind (Out.bind (Out.bind (fb s) _) _) _ = _
  rw [hb]
  show Out.bind (Out.bind (Out.bind (Out.bind (fc s) _) _) _) _ = _
  rw [hc]
  show called true s (m [d, e, q] s.g) = _
  rw [h]
  rfl
end
/-! ### is_integer -/
def oInt : List D → GS → FOut := runF 3 3 (sRet (eAn (eUn (sIsi .int) (eVar 0)) (eAn (eNo (eUn (sIsi .bool) (eVar 0))) (eCh sLe sLe (eVar 1) (eVar 0) (eVar 2)))))
theorem int_at (x lo hi : Int) (g : GS) : oInt [.int x, .int lo, .int hi] g = .ok (.bl (decide (lo ≤ x) && decide (x ≤ hi))) g := by
  let s : LS := ⟨[some (.d (.int x)), some (.d (.int lo)), some (.d (.int hi))], [], g⟩
  show fin (sRet _ s) = _
  have h1 : eUn (sIsi .int) (eVar 0) s = okD (.bl true) s := rfl
  have h2 : eUn (sIsi .bool) (eVar 0) s = okD (.bl false) s := rfl
  rw [sRet_d ((eAn_t h1).trans ((eAn_t (eNo_d h2)).trans (eCh_d (fa := eVar 1) (fb := eVar 0) (fc := eVar 2) (a := lo) (b := x) (c := hi) rfl rfl rfl)))]
  rfl
/-! ### is_order, check_order -/
/-- an order: a list of the ranks 1 to n, each once, n from 1 to 10 -/
structure Ord (xs : List Int) : Prop where
  low : 1 ≤ xs.length
  high : xs.length ≤ 10
  rank : ∀ x ∈ xs, 1 ≤ x ∧ x ≤ xs.length
  once : xs.Nodup
def oOrder : List D → GS → FOut := runF 1 2 (sSeq (sIf (tOu (tNo (tV (eUn (sIsi .tuple) (eVar 0)))) (tNo (tV (eCh sLe sLe (eC (.int 1)) (eB (arg1 sLen) (aCons (eVar 0) aNil)) (eC (.int 10)))))) (sRet (eC (.bl false))) sNx)
  (sSeq (sIf (tNo (tV (eB (arg1 sAll) (aCons (eLc (iSeq (eVar 0)) (gN 1) tYe (eCall oInt (aCons (eVar 1) (aCons (eC (.int 1)) (aCons (eB (arg1 sLen) (aCons (eVar 0) aNil)) aNil)))) [1]) aNil)))) (sRet (eC (.bl false))) sNx)
  (sRet (eOp sEq (eUn sLs (eVar 0)) (eB (arg1 sLen) (aCons (eVar 0) aNil))))))
theorem intsD_ofI : ∀ xs : List Int, intsD (ofI xs) = some xs
  | [] => rfl
  | x :: r => by
    have := intsD_ofI r
    simp only [ofI, List.map_cons, intsD] at this ⊢
    rw [this]
theorem bools_true : ∀ n : Nat, bools (List.replicate n (D.bl true)) = some (List.replicate n true)
  | 0 => rfl
  | n + 1 => by simp only [List.replicate_succ, bools, bools_true n]
theorem dd_len {xs : List Int} (h : xs.Nodup) : (dd xs).length = xs.length := same_len (dd_nodup xs) h fun z => dd_mem
theorem order_at {xs : List Int} (o : Ord xs) (g : GS) : oOrder [.tup (ofI xs)] g = .ok (.bl true) g := by
  let s : LS := ⟨[some (.d (.tup (ofI xs))), none], [], g⟩
  have len : eB (arg1 sLen) (aCons (eVar 0) aNil) s = okD (.int xs.length) s := by
    rw [eB1_d (fa := eVar 0) (d := .tup (ofI xs)) rfl]
    show okD (.int ((ofI xs).length : Nat)) s = _
    rw [len_ofI]
  have lo := o.low
  have hi := o.high
  have t1 : tOu (tNo (tV (eUn (sIsi .tuple) (eVar 0)))) (tNo (tV (eCh sLe sLe (eC (.int 1)) (eB (arg1 sLen) (aCons (eVar 0) aNil)) (eC (.int 10))))) s = .ok false s := by
    have a1 : eUn (sIsi .tuple) (eVar 0) s = okD (.bl true) s := rfl
    have a2 := eCh_d (s := s) (fa := eC (.int 1)) (fc := eC (.int 10)) (a := 1) (c := 10) rfl len rfl
    rw [decide_eq_true (by omega : (1 : Int) ≤ xs.length), decide_eq_true (by omega : (xs.length : Int) ≤ 10)] at a2
    exact tOu_d (tNo_d (tV_d a1)) (tNo_d (tV_d a2))
  have comp : eLc (iSeq (eVar 0)) (gN 1) tYe (eCall oInt (aCons (eVar 1) (aCons (eC (.int 1)) (aCons (eB (arg1 sLen) (aCons (eVar 0) aNil)) aNil)))) [1] s = okD (.lst (List.replicate xs.length (.bl true))) s := by
    have each : ∀ d ∈ ofI xs, lcTurn (gN 1) tYe (eCall oInt (aCons (eVar 1) (aCons (eC (.int 1)) (aCons (eB (arg1 sLen) (aCons (eVar 0) aNil)) aNil)))) (seen s.loc [1]) d s.g = some ((fun _ => some (D.bl true)) d, s.g) := by
      intro d hd
      obtain ⟨x, hx, rfl⟩ := List.mem_map.mp hd
      obtain ⟨x1, x2⟩ := o.rank x hx
      let u : LS := ⟨[some (.d (.tup (ofI xs))), some (.d (.int x))], [], g⟩
      have len2 : eB (arg1 sLen) (aCons (eVar 0) aNil) u = okD (.int xs.length) u := by
        rw [eB1_d (fa := eVar 0) (d := .tup (ofI xs)) rfl]
        show okD (.int ((ofI xs).length : Nat)) u = _
        rw [len_ofI]
      have c := eCall3 (s := u) (fa := eVar 1) (fb := eC (.int 1)) (d := .int x) (e := .int 1) rfl rfl len2 (int_at x 1 xs.length g)
      rw [decide_eq_true x1, decide_eq_true x2] at c
      show (match eCall oInt _ u with | .ok (.d y) s2 => some (some y, s2.g) | _ => none) = _
      rw [c]
      rfl
    have q := eLc_ok (fi := iSeq (eVar 0)) (vs := [1]) (s := s) (s1 := s) (ds := ofI xs) rfl (by rw [len_ofI]; omega) each
    rw [q, filterMap_ofI]
    congr 3
    clear q each t1 len lo hi o
    induction xs with
    | nil => rfl
    | cons x r ih => rw [List.filterMap_cons, ih, List.length_cons, List.replicate_succ]
  have t2 : tNo (tV (eB (arg1 sAll) (aCons (eLc (iSeq (eVar 0)) (gN 1) tYe (eCall oInt (aCons (eVar 1) (aCons (eC (.int 1)) (aCons (eB (arg1 sLen) (aCons (eVar 0) aNil)) aNil)))) [1]) aNil))) s = .ok false s := by
    refine tNo_d (x := true) (tV_d ?_)
    rw [eB1_d comp]
    show onO (bools (List.replicate xs.length (D.bl true))) _ = _
    rw [bools_true]
    show okD (.bl ((List.replicate xs.length true).all id)) s = _
    rw [show (List.replicate xs.length true).all id = true by rw [List.all_eq_true]; intro b hb; exact (List.mem_replicate.mp hb).2]
  have t3 : eOp sEq (eUn sLs (eVar 0)) (eB (arg1 sLen) (aCons (eVar 0) aNil)) s = okD (.bl true) s := by
    have a1 : eUn sLs (eVar 0) s = okD (.int xs.length) s := by
      rw [eUn_d (fa := eVar 0) (d := .tup (ofI xs)) rfl]
      show onO (intsD (ofI xs)) _ = _
      rw [intsD_ofI]
      show gd (decide (xs.length ≤ 1000)) (okD (.int ((dd xs).length : Nat)) s) = _
      rw [decide_eq_true (by omega), dd_len o.once]
      rfl
    rw [eOp_d a1 len]
    show onO (eqG g (.int xs.length) (.int xs.length)) _ = _
    rw [eqG_int, decide_eq_true rfl]
    rfl
  show fin (sSeq _ _ s) = _
  rw [sSeq_nx (s1 := s) (by rw [sIf_f t1]; rfl), sSeq_nx (s1 := s) (by rw [sIf_f t2]; rfl), sRet_d t3]
  rfl
def oCheck : List D → GS → FOut := runF 1 1 (sIf (tNo (tV (eCall oOrder (aCons (eVar 0) aNil)))) (sRaise "InvalidOrder") sNx)
theorem check_at {xs : List Int} (o : Ord xs) (g : GS) : oCheck [.tup (ofI xs)] g = .ok .non g := by
  let s : LS := ⟨[some (.d (.tup (ofI xs)))], [], g⟩
  have c := eCall1 (s := s) (fa := eVar 0) (d := .tup (ofI xs)) rfl (order_at o g)
  show fin (sIf _ _ _ s) = _
  rw [sIf_f (s1 := s) (tNo_d (tV_d c))]
  rfl
end Br

/-! Relative ranks, records, what waiting takes: told on lists of ints. -/
namespace Br
open PySem L2
/-- relative ranks of what comes behind done -/
def relGo (done : List Int) : List Int → List Int
  | [] => []
  | x :: r => (((done ++ [x]).filter fun y => decide (y ≤ x)).length : Int) :: relGo (done ++ [x]) r
def relL (xs : List Int) : List Int := relGo [] xs
theorem relGo_len : ∀ (rest done : List Int), (relGo done rest).length = rest.length
  | [], _ => rfl
  | x :: r, done => by simp only [relGo, List.length_cons, relGo_len r]
theorem relL_len (xs : List Int) : (relL xs).length = xs.length := relGo_len xs []
def oRelOf : List D → GS → FOut := runF 1 5 (sSeq (sSet 1 (eLstO aNil))
  (sSeq (sFor (iEnum (eVar 0)) (gT2 2 3) (sMut mApp 1 (eB (arg1 sLen) (aCons (eLc (iSeq (eSl (eVar 0) pNo (pSo (eOp sAdd (eVar 2) (eC (.int 1)))))) (gN 4) (tV (eOp sLe (eVar 4) (eVar 3))) (eC (.int 1)) [4]) aNil))))
  (sRet (eB (arg1 sTuple) (aCons (eVar 1) aNil)))))
theorem cut_take {α : Type} (xs : List α) (k : Nat) : cutA xs none (some ((k : Nat) : Int)) = xs.take k := by
  unfold cutA
  rw [HT.sIx_none, HT.sIx_nat, List.drop_zero, Nat.sub_zero]
  rcases Nat.le_total k xs.length with h | h
  · rw [Nat.min_eq_left h]
  · rw [Nat.min_eq_right h, List.take_length, List.take_of_length_le h]
/-- one turn: the relative rank of x behind done -/
theorem rel_turn {done rest : List Int} {x : Int} {acc : List D} (few : (done ++ x :: rest).length ≤ 1000) (few2 : acc.length ≤ 1000) (g : GS) :
    sMut mApp 1 (eB (arg1 sLen) (aCons (eLc (iSeq (eSl (eVar 0) pNo (pSo (eOp sAdd (eVar 2) (eC (.int 1)))))) (gN 4) (tV (eOp sLe (eVar 4) (eVar 3))) (eC (.int 1)) [4]) aNil))
      ⟨[some (.d (.tup (ofI (done ++ x :: rest)))), some (.own 0), some (.d (.int (done.length : Nat))), some (.d (.int x)), none], [some (.l acc)], g⟩ =
    .ok .nx ⟨[some (.d (.tup (ofI (done ++ x :: rest)))), some (.own 0), some (.d (.int (done.length : Nat))), some (.d (.int x)), none], [some (.l (acc ++ [.int (((done ++ [x]).filter fun y => decide (y ≤ x)).length : Nat)]))], g⟩ := by
  let s : LS := ⟨[some (.d (.tup (ofI (done ++ x :: rest)))), some (.own 0), some (.d (.int (done.length : Nat))), some (.d (.int x)), none], [some (.l acc)], g⟩
  have cut : cutA (ofI (done ++ x :: rest)) none (some ((done.length : Nat) + 1 : Int)) = ofI (done ++ [x]) := by
    rw [show ((done.length : Nat) + 1 : Int) = ((done.length + 1 : Nat) : Int) by omega, cut_take, ofI, ← List.map_take]
    congr 1
    rw [List.take_append, List.take_of_length_le (by omega), show done.length + 1 - done.length = 1 by omega]
    rfl
  have items : iSeq (eSl (eVar 0) pNo (pSo (eOp sAdd (eVar 2) (eC (.int 1))))) s = .ok (ofI (done ++ [x])) s := by
    show Out.ok (cutA (ofI (done ++ x :: rest)) none (some ((done.length : Nat) + 1 : Int))) s = _
    rw [cut]
  have short : (done ++ [x]).length ≤ 1000 := by simp only [List.length_append, List.length_cons, List.length_nil] at few ⊢; omega
  have each : ∀ d ∈ ofI (done ++ [x]), lcTurn (gN 4) (tV (eOp sLe (eVar 4) (eVar 3))) (eC (.int 1)) (seen s.loc [4]) d s.g = some ((fun d => match d with | .int y => if y ≤ x then some (D.int 1) else none | _ => none) d, s.g) := by
    intro d hd
    obtain ⟨y, hy, rfl⟩ := List.mem_map.mp hd
    let u : LS := ⟨[some (.d (.tup (ofI (done ++ x :: rest)))), none, some (.d (.int (done.length : Nat))), some (.d (.int x)), some (.d (.int y))], [], g⟩
    show (match (Out.ok (decide (y ≤ x)) u : Out Bool) with | .ok true s1 => (match eC (.int 1) s1 with | .ok (.d y) s2 => some (some y, s2.g) | _ => none) | .ok false s1 => some (none, s1.g) | _ => none) = some (if y ≤ x then some (D.int 1) else none, g)
    by_cases h : y ≤ x
    · simp only [decide_eq_true h, if_pos h, eC]; rfl
    · simp only [decide_eq_false h, if_neg h]; rfl
  have comp := eLc_ok (fi := iSeq (eSl (eVar 0) pNo (pSo (eOp sAdd (eVar 2) (eC (.int 1)))))) (vs := [4]) items (by rw [len_ofI]; omega) each
  have count : ∀ zs : List Int, ((ofI zs).filterMap (fun d => match d with | .int y => if y ≤ x then some (D.int 1) else none | _ => none)).length = (zs.filter fun y => decide (y ≤ x)).length := by
    intro zs
    rw [filterMap_ofI]
    induction zs with
    | nil => rfl
    | cons z r ih =>
      by_cases h : z ≤ x
      · simp only [List.filterMap_cons, if_pos h, List.length_cons, ih, List.filter_cons, decide_eq_true h, if_true]
      · simp only [List.filterMap_cons, if_neg h, ih, List.filter_cons, decide_eq_false h]; rfl
  have val : eB (arg1 sLen) (aCons (eLc (iSeq (eSl (eVar 0) pNo (pSo (eOp sAdd (eVar 2) (eC (.int 1)))))) (gN 4) (tV (eOp sLe (eVar 4) (eVar 3))) (eC (.int 1)) [4]) aNil) s = okD (.int (((done ++ [x]).filter fun y => decide (y ≤ x)).length : Nat)) s := by
    rw [eB1_d comp]
    show okD (.int (_ : Nat)) s = _
    rw [count]
  show (onO (ownAt 1 s) fun k => (eB (arg1 sLen) _ s).bind _) = _
  rw [val]
  show onO (mApp acc (.int (((done ++ [x]).filter fun y => decide (y ≤ x)).length : Nat))) _ = _
  unfold mApp
  rw [if_pos (by omega)]
  rfl
theorem rel_loop (g : GS) : ∀ (rest done : List Int) (acc : List D) (a b : Option Lv), (done ++ rest).length ≤ 1000 → acc.length ≤ done.length → ∃ a' b',
    forL (gT2 2 3) (sMut mApp 1 (eB (arg1 sLen) (aCons (eLc (iSeq (eSl (eVar 0) pNo (pSo (eOp sAdd (eVar 2) (eC (.int 1)))))) (gN 4) (tV (eOp sLe (eVar 4) (eVar 3))) (eC (.int 1)) [4]) aNil))) (numD done.length (ofI rest))
      ⟨[some (.d (.tup (ofI (done ++ rest)))), some (.own 0), a, b, none], [some (.l acc)], g⟩ =
    .ok .nx ⟨[some (.d (.tup (ofI (done ++ rest)))), some (.own 0), a', b', none], [some (.l (acc ++ ofI (relGo done rest)))], g⟩
  | [], done, acc, a, b, _, _ => ⟨a, b, by
      show Out.ok Fl.nx _ = _
      rw [show acc ++ ofI (relGo done []) = acc from List.append_nil acc]⟩
  | x :: r, done, acc, a, b, few, le => by
    have turn := rel_turn (done := done) (rest := r) (x := x) (acc := acc) few (by simp only [List.length_append] at few; omega) g
    obtain ⟨a', b', e⟩ := rel_loop g r (done ++ [x]) (acc ++ [.int (((done ++ [x]).filter fun y => decide (y ≤ x)).length : Nat)]) (some (.d (.int (done.length : Nat)))) (some (.d (.int x)))
      (by rw [List.append_assoc]; exact few) (by simp only [List.length_append, List.length_cons, List.length_nil]; omega)
    refine ⟨a', b', ?_⟩
    rw [show (done ++ [x]) ++ r = done ++ x :: r by rw [List.append_assoc]; rfl, show (done ++ [x]).length = done.length + 1 by rw [List.length_append]; rfl] at e
    show Out.bind (sMut mApp 1 _ ⟨[some (.d (.tup (ofI (done ++ x :: r)))), some (.own 0), some (.d (.int (done.length : Nat))), some (.d (.int x)), none], [some (.l acc)], g⟩) _ = _
    rw [turn]
    refine e.trans ?_
    rw [relGo, List.append_assoc]
    rfl
theorem rel_at {xs : List Int} (few : xs.length ≤ 1000) (g : GS) : oRelOf [.tup (ofI xs)] g = .ok (.tup (ofI (relL xs))) g := by
  obtain ⟨a, b, e⟩ := rel_loop g xs [] [] none none few (Nat.le_refl _)
  show fin (sSeq (sSet 1 (eLstO aNil)) _ ⟨[some (.d (.tup (ofI xs))), none, none, none, none], [], g⟩) = _
  have first : sSet 1 (eLstO aNil) ⟨[some (.d (.tup (ofI xs))), none, none, none, none], [], g⟩ = .ok .nx ⟨[some (.d (.tup (ofI xs))), some (.own 0), none, none, none], [some (.l [])], g⟩ := rfl
  rw [sSeq_nx first]
  have loop : sFor (iEnum (eVar 0)) (gT2 2 3) (sMut mApp 1 (eB (arg1 sLen) (aCons (eLc (iSeq (eSl (eVar 0) pNo (pSo (eOp sAdd (eVar 2) (eC (.int 1)))))) (gN 4) (tV (eOp sLe (eVar 4) (eVar 3))) (eC (.int 1)) [4]) aNil))) ⟨[some (.d (.tup (ofI xs))), some (.own 0), none, none, none], [some (.l [])], g⟩ = _ := e
  rw [sSeq_nx loop]
  rfl
/-! ### relative, records -/
def oRel : List D → GS → FOut := runF 1 1 (sSeq (sEx (eCall oCheck (aCons (eVar 0) aNil))) (sRet (eCall oRelOf (aCons (eVar 0) aNil))))
theorem sEx_d {f : LS → Out Lv} {d : D} {s s1 : LS} (h : f s = okD d s1) : sEx f s = .ok .nx s1 := by unfold sEx; rw [h]; rfl
theorem relative_at {xs : List Int} (o : Ord xs) (g : GS) : oRel [.tup (ofI xs)] g = .ok (.tup (ofI (relL xs))) g := by
  let s : LS := ⟨[some (.d (.tup (ofI xs)))], [], g⟩
  have c1 := eCall1 (s := s) (fa := eVar 0) (d := .tup (ofI xs)) rfl (check_at o g)
  have hi := o.high
  have c2 := eCall1 (s := s) (fa := eVar 0) (d := .tup (ofI xs)) rfl (rel_at (by omega) g)
  show fin (sSeq _ _ s) = _
  rw [sSeq_nx (sEx_d c1), sRet_d c2]
  rfl
/-- the places, counted from k + 1 on, of the ones -/
def ones : Nat → List Int → List Int
  | _, [] => []
  | k, x :: r => if x = 1 then ((k + 1 : Nat) : Int) :: ones (k + 1) r else ones (k + 1) r
def recL (xs : List Int) : List Int := ones 0 (relL xs)
def oRec : List D → GS → FOut := runF 1 3 (sSeq (sEx (eCall oCheck (aCons (eVar 0) aNil)))
  (sRet (eLc (iEnum (eCall oRelOf (aCons (eVar 0) aNil))) (gT2 1 2) (tV (eOp sEq (eVar 2) (eC (.int 1)))) (eOp sAdd (eVar 1) (eC (.int 1))) [1, 2])))
theorem numD_mem {k : Nat} {d : D} : ∀ {xs : List Int}, d ∈ numD k (ofI xs) → ∃ (i : Nat) (x : Int), d = .tup [.int (i : Nat), .int x]
  | [], h => nomatch h
  | x :: r, h => by
    obtain e | h := List.mem_cons.mp h
    · exact ⟨k, x, e⟩
    · exact numD_mem h
def pick1 : D → Option D
  | .tup [.int i, .int x] => if x = 1 then some (.int (i + 1)) else none
  | _ => none
theorem pick_ones : ∀ (xs : List Int) (k : Nat), (numD k (ofI xs)).filterMap pick1 = ofI (ones k xs)
  | [], _ => rfl
  | x :: r, k => by
    have ih := pick_ones r (k + 1)
    show (D.tup [.int (k : Nat), .int x] :: numD (k + 1) (ofI r)).filterMap pick1 = _
    rw [List.filterMap_cons]
    by_cases h : x = 1
    · simp only [pick1, if_pos h, ih, ones, ofI, List.map_cons]
      rfl
    · simp only [pick1, if_neg h, ih, ones]
theorem records_at {xs : List Int} (o : Ord xs) (g : GS) : oRec [.tup (ofI xs)] g = .ok (.lst (ofI (recL xs))) g := by
  let s : LS := ⟨[some (.d (.tup (ofI xs))), none, none], [], g⟩
  have hi := o.high
  have c1 := eCall1 (s := s) (fa := eVar 0) (d := .tup (ofI xs)) rfl (check_at o g)
  have c2 := eCall1 (s := s) (fa := eVar 0) (d := .tup (ofI xs)) rfl (rel_at (by omega) g)
  have items : iEnum (eCall oRelOf (aCons (eVar 0) aNil)) s = .ok (numD 0 (ofI (relL xs))) s := by
    unfold iEnum iSeq
    rw [c2]
    rfl
  have each : ∀ d ∈ numD 0 (ofI (relL xs)), lcTurn (gT2 1 2) (tV (eOp sEq (eVar 2) (eC (.int 1)))) (eOp sAdd (eVar 1) (eC (.int 1))) (seen s.loc [1, 2]) d s.g = some (pick1 d, s.g) := by
    intro d hd
    obtain ⟨i, x, rfl⟩ := numD_mem hd
    let u : LS := ⟨[some (.d (.tup (ofI xs))), some (.d (.int (i : Nat))), some (.d (.int x))], [], g⟩
    have test : tV (eOp sEq (eVar 2) (eC (.int 1))) u = .ok (decide (x = 1)) u := by
      refine tV_d ?_
      rw [eOp_d (show eVar 2 u = okD (.int x) u from rfl) (show eC (.int 1) u = okD (.int 1) u from rfl)]
      show onO (eqG g (.int x) (.int 1)) _ = _
      rw [eqG_int]
      rfl
    show (match tV (eOp sEq (eVar 2) (eC (.int 1))) u with | .ok true s1 => (match eOp sAdd (eVar 1) (eC (.int 1)) s1 with | .ok (.d y) s2 => some (some y, s2.g) | _ => none) | .ok false s1 => some (none, s1.g) | _ => none) = some (if x = 1 then some (D.int ((i : Nat) + 1)) else none, g)
    rw [test]
    by_cases h : x = 1
    · simp only [decide_eq_true h, if_pos h]; rfl
    · simp only [decide_eq_false h, if_neg h]; rfl
  have comp := eLc_ok (fi := iEnum (eCall oRelOf (aCons (eVar 0) aNil))) (vs := [1, 2]) items (by rw [numD_len, len_ofI, relL_len]; omega) each
  rw [pick_ones] at comp
  show fin (sSeq _ _ s) = _
  rw [sSeq_nx (sEx_d c1), sRet_d comp]
  rfl
/-! ### waiting -/
def oWait : List D → GS → FOut := runF 2 2 (sIf (tNo (tV (eCall oInt (aCons (eVar 1) (aCons (eC (.int 0)) (aCons (eOp sSub (eVar 0) (eC (.int 1))) aNil)))))) (sRaise "InvalidNumber") sNx)
theorem wait_at {n r : Int} (h0 : 0 ≤ r) (h1 : r < n) (g : GS) : oWait [.int n, .int r] g = .ok .non g := by
  let s : LS := ⟨[some (.d (.int n)), some (.d (.int r))], [], g⟩
  have c := eCall3 (s := s) (fa := eVar 1) (fb := eC (.int 0)) (fc := eOp sSub (eVar 0) (eC (.int 1))) (d := .int r) (e := .int 0) (q := .int (n - 1)) rfl rfl rfl (int_at r 0 (n - 1) g)
  rw [decide_eq_true h0, decide_eq_true (by omega : r ≤ n - 1)] at c
  show fin (sIf _ _ _ s) = _
  rw [sIf_f (s1 := s) (tNo_d (tV_d c))]
  rfl
/-- the rank at the first place from r on whose relative rank is 1 -/
def firstGo (r : Int) : Nat → List Int → List Int → Option Int
  | k, q :: qs, x :: xs => if r ≤ (k : Nat) ∧ q = 1 then some x else firstGo r (k + 1) qs xs
  | _, _, _ => none
def takeL (xs : List Int) (r : Int) : Int := (firstGo r 0 (relL xs) xs).getD (xs.getLastD 0)
def oTake : List D → GS → FOut := runF 2 4 (sSeq (sEx (eCall oCheck (aCons (eVar 0) aNil)))
  (sSeq (sEx (eCall oWait (aCons (eB (arg1 sLen) (aCons (eVar 0) aNil)) (aCons (eVar 1) aNil))))
  (sSeq (sFor (iEnum (eCall oRelOf (aCons (eVar 0) aNil))) (gT2 2 3) (sIf (tAn (tV (eOp sGe (eVar 2) (eVar 1))) (tV (eOp sEq (eVar 3) (eC (.int 1))))) (sRet (eOp sIx (eVar 0) (eVar 2))) sNx))
  (sRet (eOp sIx (eVar 0) (eUn sNeg (eC (.int 1))))))))
theorem at_nat (xs : List Int) {k : Nat} {x : Int} (h : xs[k]? = some x) : atI (ofI xs) ((k : Nat) : Int) = some (.int x) := by
  obtain ⟨lt, e⟩ := List.getElem?_eq_some_iff.mp h
  unfold atI ixN
  rw [len_ofI, if_pos (by omega), if_pos (by omega), Int.toNat_natCast, Option.bind_some, ofI, List.getElem?_map, h]
  rfl
theorem at_last {xs : List Int} (h : xs ≠ []) : atI (ofI xs) (-1) = some (.int (xs.getLastD 0)) := by
  have pos : 0 < xs.length := List.length_pos_iff.mpr h
  have e : xs[xs.length - 1]? = some (xs.getLastD 0) := by
    rw [← List.getLast?_eq_getElem?, List.getLastD_eq_getLast?, List.getLast?_eq_some_getLast h]
    rfl
  unfold atI ixN
  rw [len_ofI, if_neg (by omega), if_pos (by omega), Option.bind_some, show ((-1 : Int) + (xs.length : Nat)).toNat = xs.length - 1 by omega, ofI, List.getElem?_map, e]
  rfl
abbrev wTurn : LS → Out Fl := sIf (tAn (tV (eOp sGe (eVar 2) (eVar 1))) (tV (eOp sEq (eVar 3) (eC (.int 1))))) (sRet (eOp sIx (eVar 0) (eVar 2))) sNx
theorem wait_turn {X : List D} {r q : Int} {k : Nat} {g : GS} : tAn (tV (eOp sGe (eVar 2) (eVar 1))) (tV (eOp sEq (eVar 3) (eC (.int 1)))) ⟨[some (.d (.tup X)), some (.d (.int r)), some (.d (.int (k : Nat))), some (.d (.int q))], [], g⟩ = .ok (decide (r ≤ (k : Nat)) && decide (q = 1)) ⟨[some (.d (.tup X)), some (.d (.int r)), some (.d (.int (k : Nat))), some (.d (.int q))], [], g⟩ := by
  let u : LS := ⟨[some (.d (.tup X)), some (.d (.int r)), some (.d (.int (k : Nat))), some (.d (.int q))], [], g⟩
  refine tAn_d (s := u) (tV_d (x := decide (r ≤ (k : Nat))) rfl) (tV_d ?_)
  rw [eOp_d (show eVar 3 u = okD (.int q) u from rfl) (show eC (.int 1) u = okD (.int 1) u from rfl)]
  show onO (eqG g (.int q) (.int 1)) _ = _
  rw [eqG_int]
  rfl
theorem wait_loop (full : List Int) (r : Int) (g : GS) : ∀ (qs rest done : List Int) (a b : Option Lv), full = done ++ rest → qs.length = rest.length → ∃ a' b',
    forL (gT2 2 3) wTurn (numD done.length (ofI qs)) ⟨[some (.d (.tup (ofI full))), some (.d (.int r)), a, b], [], g⟩ =
    .ok (match firstGo r done.length qs rest with | some v => .ret (.int v) | none => .nx) ⟨[some (.d (.tup (ofI full))), some (.d (.int r)), a', b'], [], g⟩
  | [], rest, done, a, b, _, _ => ⟨a, b, by
      have none_ : firstGo r done.length [] rest = none := by cases rest <;> rfl
      rw [none_]
      rfl⟩
  | q :: qs, [], done, a, b, _, l => nomatch l
  | q :: qs, x :: rest, done, a, b, e, l => by
    have test := wait_turn (X := ofI full) (r := r) (q := q) (k := done.length) (g := g)
    by_cases h : r ≤ ((done.length : Nat) : Int) ∧ q = 1
    · refine ⟨some (.d (.int (done.length : Nat))), some (.d (.int q)), ?_⟩
      rw [decide_eq_true h.1, decide_eq_true h.2] at test
      have here : full[done.length]? = some x := by rw [e, List.getElem?_append_right (Nat.le_refl _), Nat.sub_self]; rfl
      have val : wTurn ⟨[some (.d (.tup (ofI full))), some (.d (.int r)), some (.d (.int (done.length : Nat))), some (.d (.int q))], [], g⟩ = .ok (.ret (.int x)) ⟨[some (.d (.tup (ofI full))), some (.d (.int r)), some (.d (.int (done.length : Nat))), some (.d (.int q))], [], g⟩ := by
        unfold wTurn
        rw [sIf_t test]
        refine sRet_d ?_
        show onO (atI (ofI full) ((done.length : Nat) : Int)) _ = _
        rw [at_nat full here]
        rfl
      show Out.bind (wTurn ⟨[some (.d (.tup (ofI full))), some (.d (.int r)), some (.d (.int (done.length : Nat))), some (.d (.int q))], [], g⟩) _ = _
      rw [val, firstGo, if_pos h]
      rfl
    · have test : _ = Out.ok false _ := test.trans (by
        rw [show (decide (r ≤ ((done.length : Nat) : Int)) && decide (q = 1)) = false by simpa using h])
      obtain ⟨a', b', go⟩ := wait_loop full r g qs rest (done ++ [x]) (some (.d (.int (done.length : Nat)))) (some (.d (.int q))) (by rw [e, List.append_assoc]; rfl) (by simpa using l)
      refine ⟨a', b', ?_⟩
      have val : wTurn ⟨[some (.d (.tup (ofI full))), some (.d (.int r)), some (.d (.int (done.length : Nat))), some (.d (.int q))], [], g⟩ = .ok .nx ⟨[some (.d (.tup (ofI full))), some (.d (.int r)), some (.d (.int (done.length : Nat))), some (.d (.int q))], [], g⟩ := by
        unfold wTurn
        rw [sIf_f test]
        rfl
      show Out.bind (wTurn ⟨[some (.d (.tup (ofI full))), some (.d (.int r)), some (.d (.int (done.length : Nat))), some (.d (.int q))], [], g⟩) _ = _
      rw [val, firstGo, if_neg h]
      rw [show (done ++ [x]).length = done.length + 1 by rw [List.length_append]; rfl] at go
      exact go
theorem take_at {xs : List Int} (o : Ord xs) {r : Int} (h0 : 0 ≤ r) (h1 : r < xs.length) (g : GS) : oTake [.tup (ofI xs), .int r] g = .ok (.int (takeL xs r)) g := by
  let s : LS := ⟨[some (.d (.tup (ofI xs))), some (.d (.int r)), none, none], [], g⟩
  have hi := o.high
  have lo := o.low
  have ne : xs ≠ [] := List.ne_nil_of_length_pos (by omega)
  have c1 := eCall1 (s := s) (fa := eVar 0) (d := .tup (ofI xs)) rfl (check_at o g)
  have len : eB (arg1 sLen) (aCons (eVar 0) aNil) s = okD (.int xs.length) s := by
    rw [eB1_d (fa := eVar 0) (d := .tup (ofI xs)) rfl]
    show okD (.int ((ofI xs).length : Nat)) s = _
    rw [len_ofI]
  have c2 := eCall2 (s := s) (fb := eVar 1) (e := .int r) len rfl (wait_at h0 h1 g)
  have c3 := eCall1 (s := s) (fa := eVar 0) (d := .tup (ofI xs)) rfl (rel_at (by omega) g)
  obtain ⟨a, b, loop⟩ := wait_loop xs r g (relL xs) xs [] none none rfl (relL_len xs)
  have items : iEnum (eCall oRelOf (aCons (eVar 0) aNil)) s = .ok (numD 0 (ofI (relL xs))) s := by
    unfold iEnum iSeq
    rw [c3]
    rfl
  have run := (show sFor (iEnum (eCall oRelOf (aCons (eVar 0) aNil))) (gT2 2 3) wTurn s = forL (gT2 2 3) wTurn (numD ([] : List Int).length (ofI (relL xs))) s by
    unfold sFor
    rw [items]
    rfl).trans loop
  show fin (sSeq _ _ s) = _
  rw [sSeq_nx (sEx_d c1), sSeq_nx (sEx_d c2)]
  unfold takeL
  rw [List.length_nil] at run
  cases hf : firstGo r 0 (relL xs) xs with
  | some v =>
    rw [hf] at run
    rw [sSeq_ret run]
    rfl
  | none =>
    rw [hf] at run
    rw [sSeq_nx run]
    have last : eOp sIx (eVar 0) (eUn sNeg (eC (.int 1))) ⟨[some (.d (.tup (ofI xs))), some (.d (.int r)), a, b], [], g⟩ = okD (.int (xs.getLastD 0)) ⟨[some (.d (.tup (ofI xs))), some (.d (.int r)), a, b], [], g⟩ := by
      show onO (atI (ofI xs) (-1)) _ = _
      rw [at_last ne]
      rfl
    rw [sRet_d last]
    rfl
end Br

/-! What the defs about orders and rules give on lists of ints: shorter ways for kernel runs, and facts for proofs. -/
namespace Br
open PySem L2
/-! ### orders -/
def nodupB : List Int → Bool
  | [] => true
  | x :: r => !(r.contains x) && nodupB r
theorem nodupB_of : ∀ {xs : List Int}, nodupB xs = true → xs.Nodup
  | [], _ => List.nodup_nil
  | x :: r, h => by
    unfold nodupB at h
    rw [Bool.and_eq_true] at h
    refine List.nodup_cons.mpr ⟨fun m => ?_, nodupB_of h.2⟩
    have := h.1
    rw [List.contains_iff_mem.mpr m] at this
    cases this
def ordB (xs : List Int) : Bool := decide (1 ≤ xs.length) && decide (xs.length ≤ 10) && xs.all (fun x => decide (1 ≤ x) && decide (x ≤ xs.length)) && nodupB xs
theorem ordB_of {xs : List Int} (h : ordB xs = true) : Ord xs := by
  unfold ordB at h
  rw [Bool.and_eq_true, Bool.and_eq_true, Bool.and_eq_true, List.all_eq_true] at h
  obtain ⟨⟨⟨lo, hi⟩, each⟩, once⟩ := h
  refine ⟨of_decide_eq_true lo, of_decide_eq_true hi, fun x hx => ?_, nodupB_of once⟩
  have := each x hx
  rw [Bool.and_eq_true] at this
  exact ⟨of_decide_eq_true this.1, of_decide_eq_true this.2⟩
/-- a fast answer out of a tuple of ints -/
def onTup (k : List Int → Option D) : List D → Option D
  | [.tup ds] => (intsD ds).bind k
  | _ => none
theorem onTup_ok {k : List Int → Option D} {m : List D → GS → FOut} (h : ∀ xs d g, k xs = some d → m [.tup (ofI xs)] g = .ok d g) : ∀ ds d g, onTup k ds = some d → m ds g = .ok d g := by
  intro ds d g e
  unfold onTup at e
  split at e
  · obtain ⟨xs, hx, e⟩ := Option.bind_eq_some_iff.mp e
    rw [intsD_eq hx]
    exact h xs d g e
  · cases e
def fOrder : List D → Option D := onTup fun xs => if ordB xs = true then some (.bl true) else none
theorem ok_order : ∀ ds d g, fOrder ds = some d → oOrder ds g = .ok d g := onTup_ok fun xs d g h => by
  split at h
  · rename_i c
    cases h
    exact order_at (ordB_of c) g
  · cases h
def fCheckO : List D → Option D := onTup fun xs => if ordB xs = true then some .non else none
theorem ok_checkO : ∀ ds d g, fCheckO ds = some d → oCheck ds g = .ok d g := onTup_ok fun xs d g h => by
  split at h
  · rename_i c
    cases h
    exact check_at (ordB_of c) g
  · cases h
def fRelOf : List D → Option D := onTup fun xs => if xs.length ≤ 1000 then some (.tup (ofI (relL xs))) else none
theorem ok_relOf : ∀ ds d g, fRelOf ds = some d → oRelOf ds g = .ok d g := onTup_ok fun xs d g h => by
  split at h
  · rename_i c
    cases h
    exact rel_at c g
  · cases h
def fRel : List D → Option D := onTup fun xs => if ordB xs = true then some (.tup (ofI (relL xs))) else none
theorem ok_rel : ∀ ds d g, fRel ds = some d → oRel ds g = .ok d g := onTup_ok fun xs d g h => by
  split at h
  · rename_i c
    cases h
    exact relative_at (ordB_of c) g
  · cases h
def fRec : List D → Option D := onTup fun xs => if ordB xs = true then some (.lst (ofI (recL xs))) else none
theorem ok_rec : ∀ ds d g, fRec ds = some d → oRec ds g = .ok d g := onTup_ok fun xs d g h => by
  split at h
  · rename_i c
    cases h
    exact records_at (ordB_of c) g
  · cases h
def fTake : List D → Option D
  | [.tup ds, .int r] => (intsD ds).bind fun xs => if (ordB xs && decide (0 ≤ r) && decide (r < xs.length)) = true then some (.int (takeL xs r)) else none
  | _ => none
theorem ok_take : ∀ ds d g, fTake ds = some d → oTake ds g = .ok d g := by
  intro ds d g e
  unfold fTake at e
  split at e
  · obtain ⟨xs, hx, e⟩ := Option.bind_eq_some_iff.mp e
    rw [intsD_eq hx]
    split at e
    · rename_i c
      cases e
      rw [Bool.and_eq_true, Bool.and_eq_true] at c
      exact take_at (ordB_of c.1.1) (of_decide_eq_true c.1.2) (of_decide_eq_true c.2) g
    · cases e
  · cases e
/-! ### thresholds and relative ranks, place by place -/
def placeB (lo : Int) : Nat → List Int → List Bool
  | _, [] => []
  | k, x :: r => (decide (lo ≤ x) && decide (x ≤ ((k : Nat) : Int) + 1)) :: placeB lo (k + 1) r
def fitF (lo : Int) : D → Option D
  | .tup [.int i, .int x] => some (.bl (decide (lo ≤ x) && decide (x ≤ i + 1)))
  | _ => none
theorem fit_list (lo : Int) : ∀ (xs : List Int) (k : Nat), (numD k (ofI xs)).filterMap (fitF lo) = (placeB lo k xs).map D.bl
  | [], _ => rfl
  | x :: r, k => by
    show (D.tup [.int (k : Nat), .int x] :: numD (k + 1) (ofI r)).filterMap (fitF lo) = _
    rw [List.filterMap_cons]
    simp only [fitF, fit_list lo r (k + 1), placeB, List.map_cons]
def oFits : List D → GS → FOut := runF 2 4 (sSeq (sIf (tOu (tNo (tV (eUn (sIsi .tuple) (eVar 1)))) (tV (eOp sNe (eB (arg1 sLen) (aCons (eVar 1) aNil)) (eVar 0)))) (sRet (eC (.bl false))) sNx)
  (sRet (eAn (eB (arg1 sAll) (aCons (eLc (iEnum (eVar 1)) (gT2 2 3) tYe (eCall oInt (aCons (eVar 3) (aCons (eC (.int 0)) (aCons (eOp sAdd (eVar 2) (eC (.int 1))) aNil)))) [2, 3]) aNil)) (eOp sEq (eOp sIx (eVar 1) (eUn sNeg (eC (.int 1)))) (eVar 0)))))
theorem sEq_int {i j : Int} {s : LS} : sEq (.int i) (.int j) s = okD (.bl (decide (i = j))) s := by
  unfold sEq
  rw [eqG_int]
  rfl
theorem sNe_int {i j : Int} {s : LS} : sNe (.int i) (.int j) s = okD (.bl (!decide (i = j))) s := by
  unfold sNe
  rw [eqG_int]
  rfl
def ruleB (n : Int) (xs : List Int) : Bool := decide ((xs.length : Int) = n) && ((placeB 0 0 xs).all id && decide (xs.getLastD 0 = n))
theorem len_d {xs : List Int} {s : LS} {f : LS → Out Lv} (h : f s = okD (.tup (ofI xs)) s) : eB (arg1 sLen) (aCons f aNil) s = okD (.int xs.length) s := by
  rw [eB1_d h]
  show okD (.int ((ofI xs).length : Nat)) s = _
  rw [len_ofI]
theorem all_d {bs : List Bool} {s : LS} {f : LS → Out Lv} (h : f s = okD (.lst (bs.map D.bl)) s) : eB (arg1 sAll) (aCons f aNil) s = okD (.bl (bs.all id)) s := by
  rw [eB1_d h]
  show onO (bools (bs.map D.bl)) _ = _
  rw [bools_map]
  rfl
theorem tOu2 {ta tb : LS → Out Bool} {x : Bool} {s : LS} (ha : ta s = .ok false s) (hb : tb s = .ok x s) : tOu ta tb s = .ok x s := by
  unfold tOu
  rw [ha]
  exact hb
theorem fits_at {n : Int} {xs : List Int} (ne : xs ≠ []) (few : xs.length ≤ 1000) (g : GS) : oFits [.int n, .tup (ofI xs)] g = .ok (.bl (ruleB n xs)) g := by
  let s : LS := ⟨[some (.d (.int n)), some (.d (.tup (ofI xs))), none, none], [], g⟩
  have v0 : eVar 0 s = okD (.int n) s := rfl
  have v1 : eVar 1 s = okD (.tup (ofI xs)) s := rfl
  have isi : eUn (sIsi .tuple) (eVar 1) s = okD (.bl true) s := rfl
  have t1 : tOu (tNo (tV (eUn (sIsi .tuple) (eVar 1)))) (tV (eOp sNe (eB (arg1 sLen) (aCons (eVar 1) aNil)) (eVar 0))) s = .ok (!decide ((xs.length : Int) = n)) s := tOu2 (tNo_d (tV_d isi)) (tV_d ((eOp_d (len_d v1) v0).trans sNe_int))
  show fin (sSeq _ _ s) = _
  by_cases c : (xs.length : Int) = n
  · rw [decide_eq_true c] at t1
    rw [sSeq_nx (s1 := s) (by rw [sIf_f t1]; rfl)]
    have items : iEnum (eVar 1) s = .ok (numD 0 (ofI xs)) s := rfl
    have each : ∀ d ∈ numD 0 (ofI xs), lcTurn (gT2 2 3) tYe (eCall oInt (aCons (eVar 3) (aCons (eC (.int 0)) (aCons (eOp sAdd (eVar 2) (eC (.int 1))) aNil)))) (seen s.loc [2, 3]) d s.g = some (fitF 0 d, s.g) := by
      intro d hd
      obtain ⟨i, x, rfl⟩ := numD_mem hd
      let u : LS := ⟨[some (.d (.int n)), some (.d (.tup (ofI xs))), some (.d (.int (i : Nat))), some (.d (.int x))], [], g⟩
      have q := eCall3 (s := u) (fa := eVar 3) (fb := eC (.int 0)) (fc := eOp sAdd (eVar 2) (eC (.int 1))) (d := .int x) (e := .int 0) (q := .int ((i : Nat) + 1)) rfl rfl rfl (int_at x 0 ((i : Nat) + 1) g)
      show (match eCall oInt _ u with | .ok (.d y) s2 => some (some y, s2.g) | _ => none) = _
      rw [q]
      rfl
    have comp := eLc_ok (fi := iEnum (eVar 1)) (vs := [2, 3]) items (by rw [numD_len, len_ofI]; omega) each
    rw [fit_list] at comp
    have last : eOp sIx (eVar 1) (eUn sNeg (eC (.int 1))) s = okD (.int (xs.getLastD 0)) s := by
      have m1 : eUn sNeg (eC (.int 1)) s = okD (.int (-1)) s := rfl
      rw [eOp_d v1 m1]
      show onO (atI (ofI xs) (-1)) _ = _
      rw [at_last ne]
      rfl
    have fin2 := (eOp_d last v0).trans (sEq_int (i := xs.getLastD 0) (j := n))
    have whole : eAn (eB (arg1 sAll) (aCons (eLc (iEnum (eVar 1)) (gT2 2 3) tYe (eCall oInt (aCons (eVar 3) (aCons (eC (.int 0)) (aCons (eOp sAdd (eVar 2) (eC (.int 1))) aNil)))) [2, 3]) aNil)) (eOp sEq (eOp sIx (eVar 1) (eUn sNeg (eC (.int 1)))) (eVar 0)) s = okD (.bl ((placeB 0 0 xs).all id && decide (xs.getLastD 0 = n))) s := by
      have a := all_d comp
      cases hb : (placeB 0 0 xs).all id with
      | true =>
        rw [hb] at a
        rw [eAn_t a, fin2]
        rfl
      | false =>
        rw [hb] at a
        rw [eAn_f a]
        rfl
    rw [sRet_d whole]
    unfold ruleB
    rw [decide_eq_true c]
    rfl
  · rw [decide_eq_false c] at t1
    rw [sSeq_ret (d := .bl false) (s1 := s) (by rw [sIf_t t1]; rfl)]
    unfold ruleB
    rw [decide_eq_false c]
    rfl
def fFits : List D → Option D
  | [.int n, .tup ds] => (intsD ds).bind fun xs => if xs ≠ [] ∧ xs.length ≤ 1000 then some (.bl (ruleB n xs)) else none
  | _ => none
theorem ok_fits : ∀ ds d g, fFits ds = some d → oFits ds g = .ok d g := by
  intro ds d g e
  unfold fFits at e
  split at e
  · obtain ⟨xs, hx, e⟩ := Option.bind_eq_some_iff.mp e
    rw [intsD_eq hx]
    split at e
    · rename_i c
      cases e
      exact fits_at c.1 c.2 g
    · cases e
  · cases e
def oCheckR : List D → GS → FOut := runF 2 2 (sIf (tNo (tV (eCall oFits (aCons (eVar 0) (aCons (eVar 1) aNil))))) (sRaise "InvalidRule") sNx)
theorem checkR_at {n : Int} {xs : List Int} (ne : xs ≠ []) (few : xs.length ≤ 1000) (h : ruleB n xs = true) (g : GS) : oCheckR [.int n, .tup (ofI xs)] g = .ok .non g := by
  let s : LS := ⟨[some (.d (.int n)), some (.d (.tup (ofI xs)))], [], g⟩
  have q := eCall2 (s := s) (fa := eVar 0) (fb := eVar 1) (d := .int n) (e := .tup (ofI xs)) rfl rfl (fits_at ne few g)
  rw [h] at q
  show fin (sIf _ _ _ s) = _
  rw [sIf_f (s1 := s) (tNo_d (tV_d q))]
  rfl
/-! ### what a rule takes -/
def tbGo : Nat → List Int → List Int → List Int
  | k, q :: r, t :: ts => if q ≤ t then ((k : Nat) : Int) :: tbGo (k + 1) r ts else tbGo (k + 1) r ts
  | _, _, _ => []
def tbF (rule : List Int) : D → Option D
  | .tup [.int i, .int x] => if x ≤ (rule[i.toNat]?).getD 0 then some (.int i) else none
  | _ => none
theorem tb_list : ∀ (qs done rest : List Int), qs.length = rest.length → (numD done.length (ofI qs)).filterMap (tbF (done ++ rest)) = ofI (tbGo done.length qs rest)
  | [], _, [], _ => rfl
  | [], _, _ :: _, h => by cases h
  | _ :: _, _, [], h => by cases h
  | q :: qs, done, t :: ts, h => by
    have ih := tb_list qs (done ++ [t]) ts (by simpa using h)
    rw [List.append_assoc, show (done ++ [t]).length = done.length + 1 by rw [List.length_append]; rfl] at ih
    show (D.tup [.int (done.length : Nat), .int q] :: numD (done.length + 1) (ofI qs)).filterMap (tbF (done ++ t :: ts)) = _
    rw [List.filterMap_cons]
    have at_ : ((done ++ t :: ts)[((done.length : Nat) : Int).toNat]?).getD 0 = t := by simp
    by_cases c : q ≤ t
    · simp only [tbF, at_, if_pos c, tbGo]
      rw [show [t] ++ ts = t :: ts from rfl] at ih
      rw [ih]
      rfl
    · simp only [tbF, at_, if_neg c, tbGo]
      exact ih
def tbL (xs rule : List Int) : Option Int := match tbGo 0 (relL xs) rule with
  | k :: _ => xs[k.toNat]?
  | [] => none
def oTakenBy : List D → GS → FOut := runF 2 5 (sSeq (sEx (eCall oCheck (aCons (eVar 0) aNil)))
  (sSeq (sEx (eCall oCheckR (aCons (eB (arg1 sLen) (aCons (eVar 0) aNil)) (aCons (eVar 1) aNil))))
  (sSeq (sSet 2 (eLc (iEnum (eCall oRelOf (aCons (eVar 0) aNil))) (gT2 3 4) (tV (eOp sLe (eVar 4) (eOp sIx (eVar 1) (eVar 3)))) (eVar 3) [3, 4]))
  (sRet (eOp sIx (eVar 0) (eOp sIx (eVar 2) (eC (.int 0))))))))
theorem numD_in {k : Nat} {d : D} : ∀ {xs : List Int}, d ∈ numD k (ofI xs) → ∃ (i : Nat) (x : Int), d = .tup [.int (i : Nat), .int x] ∧ i < k + xs.length
  | [], h => nomatch h
  | x :: r, h => by
    obtain e | h := List.mem_cons.mp h
    · exact ⟨k, x, e, by simp⟩
    · obtain ⟨i, y, e, lt⟩ := numD_in h
      exact ⟨i, y, e, by simp only [List.length_cons]; omega⟩
theorem tbGo_nat : ∀ (k : Nat) (qs ts : List Int) (j : Int) (r : List Int), tbGo k qs ts = j :: r → 0 ≤ j
  | k, [], _, j, r, h => by simp [tbGo] at h
  | k, _ :: _, [], j, r, h => by simp [tbGo] at h
  | k, q :: qs, t :: ts, j, r, h => by
    unfold tbGo at h
    split at h
    · injection h with h1 h2
      omega
    · exact tbGo_nat (k + 1) qs ts j r h
theorem takenBy_at {xs rule : List Int} {v : Int} (o : Ord xs) (hr : ruleB xs.length rule = true) (h : tbL xs rule = some v) (g : GS) : oTakenBy [.tup (ofI xs), .tup (ofI rule)] g = .ok (.int v) g := by
  have len : rule.length = xs.length := by
    unfold ruleB at hr
    rw [Bool.and_eq_true] at hr
    have := of_decide_eq_true hr.1
    omega
  have lo := o.low
  have hi := o.high
  have ne : rule ≠ [] := fun e => by rw [e] at len; simp at len; omega
  let s : LS := ⟨[some (.d (.tup (ofI xs))), some (.d (.tup (ofI rule))), none, none, none], [], g⟩
  have v0 : eVar 0 s = okD (.tup (ofI xs)) s := rfl
  have v1 : eVar 1 s = okD (.tup (ofI rule)) s := rfl
  have c1 := eCall1 (s := s) v0 (check_at o g)
  have c2 := eCall2 (s := s) (len_d v0) v1 (checkR_at ne (by omega) hr g)
  have c3 := eCall1 (s := s) v0 (rel_at (by omega) g)
  have items : iEnum (eCall oRelOf (aCons (eVar 0) aNil)) s = .ok (numD 0 (ofI (relL xs))) s := by
    unfold iEnum iSeq
    rw [c3]
    rfl
  have each : ∀ d ∈ numD 0 (ofI (relL xs)), lcTurn (gT2 3 4) (tV (eOp sLe (eVar 4) (eOp sIx (eVar 1) (eVar 3)))) (eVar 3) (seen s.loc [3, 4]) d s.g = some (tbF rule d, s.g) := by
    intro d hd
    obtain ⟨i, x, rfl, lt⟩ := numD_in hd
    rw [relL_len] at lt
    let u : LS := ⟨[some (.d (.tup (ofI xs))), some (.d (.tup (ofI rule))), none, some (.d (.int (i : Nat))), some (.d (.int x))], [], g⟩
    obtain ⟨t, ht⟩ : ∃ t, rule[i]? = some t := ⟨rule[i]'(by omega), List.getElem?_eq_getElem _⟩
    have ix : eOp sIx (eVar 1) (eVar 3) u = okD (.int t) u := by
      rw [eOp_d (show eVar 1 u = okD (.tup (ofI rule)) u from rfl) (show eVar 3 u = okD (.int (i : Nat)) u from rfl)]
      show onO (atI (ofI rule) ((i : Nat) : Int)) _ = _
      rw [at_nat rule ht]
      rfl
    have test : tV (eOp sLe (eVar 4) (eOp sIx (eVar 1) (eVar 3))) u = .ok (decide (x ≤ t)) u := by
      refine tV_d ?_
      rw [eOp_d (show eVar 4 u = okD (.int x) u from rfl) ix]
      rfl
    show (match tV (eOp sLe (eVar 4) (eOp sIx (eVar 1) (eVar 3))) u with | .ok true s1 => (match eVar 3 s1 with | .ok (.d y) s2 => some (some y, s2.g) | _ => none) | .ok false s1 => some (none, s1.g) | _ => none) = some (if x ≤ (rule[((i : Nat) : Int).toNat]?).getD 0 then some (D.int (i : Nat)) else none, g)
    rw [test, show (rule[((i : Nat) : Int).toNat]?).getD 0 = t by rw [Int.toNat_natCast, ht]; rfl]
    by_cases c : x ≤ t
    · simp only [decide_eq_true c, if_pos c]; rfl
    · simp only [decide_eq_false c, if_neg c]; rfl
  have comp := eLc_ok (fi := iEnum (eCall oRelOf (aCons (eVar 0) aNil))) (vs := [3, 4]) items (by rw [numD_len, len_ofI, relL_len]; omega) each
  have tl := tb_list (relL xs) [] rule (by rw [relL_len, len])
  rw [List.nil_append] at tl
  have tl : (numD 0 (ofI (relL xs))).filterMap (tbF rule) = ofI (tbGo 0 (relL xs) rule) := tl
  rw [tl] at comp
  unfold tbL at h
  split at h
  · rename_i k r hk
    rw [hk] at comp
    show fin (sSeq _ _ s) = _
    rw [sSeq_nx (sEx_d c1)]
    show fin (sSeq _ _ s) = _
    rw [sSeq_nx (sEx_d c2)]
    show fin (sSeq _ _ s) = _
    rw [sSeq_nx (sSet_d comp)]
    let s2 : LS := ⟨[some (.d (.tup (ofI xs))), some (.d (.tup (ofI rule))), some (.d (.lst (ofI (k :: r)))), none, none], [], g⟩
    show fin (sRet _ s2) = _
    have k0 := tbGo_nat 0 _ _ _ _ hk
    have first : eOp sIx (eVar 2) (eC (.int 0)) s2 = okD (.int k) s2 := by
      rw [eOp_d (show eVar 2 s2 = okD (.lst (ofI (k :: r))) s2 from rfl) (show eC (.int 0) s2 = okD (.int 0) s2 from rfl)]
      show onO (atI (ofI (k :: r)) ((0 : Nat) : Int)) _ = _
      rw [at_nat (k :: r) (k := 0) (x := k) rfl]
      rfl
    have last : eOp sIx (eVar 0) (eOp sIx (eVar 2) (eC (.int 0))) s2 = okD (.int v) s2 := by
      rw [eOp_d (show eVar 0 s2 = okD (.tup (ofI xs)) s2 from rfl) first]
      show onO (atI (ofI xs) k) _ = _
      have e := at_nat xs h
      rw [show ((k.toNat : Nat) : Int) = k by omega] at e
      rw [e]
      rfl
    rw [sRet_d last]
    rfl
  · cases h
def fTakenBy : List D → Option D
  | [.tup ds, .tup es] => (intsD ds).bind fun xs => (intsD es).bind fun rule => if (ordB xs && ruleB xs.length rule) = true then (tbL xs rule).map D.int else none
  | _ => none
theorem ok_takenBy : ∀ ds d g, fTakenBy ds = some d → oTakenBy ds g = .ok d g := by
  intro ds d g e
  unfold fTakenBy at e
  split at e
  · obtain ⟨xs, hx, e⟩ := Option.bind_eq_some_iff.mp e
    obtain ⟨rule, hr, e⟩ := Option.bind_eq_some_iff.mp e
    rw [intsD_eq hx, intsD_eq hr]
    split at e
    · rename_i c
      rw [Bool.and_eq_true] at c
      obtain ⟨v, hv, rfl⟩ := Option.map_eq_some_iff.mp e
      exact takenBy_at (ordB_of c.1) c.2 hv g
    · cases e
  · cases e
/-! ### the law's own relative ranks -/
def oStand : List D → GS → FOut := runF 2 2 (sRet (eOp sAdd (eMl sIndex (eB (arg1 sSorted) (aCons (eSl (eVar 0) pNo (pSo (eOp sAdd (eVar 1) (eC (.int 1))))) aNil)) (eOp sIx (eVar 0) (eVar 1))) (eC (.int 1))))
theorem flats_ofI : ∀ xs : List Int, flats (ofI xs) = some (xs.map V.int)
  | [] => rfl
  | x :: r => by
    have := flats_ofI r
    simp only [ofI, List.map_cons, flats, flat] at this ⊢
    rw [this]
theorem find_ints (x : Int) : ∀ ys : List Int, (ys.map V.int).findIdx? (fun z => eqV z (.int x)) = ys.findIdx? fun y => y == x
  | [] => rfl
  | y :: r => by
    rw [List.map_cons, List.findIdx?_cons, List.findIdx?_cons, find_ints x r]
    rfl
/-- the place of x in the sorted first ones, counted from 1 -/
def stand (xs : List Int) (p : Nat) : Option Int := match xs[p]? with
  | some x => ((isort (xs.take (p + 1))).findIdx? fun y => y == x).map fun j => ((j : Nat) : Int) + 1
  | none => none
theorem stand_at {xs : List Int} {p : Nat} {v : Int} (few : xs.length < 64) (h : stand xs p = some v) (g : GS) : oStand [.tup (ofI xs), .int p] g = .ok (.int v) g := by
  unfold stand at h
  split at h
  · rename_i x hx
    obtain ⟨j, hj, rfl⟩ := Option.map_eq_some_iff.mp h
    let s : LS := ⟨[some (.d (.tup (ofI xs))), some (.d (.int p))], [], g⟩
    show fin (sRet _ s) = _
    have cut : eSl (eVar 0) pNo (pSo (eOp sAdd (eVar 1) (eC (.int 1)))) s = okD (.tup (ofI (xs.take (p + 1)))) s := by
      show okD (.tup (cutA (ofI xs) none (some ((p : Int) + 1)))) s = _
      rw [show ((p : Int) + 1) = ((p + 1 : Nat) : Int) by omega, cut_take, ofI, ← List.map_take]
    have srt : eB (arg1 sSorted) (aCons (eSl (eVar 0) pNo (pSo (eOp sAdd (eVar 1) (eC (.int 1))))) aNil) s = okD (.lst (ofI (isort (xs.take (p + 1))))) s := by
      rw [eB1_d cut]
      show onO (intsD (ofI (xs.take (p + 1)))) _ = _
      rw [intsD_ofI]
      show gd (decide ((xs.take (p + 1)).length < 64)) _ = _
      rw [decide_eq_true (by rw [List.length_take]; omega)]
      rfl
    have ix : eOp sIx (eVar 0) (eVar 1) s = okD (.int x) s := by
      rw [eOp_d (show eVar 0 s = okD (.tup (ofI xs)) s from rfl) (show eVar 1 s = okD (.int p) s from rfl)]
      show onO (atI (ofI xs) ((p : Nat) : Int)) _ = _
      rw [at_nat xs hx]
      rfl
    have ind : eMl sIndex (eB (arg1 sSorted) (aCons (eSl (eVar 0) pNo (pSo (eOp sAdd (eVar 1) (eC (.int 1))))) aNil)) (eOp sIx (eVar 0) (eVar 1)) s = okD (.int (j : Nat)) s := by
      unfold eMl
      rw [srt]
      show ((eOp sIx (eVar 0) (eVar 1) s).bind _) = _
      rw [ix]
      show sIndex (.lst (ofI (isort (xs.take (p + 1))))) (.int x) s = _
      show (onO (some (V.int x)) fun v => onO (flats (ofI (isort (xs.take (p + 1))))) fun vs => onO (vs.findIdx? fun z => eqV z v) fun j => okD (.int (j : Nat)) s) = _
      rw [flats_ofI]
      show onO (((isort (xs.take (p + 1))).map V.int).findIdx? fun z => eqV z (.int x)) _ = _
      rw [find_ints, hj]
      rfl
    rw [sRet_d (add_d ind (show eC (.int 1) s = okD (.int 1) s from rfl))]
    rfl
  · cases h
def fStand : List D → Option D
  | [.tup ds, .int (.ofNat p)] => (intsD ds).bind fun xs => if xs.length < 64 then (stand xs p).map D.int else none
  | _ => none
theorem ok_stand : ∀ ds d g, fStand ds = some d → oStand ds g = .ok d g := by
  intro ds d g e
  unfold fStand at e
  split at e
  · obtain ⟨xs, hx, e⟩ := Option.bind_eq_some_iff.mp e
    rw [intsD_eq hx]
    split at e
    · rename_i c
      obtain ⟨v, hv, rfl⟩ := Option.map_eq_some_iff.mp e
      exact stand_at c hv g
    · cases e
  · cases e
/-! ### orders out of relative ranks -/
def putIn (acc : List Int) (q : Int) : List Int := (acc.map fun y => if y ≥ q then y + 1 else y) ++ [q]
def ordGo : List Int → List Int → List Int
  | acc, [] => acc
  | acc, q :: r => ordGo (putIn acc q) r
def bOrd : LS → Out Fl := (sSet 1 (eOp sAdd (eLc (iSeq (eVar 1)) (gN 3) tYe (eIf (tV (eOp sGe (eVar 3) (eVar 2))) (eOp sAdd (eVar 3) (eC (.int 1))) (eVar 3)) [3]) (eLst (aCons (eVar 2) aNil))))
def oOrdOf : List D → GS → FOut := runF 1 4 (sSeq (sSet 1 (eLst aNil)) (sSeq (sFor (iSeq (eVar 0)) (gN 2) bOrd) (sRet (eB (arg1 sTuple) (aCons (eVar 1) aNil)))))
def upF (q : Int) : D → Option D
  | .int y => some (.int (if y ≥ q then y + 1 else y))
  | _ => none
theorem up_list (q : Int) : ∀ acc : List Int, (ofI acc).filterMap (upF q) = ofI (acc.map fun y => if y ≥ q then y + 1 else y)
  | [] => rfl
  | y :: r => by
    have := up_list q r
    simp only [ofI, List.map_cons, List.filterMap_cons, upF] at this ⊢
    rw [this]
theorem ord_turn {X : D} {acc : List Int} {q : Int} {g : GS} (few : acc.length ≤ 1000) : bOrd ⟨[some (.d X), some (.d (.lst (ofI acc))), some (.d (.int q)), none], [], g⟩ = .ok .nx ⟨[some (.d X), some (.d (.lst (ofI (putIn acc q)))), some (.d (.int q)), none], [], g⟩ := by
  let s : LS := ⟨[some (.d X), some (.d (.lst (ofI acc))), some (.d (.int q)), none], [], g⟩
  have items : iSeq (eVar 1) s = .ok (ofI acc) s := rfl
  have each : ∀ d ∈ ofI acc, lcTurn (gN 3) tYe (eIf (tV (eOp sGe (eVar 3) (eVar 2))) (eOp sAdd (eVar 3) (eC (.int 1))) (eVar 3)) (seen s.loc [3]) d s.g = some (upF q d, s.g) := by
    intro d hd
    obtain ⟨y, _, rfl⟩ := List.mem_map.mp hd
    let L : List (Option Lv) := seen s.loc [3]
    have eL : L.set 3 (some (.d (.int y))) = (seen s.loc [3]).set 3 (some (.d (.int y))) := rfl
    by_cases c : y ≥ q
    · show (match eIf (tV (eOp sGe (eVar 3) (eVar 2))) (eOp sAdd (eVar 3) (eC (.int 1))) (eVar 3) ⟨L.set 3 (some (.d (.int y))), [], g⟩ with | .ok (.d y) s2 => some (some y, s2.g) | _ => none) = some (some (.int (if y ≥ q then y + 1 else y)), g)
      have t : tV (eOp sGe (eVar 3) (eVar 2)) ⟨L.set 3 (some (.d (.int y))), [], g⟩ = .ok (decide (q ≤ y)) ⟨L.set 3 (some (.d (.int y))), [], g⟩ := rfl
      unfold eIf
      rw [t, decide_eq_true c, if_pos c]
      rfl
    · show (match eIf (tV (eOp sGe (eVar 3) (eVar 2))) (eOp sAdd (eVar 3) (eC (.int 1))) (eVar 3) ⟨L.set 3 (some (.d (.int y))), [], g⟩ with | .ok (.d y) s2 => some (some y, s2.g) | _ => none) = some (some (.int (if y ≥ q then y + 1 else y)), g)
      have t : tV (eOp sGe (eVar 3) (eVar 2)) ⟨L.set 3 (some (.d (.int y))), [], g⟩ = .ok (decide (q ≤ y)) ⟨L.set 3 (some (.d (.int y))), [], g⟩ := rfl
      unfold eIf
      rw [t, decide_eq_false c, if_neg c]
      rfl
  have comp := eLc_ok (fi := iSeq (eVar 1)) (vs := [3]) items (by rw [len_ofI]; omega) each
  rw [up_list] at comp
  have one : eLst (aCons (eVar 2) aNil) s = okD (.lst [.int q]) s := rfl
  have sum := eOp_d (sem := sAdd) comp one
  have res : sAdd (.lst (ofI (acc.map fun y => if y ≥ q then y + 1 else y))) (.lst [.int q]) s = okD (.lst (ofI (putIn acc q))) s := by
    show gd (decide ((ofI (acc.map fun y => if y ≥ q then y + 1 else y)).length + 1 ≤ 100000)) _ = _
    rw [decide_eq_true (by rw [len_ofI, List.length_map]; omega)]
    show okD (.lst (ofI (acc.map fun y => if y ≥ q then y + 1 else y) ++ [.int q])) s = _
    unfold putIn
    rw [ofI, ofI, List.map_append]
    rfl
  exact sSet_d (sum.trans res)
theorem putIn_len (acc : List Int) (q : Int) : (putIn acc q).length = acc.length + 1 := by simp [putIn]
theorem ord_loop {X : D} {g : GS} : ∀ (qs acc : List Int) (o : Option Lv), acc.length + qs.length ≤ 1000 → ∃ o', forL (gN 2) bOrd (ofI qs) ⟨[some (.d X), some (.d (.lst (ofI acc))), o, none], [], g⟩ = .ok .nx ⟨[some (.d X), some (.d (.lst (ofI (ordGo acc qs)))), o', none], [], g⟩
  | [], acc, o, _ => ⟨o, rfl⟩
  | q :: r, acc, o, few => by
    obtain ⟨o', ih⟩ := ord_loop (X := X) (g := g) r (putIn acc q) (some (.d (.int q))) (by rw [putIn_len]; simp only [List.length_cons] at few; omega)
    refine ⟨o', ?_⟩
    show forL (gN 2) bOrd (.int q :: ofI r) _ = _
    rw [forL_cons (loc' := [some (.d X), some (.d (.lst (ofI acc))), some (.d (.int q)), none]) rfl (ord_turn (by omega))]
    exact ih
theorem ordOf_at {qs : List Int} (few : qs.length ≤ 1000) (g : GS) : oOrdOf [.tup (ofI qs)] g = .ok (.tup (ofI (ordGo [] qs))) g := by
  show fin (sSeq _ _ ⟨[some (.d (.tup (ofI qs))), none, none, none], [], g⟩) = _
  have first : sSet 1 (eLst aNil) ⟨[some (.d (.tup (ofI qs))), none, none, none], [], g⟩ = .ok .nx ⟨[some (.d (.tup (ofI qs))), some (.d (.lst (ofI []))), none, none], [], g⟩ := rfl
  rw [sSeq_nx first]
  obtain ⟨o', e⟩ := ord_loop (X := .tup (ofI qs)) (g := g) qs [] none (by simpa using few)
  have loop : sFor (iSeq (eVar 0)) (gN 2) bOrd ⟨[some (.d (.tup (ofI qs))), some (.d (.lst (ofI []))), none, none], [], g⟩ = _ := e
  rw [sSeq_nx loop]
  rfl
def fOrdOf : List D → Option D := onTup fun qs => if qs.length ≤ 1000 then some (.tup (ofI (ordGo [] qs))) else none
theorem ok_ordOf : ∀ ds d g, fOrdOf ds = some d → oOrdOf ds g = .ok d g := onTup_ok fun qs d g h => by
  split at h
  · rename_i c
    cases h
    exact ordOf_at c g
  · cases h
def oFrom : List D → GS → FOut := runF 1 3 (sSeq (sIf (tOu (tNo (tV (eUn (sIsi .tuple) (eVar 0)))) (tNo (tV (eCh sLe sLe (eC (.int 1)) (eB (arg1 sLen) (aCons (eVar 0) aNil)) (eC (.int 10)))))) (sRaise "InvalidRanks") sNx)
  (sSeq (sIf (tNo (tV (eB (arg1 sAll) (aCons (eLc (iEnum (eVar 0)) (gT2 1 2) tYe (eCall oInt (aCons (eVar 2) (aCons (eC (.int 1)) (aCons (eOp sAdd (eVar 1) (eC (.int 1))) aNil)))) [1, 2]) aNil)))) (sRaise "InvalidRanks") sNx)
  (sRet (eCall oOrdOf (aCons (eVar 0) aNil)))))
theorem from_at {qs : List Int} (lo : 1 ≤ qs.length) (hi : qs.length ≤ 10) (ok : (placeB 1 0 qs).all id = true) (g : GS) : oFrom [.tup (ofI qs)] g = .ok (.tup (ofI (ordGo [] qs))) g := by
  let s : LS := ⟨[some (.d (.tup (ofI qs))), none, none], [], g⟩
  have v0 : eVar 0 s = okD (.tup (ofI qs)) s := rfl
  have isi : eUn (sIsi .tuple) (eVar 0) s = okD (.bl true) s := rfl
  have a2 := eCh_d (s := s) (fa := eC (.int 1)) (fc := eC (.int 10)) (a := 1) (c := 10) rfl (len_d v0) rfl
  rw [decide_eq_true (by omega : (1 : Int) ≤ qs.length), decide_eq_true (by omega : (qs.length : Int) ≤ 10)] at a2
  have t1 : tOu (tNo (tV (eUn (sIsi .tuple) (eVar 0)))) (tNo (tV (eCh sLe sLe (eC (.int 1)) (eB (arg1 sLen) (aCons (eVar 0) aNil)) (eC (.int 10))))) s = .ok false s := tOu_d (tNo_d (tV_d isi)) (tNo_d (tV_d a2))
  have items : iEnum (eVar 0) s = .ok (numD 0 (ofI qs)) s := rfl
  have each : ∀ d ∈ numD 0 (ofI qs), lcTurn (gT2 1 2) tYe (eCall oInt (aCons (eVar 2) (aCons (eC (.int 1)) (aCons (eOp sAdd (eVar 1) (eC (.int 1))) aNil)))) (seen s.loc [1, 2]) d s.g = some (fitF 1 d, s.g) := by
    intro d hd
    obtain ⟨i, x, rfl⟩ := numD_mem hd
    let u : LS := ⟨[some (.d (.tup (ofI qs))), some (.d (.int (i : Nat))), some (.d (.int x))], [], g⟩
    have q := eCall3 (s := u) (fa := eVar 2) (fb := eC (.int 1)) (fc := eOp sAdd (eVar 1) (eC (.int 1))) (d := .int x) (e := .int 1) (q := .int ((i : Nat) + 1)) rfl rfl rfl (int_at x 1 ((i : Nat) + 1) g)
    show (match eCall oInt _ u with | .ok (.d y) s2 => some (some y, s2.g) | _ => none) = _
    rw [q]
    rfl
  have comp := eLc_ok (fi := iEnum (eVar 0)) (vs := [1, 2]) items (by rw [numD_len, len_ofI]; omega) each
  rw [fit_list] at comp
  have a := all_d comp
  rw [ok] at a
  have c := eCall1 (s := s) v0 (ordOf_at (by omega) g)
  show fin (sSeq _ _ s) = _
  rw [sSeq_nx (s1 := s) (by rw [sIf_f t1]; rfl), sSeq_nx (s1 := s) (by rw [sIf_f (tNo_d (tV_d a))]; rfl), sRet_d c]
  rfl
def fFrom : List D → Option D := onTup fun qs => if (decide (1 ≤ qs.length) && decide (qs.length ≤ 10) && (placeB 1 0 qs).all id) = true then some (.tup (ofI (ordGo [] qs))) else none
theorem ok_from : ∀ ds d g, fFrom ds = some d → oFrom ds g = .ok d g := onTup_ok fun qs d g h => by
  split at h
  · rename_i c
    cases h
    rw [Bool.and_eq_true, Bool.and_eq_true] at c
    exact from_at (of_decide_eq_true c.1.1) (of_decide_eq_true c.1.2) c.2 g
  · cases h
end Br

/-! Answers that a kernel run has shown once; laws whose draws are few, any of them. -/
namespace Br
open PySem L2
/-! ### data compared -/
mutual
def eqD : D → D → Bool
  | .non, .non => true
  | .bl a, .bl b => a == b
  | .int a, .int b => decide (a = b)
  | .str a, .str b => decide (a = b)
  | .tup a, .tup b => eqDs a b
  | .lst a, .lst b => eqDs a b
  | _, _ => false
def eqDs : List D → List D → Bool
  | [], [] => true
  | a :: r, b :: q => eqD a b && eqDs r q
  | _, _ => false
end
mutual
theorem eqD_eq : ∀ a b : D, eqD a b = true → a = b
  | .non, b, h => by cases b <;> simp [eqD] at h; rfl
  | .bl a, b, h => by cases b <;> simp [eqD] at h; rw [h]
  | .int a, b, h => by cases b <;> simp [eqD] at h; rw [h]
  | .str a, b, h => by cases b <;> simp [eqD] at h; rw [h]
  | .tup a, b, h => by cases b <;> simp [eqD] at h; rw [eqDs_eq a _ h]
  | .lst a, b, h => by cases b <;> simp [eqD] at h; rw [eqDs_eq a _ h]
  | .ty _, b, h => by cases b <;> simp [eqD] at h
  | .gl _, b, h => by cases b <;> simp [eqD] at h
  | .scr, b, h => by cases b <;> simp [eqD] at h
  | .town, b, h => by cases b <;> simp [eqD] at h
  | .obj _, b, h => by cases b <;> simp [eqD] at h
  | .dct _ _, b, h => by cases b <;> simp [eqD] at h
theorem eqDs_eq : ∀ a b : List D, eqDs a b = true → a = b
  | [], b, h => by cases b <;> simp [eqDs] at h; rfl
  | x :: r, b, h => by
    cases b with
    | nil => simp [eqDs] at h
    | cons y q =>
      simp only [eqDs, Bool.and_eq_true] at h
      rw [eqD_eq x y h.1, eqDs_eq r q h.2]
end
/-! ### shown once -/
def okAns (o : FOut) (d : D) : Bool := match o with
  | .ok e ⟨[], none, []⟩ => eqD e d
  | _ => false
theorem okAns_eq {o : FOut} {d : D} (h : okAns o d = true) : o = .ok d ⟨[], none, []⟩ := by
  unfold okAns at h
  split at h
  · rw [eqD_eq _ _ h]
  · cases h
def fastT (F : List D → Option D) (m : List D → GS → FOut) : List D → GS → FOut := fun ds g => match g.chs with
  | [] => (match F ds with
    | some d => .ok d g
    | none => m ds g)
  | _ => m ds g
theorem fastT_eq {F : List D → Option D} {m : List D → GS → FOut} (mn : MnF m) (h : ∀ ds d, F ds = some d → okAns (m ds ⟨[], none, []⟩) d = true) : fastT F m = m := by
  funext ds g
  unfold fastT
  split
  · rename_i hc
    cases e : F ds with
    | none => rfl
    | some d =>
      have q := mn g.scr g.town ds ⟨[], none, []⟩ ⟨rfl, rfl⟩
      rw [okAns_eq (h ds d e)] at q
      obtain ⟨scr, town, chs⟩ := g
      have hc : chs = [] := hc
      subst hc
      exact q.2.symm
  · rfl
/-! ### all orders -/
def longer1 (n : Nat) (own : List Int) : List (List Int) := ((List.range n).map fun i => ((i : Nat) : Int) + 1).filterMap fun r => if own.contains r then none else some (own ++ [r])
def allO (n : Nat) : Nat → List (List Int)
  | 0 => [[]]
  | k + 1 => (allO n k).flatMap (longer1 n)
def fAll : List D → Option D
  | [.int (.ofNat n)] => if 1 ≤ n ∧ n ≤ 5 then some (.lst ((allO n n).map fun xs => .tup (ofI xs))) else none
  | _ => none
theorem ok_all {m : List D → GS → FOut} (h1 : okAns (m [.int 1] ⟨[], none, []⟩) (.lst ((allO 1 1).map fun xs => .tup (ofI xs))) = true) (h2 : okAns (m [.int 2] ⟨[], none, []⟩) (.lst ((allO 2 2).map fun xs => .tup (ofI xs))) = true) (h3 : okAns (m [.int 3] ⟨[], none, []⟩) (.lst ((allO 3 3).map fun xs => .tup (ofI xs))) = true)
    (h4 : okAns (m [.int 4] ⟨[], none, []⟩) (.lst ((allO 4 4).map fun xs => .tup (ofI xs))) = true) (h5 : okAns (m [.int 5] ⟨[], none, []⟩) (.lst ((allO 5 5).map fun xs => .tup (ofI xs))) = true) : ∀ ds d, fAll ds = some d → okAns (m ds ⟨[], none, []⟩) d = true := by
  intro ds d h
  unfold fAll at h
  split at h
  · rename_i n
    split at h
    · rename_i c
      cases h
      match n, c with
      | 0, c => omega
      | 1, _ => exact h1
      | 2, _ => exact h2
      | 3, _ => exact h3
      | 4, _ => exact h4
      | 5, _ => exact h5
      | n + 6, c => omega
    · cases h
  · cases h
/-! ### laws with few draws -/
/-- a part: one that draws nothing, or one that puts a value, one of few, into a slot -/
inductive Qt where
  | p (f : LS → Out Fl)
  | ch (f : LS → Out Fl) (slot : Nat) (vals : LS → Option (List D))
def Qt.run : Qt → LS → Out Fl
  | .p f => f
  | .ch f _ _ => f
def seqQ : List Qt → LS → Out Fl
  | [] => sNx
  | [x] => x.run
  | x :: y :: r => sSeq x.run (seqQ (y :: r))
def ChS (f : LS → Out Fl) (slot : Nat) (vals : LS → Option (List D)) : Prop := ∀ (ns : List Int), ns.length ≤ 63 → ∀ (t : Nat), t < 90000 → ∀ (s : LS), s.g.base → s.loc[0]? = some (some (.d .scr)) → s.loc[1]? = some (some (.d .town)) →
  ∀ ds, vals s = some ds → ∃ d ∈ ds, ∃ t', t' ≤ t + 20 ∧ f (s.up ns (some t)) = .ok .nx (LS.up ns (some t') { s with loc := s.loc.set slot (some (.d d)) })
def QtOk : Qt → Prop
  | .p f => Mn f
  | .ch f j vals => ChS f j vals
def chq : List Qt → LS → Bool
  | [], _ => false
  | .p f :: r, s => match f s with
    | .ok .nx s1 => chq r s1
    | .ok (.ret (.bl true)) _ => true
    | _ => false
  | .ch _ j vals :: r, s => match vals s with
    | some ds => at01 s && ds.all fun d => chq r { s with loc := s.loc.set j (some (.d d)) }
    | none => false
theorem chq_ok (ns : List Int) (hl : ns.length ≤ 63) : ∀ (ps : List Qt) (s : LS) (t : Nat), (∀ p ∈ ps, QtOk p) → t + 20 * ps.length < 90000 → s.g.base → chq ps s = true → ∃ s1, seqQ ps (s.up ns (some t)) = .ok (.ret (.bl true)) s1
  | [], s, t, _, _, _, h => by cases h
  | .p f :: r, s, t, hp, ht, hb, h => by
    have q : Mn f := hp _ List.mem_cons_self
    have q := q ns (some t) s hb
    simp only [chq] at h
    cases hf : f s with
    | bad => rw [hf] at h; cases h
    | exc c s1 => rw [hf] at h; cases h
    | ok fl s1 =>
      rw [hf] at h q
      obtain ⟨hb1, q⟩ := q
      cases fl with
      | bk => cases h
      | ct => cases h
      | ret d =>
        have ed : d = .bl true := by
          split at h
          · rename_i e; cases e
          · rename_i e; cases e; rfl
          · cases h
        subst ed
        cases r with
        | nil => exact ⟨_, q⟩
        | cons y r => exact ⟨_, sSeq_ret q⟩
      | nx =>
        have h : chq r s1 = true := h
        cases r with
        | nil => cases h
        | cons y r =>
          show ∃ s1, sSeq f (seqQ (y :: r)) _ = _
          rw [sSeq_nx q]
          exact chq_ok ns hl (y :: r) s1 t (fun p m => hp p (List.mem_cons_of_mem _ m)) (by simp only [List.length_cons] at ht ⊢; omega) hb1 h
  | .ch f j vals :: r, s, t, hp, ht, hb, h => by
    have q : ChS f j vals := hp _ List.mem_cons_self
    simp only [chq] at h
    split at h
    · rename_i ds hds
      rw [Bool.and_eq_true, List.all_eq_true] at h
      obtain ⟨h01, each⟩ := h
      obtain ⟨e0, e1⟩ := at01_of h01
      obtain ⟨d, hd, t', le, e⟩ := q ns hl t (by simp only [List.length_cons] at ht; omega) s hb e0 e1 ds hds
      have h2 := each d hd
      cases r with
      | nil => cases h2
      | cons y r =>
        show ∃ s1, sSeq f (seqQ (y :: r)) _ = _
        rw [sSeq_nx e]
        exact chq_ok ns hl (y :: r) _ t' (fun p m => hp p (List.mem_cons_of_mem _ m)) (by simp only [List.length_cons] at ht ⊢; omega) hb h2
    · cases h
theorem chq_ch {f : LS → Out Fl} {j : Nat} {vals : LS → Option (List D)} {ds : List D} {ps : List Qt} {s : LS} (h1 : at01 s = true) (hv : vals s = some ds) (h : ∀ d ∈ ds, chq ps { s with loc := s.loc.set j (some (.d d)) } = true) : chq (.ch f j vals :: ps) s = true := by
  simp only [chq]
  rw [hv]
  show (at01 s && ds.all fun d => chq ps { s with loc := s.loc.set j (some (.d d)) }) = true
  rw [h1, Bool.true_and, List.all_eq_true]
  exact h
theorem law_ofQ {np : Nat} {ps : List Qt} (hp : ∀ p ∈ ps, QtOk p) (hn : ps.length < 1000) (h : chq ps ⟨some (.d .scr) :: some (.d .town) :: List.replicate np none, [], ⟨[], none, []⟩⟩ = true) (ns : List Int) (hl : ns.length ≤ 63) :
    ∃ g', runF 1 (np + 2) (sSeq (sSet 1 eTown) (seqQ ps)) [.scr] ⟨ns, none, []⟩ = .ok (.bl true) g' := by
  obtain ⟨s1, e⟩ := chq_ok ns hl ps _ 0 hp (by omega) ⟨rfl, rfl⟩ h
  refine ⟨s1.g, ?_⟩
  show fin (sSeq (sSet 1 eTown) (seqQ ps) ⟨start0 (np + 2) [.scr], [], ⟨ns, none, []⟩⟩) = _
  have e0 : start0 (np + 2) [.scr] = some (.d .scr) :: none :: List.replicate np none := by
    unfold start0
    show some (Lv.d .scr) :: List.replicate (np + 2 - 1) none = _
    rw [show np + 2 - 1 = np + 1 by omega, List.replicate_succ]
  have e1 : sSet 1 eTown ⟨some (.d .scr) :: none :: List.replicate np none, [], ⟨ns, none, []⟩⟩ = .ok .nx (LS.up ns (some 0) ⟨some (.d .scr) :: some (.d .town) :: List.replicate np none, [], ⟨[], none, []⟩⟩) := rfl
  rw [e0, sSeq_nx e1, e]
  rfl
/-- slot = off + draw(many) -/
def upTo (off : Int) (many : LS → Out Lv) : LS → Option (List D) := fun s => match many s with
  | .ok (.d (.int m)) _ => if 0 < m then some ((List.range m.toNat).map fun d => .int (off + ((d : Nat) : Int))) else none
  | _ => none
theorem chs_dr {f : LS → Out Fl} {j : Nat} {off : Int} {many : LS → Out Lv} (h : DrS f j off many) (q : Quiet many) : ChS f j (upTo off many) := by
  intro ns hl t ht s hb h0 h1 ds hds
  unfold upTo at hds
  split at hds
  · rename_i m s1 hm
    split at hds
    · rename_i pos
      cases hds
      have es : s1 = s := q s _ s1 hm
      subst es
      obtain ⟨d, d0, d1, e⟩ := h ns hl t (by omega) s1 hb h0 h1 m hm pos
      refine ⟨.int (off + d), List.mem_map.mpr ⟨d.toNat, List.mem_range.mpr (by omega), by rw [show ((d.toNat : Nat) : Int) = d by omega]⟩, t + 1, by omega, e⟩
    · cases hds
  · cases hds
/-! ### drawn rules -/
def preR : Nat → List (List Int)
  | 0 => [[]]
  | k + 1 => (preR k).flatMap fun p => (List.range (k + 2)).map fun t => p ++ [((t : Nat) : Int)]
def rulesD (n : Nat) : List D := (preR (n - 1)).map fun p => .tup (ofI (p ++ [((n : Nat) : Int)]))
def eDraws : LS → Out Lv := eCall mDraw (aCons (eVar 0) (aCons (eVar 1) (aCons (eOp sAdd (eVar 3) (eC (.int 1))) aNil)))
def oSomeRule : List D → GS → FOut := runF 3 4 (sRet (eB (arg1 sTuple) (aCons (eOp sAdd (eLc (iRng rng2 (aCons (eC (.int 1)) (aCons (eVar 2) aNil))) (gN 3) tYe eDraws [3]) (eLst (aCons (eVar 2) aNil))) aNil)))
theorem preR_len : ∀ {k : Nat} {p : List Int}, p ∈ preR k → p.length = k
  | 0, p, h => by rw [preR, List.mem_singleton] at h; rw [h]; rfl
  | k + 1, p, h => by
    rw [preR] at h
    obtain ⟨q, hq, h⟩ := List.mem_flatMap.mp h
    obtain ⟨t, _, rfl⟩ := List.mem_map.mp h
    rw [List.length_append, preR_len hq]
    rfl
theorem draws_loop {ns : List Int} (hl : ns.length ≤ 63) (c : List Ch) (n : Int) : ∀ (k t : Nat) (p : List Int), p ∈ preR p.length → t + k < 100000 → ∃ ys : List Int, p ++ ys ∈ preR (p.length + k) ∧ lcLoop (gN 3) tYe eDraws [some (.d .scr), some (.d .town), some (.d (.int n)), none] (rgD (((p.length : Nat) : Int) + 1) k) ⟨ns, some t, c⟩ = some (ofI ys, ⟨ns, some (t + k), c⟩)
  | 0, t, p, hp, _ => ⟨[], by rw [List.append_nil]; exact hp, rfl⟩
  | k + 1, t, p, hp, ht => by
    obtain ⟨d, d0, d1, e⟩ := draw_ok ns hl t (by omega) c (((p.length : Nat) : Int) + 1 + 1) (by omega)
    have hp2 : p ++ [d] ∈ preR (p ++ [d]).length := by
      rw [List.length_append]
      show _ ∈ preR (p.length + 1)
      rw [preR]
      exact List.mem_flatMap.mpr ⟨p, hp, List.mem_map.mpr ⟨d.toNat, List.mem_range.mpr (by omega), by rw [show ((d.toNat : Nat) : Int) = d by omega]⟩⟩
    obtain ⟨ys, hy, loop⟩ := draws_loop hl c n k (t + 1) (p ++ [d]) hp2 (by omega)
    refine ⟨d :: ys, ?_, ?_⟩
    · rw [List.append_assoc, List.length_append] at hy
      rw [show p.length + (k + 1) = p.length + [d].length + k by simp only [List.length_cons, List.length_nil]; omega]
      exact hy
    · let u : LS := ⟨[some (.d .scr), some (.d .town), some (.d (.int n)), some (.d (.int (((p.length : Nat) : Int) + 1)))], [], ⟨ns, some t, c⟩⟩
      have v0 : eVar 0 u = .ok (.d .scr) u := rfl
      have v1 : eVar 1 u = .ok (.d .town) u := rfl
      have v3 : eOp sAdd (eVar 3) (eC (.int 1)) u = .ok (.d (.int (((p.length : Nat) : Int) + 1 + 1))) u := rfl
      have call : eDraws u = okD (.int d) { u with g := ⟨ns, some (t + 1), c⟩ } := eCall_d (aCons_d v0 (aCons_d v1 (aCons_d v3 aNil_d))) rfl e rfl
      have turn : lcTurn (gN 3) tYe eDraws [some (.d .scr), some (.d .town), some (.d (.int n)), none] (.int (((p.length : Nat) : Int) + 1)) ⟨ns, some t, c⟩ = some (some (.int d), ⟨ns, some (t + 1), c⟩) := by
        show (match eDraws u with | .ok (.d y) s2 => some (some y, s2.g) | _ => none) = _
        rw [call]
      rw [List.length_append] at loop
      rw [rgD]
      simp only [lcLoop, turn]
      rw [show ((p.length : Nat) : Int) + 1 + 1 = (((p.length + [d].length : Nat)) : Int) + 1 by simp only [List.length_cons, List.length_nil]; omega, loop]
      rw [show t + 1 + k = t + (k + 1) by omega]
      rfl
theorem runF_at {np n : Nat} {body : LS → Out Fl} {ds : List D} {g : GS} (h : ds.length = np) : runF np n body ds g = fin (body ⟨start0 n ds, [], g⟩) := by
  unfold runF
  rw [decide_eq_true h]
theorem eOp_l {sem : D → D → LS → Out Lv} {fa fb : LS → Out Lv} {d e : D} {s s1 : LS} (ha : fa s = okD d s1) (hb : fb s1 = okD e s1) : eOp sem fa fb s = sem d e s1 := by
  unfold eOp
  rw [ha]
  show Out.bind (fb s1) _ = _
  rw [hb]
  rfl
theorem eB1_l {sem : D → LS → Out Lv} {fa : LS → Out Lv} {d : D} {s s1 : LS} (ha : fa s = okD d s1) : eB (arg1 sem) (aCons fa aNil) s = sem d s1 := by
  unfold eB
  rw [aCons_d ha aNil_d]
  rfl
theorem rule_drawn {ns : List Int} (hl : ns.length ≤ 63) {t : Nat} (ht : t + 20 < 100000) (c : List Ch) {n : Nat} (n1 : 1 ≤ n) (n2 : n ≤ 20) : ∃ p ∈ preR (n - 1), oSomeRule [.scr, .town, .int n] ⟨ns, some t, c⟩ = .ok (.tup (ofI (p ++ [((n : Nat) : Int)]))) ⟨ns, some (t + (n - 1)), c⟩ := by
  obtain ⟨p, hp, loop⟩ := draws_loop hl c n (n - 1) t [] List.mem_cons_self (by omega)
  have one : (((([] : List Int).length : Nat) : Int) + 1) = 1 := rfl
  rw [one] at loop
  rw [List.nil_append, List.length_nil, Nat.zero_add] at hp
  generalize hk : n - 1 = k at *
  refine ⟨p, hp, ?_⟩
  let s : LS := ⟨[some (.d .scr), some (.d .town), some (.d (.int n)), none], [], ⟨ns, some t, c⟩⟩
  let s2 : LS := ⟨[some (.d .scr), some (.d .town), some (.d (.int n)), none], [], ⟨ns, some (t + k), c⟩⟩
  have es : (⟨start0 4 [.scr, .town, .int n], [], ⟨ns, some t, c⟩⟩ : LS) = s := rfl
  unfold oSomeRule
  rw [runF_at (by rfl), es]
  have lp := preR_len hp
  have comp : eLc (iRng rng2 (aCons (eC (.int 1)) (aCons (eVar 2) aNil))) (gN 3) tYe eDraws [3] s = okD (.lst (ofI p)) s2 := by
    unfold eLc
    have c1 : eC (.int 1) s = .ok (.d (.int 1)) s := rfl
    have v2 : eVar 2 s = .ok (.d (.int n)) s := rfl
    rw [iRng_d (aCons_d c1 (aCons_d v2 aNil_d)) (is := [1, (n : Int)]) rfl]
    have r : rng2 [1, (n : Int)] s = .ok (rgD 1 k) s := by
      simp only [rng2]
      rw [small_medium (i := 1) (by omega), small_medium (i := (n : Int)) (by omega), show ((n : Int) - 1).toNat = k by omega]
      rfl
    rw [r]
    show gd (decide ((rgD 1 k).length ≤ 100000)) _ = _
    rw [rgD_len, decide_eq_true (by omega)]
    have e : lcLoop (gN 3) tYe eDraws (seen s.loc [3]) (rgD 1 k) s.g = some (ofI p, ⟨ns, some (t + k), c⟩) := loop
    show (match lcLoop (gN 3) tYe eDraws (seen s.loc [3]) (rgD 1 k) s.g with | some (ys, g') => okD (.lst ys) { s with g := g' } | none => .bad) = _
    rw [e]
  have last : eLst (aCons (eVar 2) aNil) s2 = okD (.lst [.int n]) s2 := rfl
  have sum : eOp sAdd (eLc (iRng rng2 (aCons (eC (.int 1)) (aCons (eVar 2) aNil))) (gN 3) tYe eDraws [3]) (eLst (aCons (eVar 2) aNil)) s = okD (.lst (ofI (p ++ [((n : Nat) : Int)]))) s2 := by
    rw [eOp_l comp last]
    have short : decide ((ofI p).length + [D.int n].length ≤ 100000) = true := decide_eq_true (by rw [len_ofI, lp]; simp only [List.length_cons, List.length_nil]; omega)
    simp only [sAdd]
    rw [short, ofI, ofI, List.map_append]
    rfl
  have tup : eB (arg1 sTuple) (aCons (eOp sAdd (eLc (iRng rng2 (aCons (eC (.int 1)) (aCons (eVar 2) aNil))) (gN 3) tYe eDraws [3]) (eLst (aCons (eVar 2) aNil))) aNil) s = okD (.tup (ofI (p ++ [((n : Nat) : Int)]))) s2 := by
    rw [eB1_l sum]
    rfl
  rw [sRet_d tup]
  rfl
/-- slot = some_rule(script, town, slot i) -/
def rulesAt (i : Nat) : LS → Option (List D) := fun s => match s.loc[i]? with
  | some (some (.d (.int (.ofNat n)))) => if 1 ≤ n ∧ n ≤ 20 then some (rulesD n) else none
  | _ => none
theorem chs_rule {i j : Nat} : ChS (sSet j (eCall oSomeRule (aCons (eVar 0) (aCons (eVar 1) (aCons (eVar i) aNil))))) j (rulesAt i) := by
  intro ns hl t ht s hb h0 h1 ds hds
  unfold rulesAt at hds
  split at hds
  · rename_i n hn
    split at hds
    · rename_i c
      cases hds
      obtain ⟨p, hp, e⟩ := rule_drawn hl (by omega : t + 20 < 100000) s.g.chs c.1 c.2
      refine ⟨.tup (ofI (p ++ [((n : Nat) : Int)])), List.mem_map.mpr ⟨p, hp, rfl⟩, t + (n - 1), by omega, ?_⟩
      have v0 : eVar 0 (s.up ns (some t)) = .ok (.d .scr) (s.up ns (some t)) := by
        unfold eVar
        have : (s.up ns (some t)).loc[0]? = some (some (.d .scr)) := h0
        rw [this]
      have v1 : eVar 1 (s.up ns (some t)) = .ok (.d .town) (s.up ns (some t)) := by
        unfold eVar
        have : (s.up ns (some t)).loc[1]? = some (some (.d .town)) := h1
        rw [this]
      have vi : eVar i (s.up ns (some t)) = .ok (.d (.int n)) (s.up ns (some t)) := by
        unfold eVar
        have : (s.up ns (some t)).loc[i]? = some (some (.d (.int n))) := hn
        rw [this]
      have q := eCall_d (m := oSomeRule) (aCons_d v0 (aCons_d v1 (aCons_d vi aNil_d))) rfl (g' := ⟨ns, some (t + (n - 1)), s.g.chs⟩) e rfl
      rw [sSet_d q]
      rfl
    · cases hds
  · cases hds
theorem all_split {α : Type} {P : α → Bool} {l : List α} {a k : Nat} (h1 : ((l.drop a).take k).all P = true) (h2 : (l.drop (a + k)).all P = true) : (l.drop a).all P = true := by
  rw [← List.drop_drop] at h2
  rw [← List.take_append_drop k (l.drop a), List.all_append, h1, h2]
  rfl
/-! ### what the law takes by a rule -/
def tookGo (xs rule : List Int) : Nat → Nat → Option Int
  | 0, _ => some (xs.getLastD 0)
  | k + 1, p => (stand xs p).bind fun v => (rule[p]?).bind fun r => if v ≤ r then xs[p]? else tookGo xs rule k (p + 1)
def bTook : LS → Out Fl := (sIf (tV (eOp sLe (eCall oStand (aCons (eVar 0) (aCons (eVar 2) aNil))) (eOp sIx (eVar 1) (eVar 2)))) (sRet (eOp sIx (eVar 0) (eVar 2))) sNx)
def oTook : List D → GS → FOut := runF 2 3 (sSeq (sFor (iRng rng1 (aCons (eB (arg1 sLen) (aCons (eVar 0) aNil)) aNil)) (gN 2) bTook)
  (sRet (eOp sIx (eVar 0) (eUn sNeg (eC (.int 1))))))
def stT (xs rule : List Int) (g : GS) (o : Option Lv) : LS := ⟨[some (.d (.tup (ofI xs))), some (.d (.tup (ofI rule))), o], [], g⟩
theorem took_turn {xs rule : List Int} {p : Nat} {v r : Int} (few : xs.length < 64) (hv : stand xs p = some v) (hr : rule[p]? = some r) (g : GS) : ∃ x, xs[p]? = some x ∧ bTook (stT xs rule g (some (.d (.int p)))) = if v ≤ r then .ok (.ret (.int x)) (stT xs rule g (some (.d (.int p)))) else .ok .nx (stT xs rule g (some (.d (.int p)))) := by
  obtain ⟨x, hx⟩ : ∃ x, xs[p]? = some x := by
    unfold stand at hv
    split at hv
    · rename_i x hx
      exact ⟨x, hx⟩
    · cases hv
  refine ⟨x, hx, ?_⟩
  let s : LS := stT xs rule g (some (.d (.int p)))
  have v0 : eVar 0 s = okD (.tup (ofI xs)) s := rfl
  have v1 : eVar 1 s = okD (.tup (ofI rule)) s := rfl
  have v2 : eVar 2 s = okD (.int p) s := rfl
  have c := eCall2 (s := s) v0 v2 (stand_at few hv g)
  have i1 : eOp sIx (eVar 1) (eVar 2) s = okD (.int r) s := by
    rw [eOp_d v1 v2]
    show onO (atI (ofI rule) ((p : Nat) : Int)) _ = _
    rw [at_nat rule hr]
    rfl
  have i0 : eOp sIx (eVar 0) (eVar 2) s = okD (.int x) s := by
    rw [eOp_d v0 v2]
    show onO (atI (ofI xs) ((p : Nat) : Int)) _ = _
    rw [at_nat xs hx]
    rfl
  have t := tV_d (eOp_d (sem := sLe) c i1)
  have t : tV (eOp sLe (eCall oStand (aCons (eVar 0) (aCons (eVar 2) aNil))) (eOp sIx (eVar 1) (eVar 2))) s = .ok (decide (v ≤ r)) s := t
  show bTook s = _
  unfold bTook
  by_cases h : v ≤ r
  · rw [decide_eq_true h] at t
    rw [if_pos h, sIf_t t, sRet_d i0]
  · rw [decide_eq_false h] at t
    rw [if_neg h, sIf_f t]
    rfl
theorem forL_ret {t : Tgt} {body : LS → Out Fl} {d x : D} {r : List D} {s s1 : LS} {loc' : Loc0} (h1 : t d s.loc = some loc') (h2 : body { s with loc := loc' } = .ok (.ret x) s1) : forL t body (d :: r) s = .ok (.ret x) s1 := by
  simp only [forL]
  rw [h1]
  show (body { s with loc := loc' }).bind _ = _
  rw [h2]
  rfl
theorem took_loop {xs rule : List Int} (few : xs.length < 64) (g : GS) : ∀ (k p : Nat) (v : Int) (o : Option Lv), tookGo xs rule k p = some v → (∃ s1, s1.g = g ∧ forL (gN 2) bTook (rgD ((p : Nat) : Int) k) (stT xs rule g o) = .ok (.ret (.int v)) s1) ∨ (v = xs.getLastD 0 ∧ ∃ o', forL (gN 2) bTook (rgD ((p : Nat) : Int) k) (stT xs rule g o) = .ok .nx (stT xs rule g o'))
  | 0, p, v, o, h => by
    cases h
    exact .inr ⟨rfl, o, rfl⟩
  | k + 1, p, v, o, h => by
    have h : (stand xs p).bind (fun v => (rule[p]?).bind fun r => if v ≤ r then xs[p]? else tookGo xs rule k (p + 1)) = some v := h
    obtain ⟨w, hw, h⟩ := Option.bind_eq_some_iff.mp h
    obtain ⟨r, hr, h⟩ := Option.bind_eq_some_iff.mp h
    obtain ⟨x, hx, turn⟩ := took_turn few hw hr g
    by_cases c : w ≤ r
    · rw [if_pos c] at h turn
      rw [hx] at h
      cases h
      refine .inl ⟨stT xs rule g (some (.d (.int p))), rfl, ?_⟩
      rw [rgD]
      exact forL_ret (loc' := (stT xs rule g (some (.d (.int p)))).loc) rfl turn
    · rw [if_neg c] at h turn
      have ih := took_loop few g k (p + 1) v (some (.d (.int p))) h
      rw [rgD, forL_cons (loc' := (stT xs rule g (some (.d (.int p)))).loc) rfl turn]
      rw [show ((p + 1 : Nat) : Int) = ((p : Nat) : Int) + 1 by omega] at ih
      exact ih
theorem took_at {xs rule : List Int} {v : Int} (ne : xs ≠ []) (few : xs.length < 64) (h : tookGo xs rule xs.length 0 = some v) (g : GS) : oTook [.tup (ofI xs), .tup (ofI rule)] g = .ok (.int v) g := by
  have es : (⟨start0 3 [.tup (ofI xs), .tup (ofI rule)], [], g⟩ : LS) = stT xs rule g none := rfl
  unfold oTook
  rw [runF_at (by rfl), es]
  have v0 : eVar 0 (stT xs rule g none) = okD (.tup (ofI xs)) (stT xs rule g none) := rfl
  have items : iRng rng1 (aCons (eB (arg1 sLen) (aCons (eVar 0) aNil)) aNil) (stT xs rule g none) = .ok (rgD 0 xs.length) (stT xs rule g none) := by
    rw [iRng_d (aCons_d (len_d v0) aNil_d) (is := [(xs.length : Int)]) rfl]
    simp only [rng1]
    rw [small_medium (by omega), Int.toNat_natCast]
    rfl
  have nought : ((0 : Nat) : Int) = 0 := rfl
  rcases took_loop few g xs.length 0 v none h with ⟨s1, hg, e⟩ | ⟨rfl, o', e⟩
  · rw [nought] at e
    rw [sSeq_ret (d := .int v) (s1 := s1) (by unfold sFor; rw [items]; exact e)]
    show FOut.ok (.int v) s1.g = _
    rw [hg]
  · rw [nought] at e
    rw [sSeq_nx (s1 := stT xs rule g o') (by unfold sFor; rw [items]; exact e)]
    have w0 : eVar 0 (stT xs rule g o') = okD (.tup (ofI xs)) (stT xs rule g o') := rfl
    have m1 : eUn sNeg (eC (.int 1)) (stT xs rule g o') = okD (.int (-1)) (stT xs rule g o') := rfl
    have last : eOp sIx (eVar 0) (eUn sNeg (eC (.int 1))) (stT xs rule g o') = okD (.int (xs.getLastD 0)) (stT xs rule g o') := by
      rw [eOp_d w0 m1]
      show onO (atI (ofI xs) (-1)) _ = _
      rw [at_last ne]
      rfl
    rw [sRet_d last]
    rfl
def fTook : List D → Option D
  | [.tup ds, .tup es] => (intsD ds).bind fun xs => (intsD es).bind fun rule => if xs ≠ [] ∧ xs.length < 64 then (tookGo xs rule xs.length 0).map D.int else none
  | _ => none
theorem ok_took : ∀ ds d g, fTook ds = some d → oTook ds g = .ok d g := by
  intro ds d g e
  unfold fTook at e
  split at e
  · obtain ⟨xs, hx, e⟩ := Option.bind_eq_some_iff.mp e
    obtain ⟨rule, hr, e⟩ := Option.bind_eq_some_iff.mp e
    rw [intsD_eq hx, intsD_eq hr]
    split at e
    · rename_i c
      obtain ⟨v, hv, rfl⟩ := Option.map_eq_some_iff.mp e
      exact took_at c.1 c.2 hv g
    · cases e
  · cases e
end Br

/-! The checks of numbers, places and ranks; chances and means asked for; sums of the law's own. -/
namespace Br
open PySem L2
/-! ### checks that pass -/
def oNum : List D → GS → FOut := runF 1 1 (sIf (tNo (tV (eCall oInt (aCons (eVar 0) (aCons (eC (.int 1)) (aCons (eC (.int 10)) aNil)))))) (sRaise "InvalidNumber") sNx)
theorem int_in {x lo hi : Int} (h1 : lo ≤ x) (h2 : x ≤ hi) (g : GS) : oInt [.int x, .int lo, .int hi] g = .ok (.bl true) g := by
  rw [int_at, decide_eq_true h1, decide_eq_true h2]
  rfl
/-- if not is_integer(a, b, c): raise .., where it is one -/
theorem pass_d {fa fb fc : LS → Out Lv} {x lo hi : Int} {c : Str} {s : LS} (ha : fa s = okD (.int x) s) (hb : fb s = okD (.int lo) s) (hc : fc s = okD (.int hi) s) (h1 : lo ≤ x) (h2 : x ≤ hi) : sIf (tNo (tV (eCall oInt (aCons fa (aCons fb (aCons fc aNil)))))) (sRaise c) sNx s = .ok .nx s := by
  have q := eCall3 (s := s) ha hb hc (int_in h1 h2 s.g)
  rw [sIf_f (s1 := s) (tNo_d (tV_d q))]
  rfl
theorem num_at {n : Int} (h1 : 1 ≤ n) (h2 : n ≤ 10) (g : GS) : oNum [.int n] g = .ok .non g := by
  show fin (sIf _ _ _ ⟨[some (.d (.int n))], [], g⟩) = _
  rw [pass_d (fa := eVar 0) (fb := eC (.int 1)) (fc := eC (.int 10)) (x := n) (lo := 1) (hi := 10) rfl rfl rfl h1 h2]
  rfl
def oCand : List D → GS → FOut := runF 3 3 (sSeq (sEx (eCall oNum (aCons (eVar 0) aNil)))
  (sSeq (sIf (tNo (tV (eCall oInt (aCons (eVar 1) (aCons (eC (.int 1)) (aCons (eVar 0) aNil)))))) (sRaise "InvalidPlace") sNx)
  (sIf (tNo (tV (eCall oInt (aCons (eVar 2) (aCons (eC (.int 1)) (aCons (eVar 1) aNil)))))) (sRaise "InvalidRank") sNx)))
theorem cand_at {n i a : Int} (h1 : 1 ≤ n) (h2 : n ≤ 10) (h3 : 1 ≤ i) (h4 : i ≤ n) (h5 : 1 ≤ a) (h6 : a ≤ i) (g : GS) : oCand [.int n, .int i, .int a] g = .ok .non g := by
  let s : LS := ⟨[some (.d (.int n)), some (.d (.int i)), some (.d (.int a))], [], g⟩
  have c := eCall1 (s := s) (fa := eVar 0) (d := .int n) rfl (num_at h1 h2 g)
  show fin (sSeq _ _ s) = _
  rw [sSeq_nx (sEx_d c)]
  show fin (sSeq _ _ s) = _
  rw [sSeq_nx (pass_d (s := s) (fa := eVar 1) (fb := eC (.int 1)) (fc := eVar 0) (x := i) (lo := 1) (hi := n) rfl rfl rfl h3 h4)]
  rw [pass_d (s := s) (fa := eVar 2) (fb := eC (.int 1)) (fc := eVar 1) (x := a) (lo := 1) (hi := i) rfl rfl rfl h5 h6]
  rfl
def oRank : List D → GS → FOut := runF 4 4 (sSeq (sEx (eCall oCand (aCons (eVar 0) (aCons (eVar 1) (aCons (eVar 2) aNil)))))
  (sSeq (sIf (tNo (tV (eCall oInt (aCons (eVar 3) (aCons (eC (.int 1)) (aCons (eVar 0) aNil)))))) (sRaise "InvalidRank") sNx)
  (sRet (eCall mChance (aCons (eVar 0) (aCons (eVar 1) (aCons (eVar 2) (aCons (eVar 3) aNil))))))))
theorem rank_at {n i a b : Int} {d : D} (h1 : 1 ≤ n) (h2 : n ≤ 10) (h3 : 1 ≤ i) (h4 : i ≤ n) (h5 : 1 ≤ a) (h6 : a ≤ i) (h7 : 1 ≤ b) (h8 : b ≤ n) (h : chF n i a b = some d) (g : GS) : oRank [.int n, .int i, .int a, .int b] g = .ok d g := by
  let s : LS := ⟨[some (.d (.int n)), some (.d (.int i)), some (.d (.int a)), some (.d (.int b))], [], g⟩
  have v0 : eVar 0 s = okD (.int n) s := rfl
  have v1 : eVar 1 s = okD (.int i) s := rfl
  have v2 : eVar 2 s = okD (.int a) s := rfl
  have v3 : eVar 3 s = okD (.int b) s := rfl
  have c := eCall3 (s := s) v0 v1 v2 (cand_at h1 h2 h3 h4 h5 h6 g)
  show fin (sSeq _ _ s) = _
  rw [sSeq_nx (sEx_d c)]
  show fin (sSeq _ _ s) = _
  rw [sSeq_nx (pass_d (s := s) (fb := eC (.int 1)) (lo := 1) v3 rfl v0 h7 h8)]
  rw [sRet_d (call_d (aCons_d v0 (aCons_d v1 (aCons_d v2 (aCons_d v3 aNil_d)))) rfl (chance_ok h g) rfl)]
  rfl
def rankB (n i a : Int) : Bool := decide (1 ≤ n) && decide (n ≤ 10) && decide (1 ≤ i) && decide (i ≤ n) && decide (1 ≤ a) && decide (a ≤ i)
theorem rankB_of {n i a : Int} (h : rankB n i a = true) : 1 ≤ n ∧ n ≤ 10 ∧ 1 ≤ i ∧ i ≤ n ∧ 1 ≤ a ∧ a ≤ i := by
  unfold rankB at h
  simp only [decide_eq_true_eq, Bool.and_eq_true] at h
  omega
def fRank : List D → Option D
  | [.int n, .int i, .int a, .int b] => if (rankB n i a && decide (1 ≤ b) && decide (b ≤ n)) = true then chF n i a b else none
  | _ => none
theorem ok_rank : ∀ ds d g, fRank ds = some d → oRank ds g = .ok d g := by
  intro ds d g e
  unfold fRank at e
  split at e
  · split at e
    · rename_i c
      rw [Bool.and_eq_true, Bool.and_eq_true] at c
      obtain ⟨h1, h2, h3, h4, h5, h6⟩ := rankB_of c.1.1
      exact rank_at h1 h2 h3 h4 h5 h6 (of_decide_eq_true c.1.2) (of_decide_eq_true c.2) e g
    · cases e
  · cases e
def oMeanR : List D → GS → FOut := runF 3 3 (sSeq (sEx (eCall oCand (aCons (eVar 0) (aCons (eVar 1) (aCons (eVar 2) aNil)))))
  (sRet (eCall mMean (aCons (eVar 0) (aCons (eVar 1) (aCons (eVar 2) aNil))))))
theorem meanR_at {n i a : Int} {d : D} (h1 : 1 ≤ n) (h2 : n ≤ 10) (h3 : 1 ≤ i) (h4 : i ≤ n) (h5 : 1 ≤ a) (h6 : a ≤ i) (h : meF n i a = some d) (g : GS) : oMeanR [.int n, .int i, .int a] g = .ok d g := by
  let s : LS := ⟨[some (.d (.int n)), some (.d (.int i)), some (.d (.int a))], [], g⟩
  have v0 : eVar 0 s = okD (.int n) s := rfl
  have v1 : eVar 1 s = okD (.int i) s := rfl
  have v2 : eVar 2 s = okD (.int a) s := rfl
  have c := eCall3 (s := s) v0 v1 v2 (cand_at h1 h2 h3 h4 h5 h6 g)
  show fin (sSeq _ _ s) = _
  rw [sSeq_nx (sEx_d c)]
  show fin (sRet _ s) = _
  rw [sRet_d (call_d (aCons_d v0 (aCons_d v1 (aCons_d v2 aNil_d))) rfl (mean_ok h g) rfl)]
  rfl
def fMeanR : List D → Option D
  | [.int n, .int i, .int a] => if rankB n i a = true then meF n i a else none
  | _ => none
theorem ok_meanR : ∀ ds d g, fMeanR ds = some d → oMeanR ds g = .ok d g := by
  intro ds d g e
  unfold fMeanR at e
  split at e
  · split at e
    · rename_i c
      obtain ⟨h1, h2, h3, h4, h5, h6⟩ := rankB_of c
      exact meanR_at h1 h2 h3 h4 h5 h6 e g
    · cases e
  · cases e
/-! ### within a try -/
theorem try_ok {i : Nat} {l : List Nat} {f : LS → Out Fl} {fl : Fl} {s s1 : LS} (h : f s = .ok fl s1) : sTry i l f s = .ok fl s1 := by
  unfold sTry
  rw [h]
/-- def f(a, b, c, d): try: return g(a, b, c, d) -/
theorem ask4 {l : List Nat} {F : List D → Option D} {m : List D → GS → FOut} (h : ∀ ds d g, F ds = some d → m ds g = .ok d g) (hF : ∀ ds d, F ds = some d → ds.length = 4) : ∀ ds d g, F ds = some d → runF 4 5 (sTry 4 l (sRet (eCall m (aCons (eVar 0) (aCons (eVar 1) (aCons (eVar 2) (aCons (eVar 3) aNil))))))) ds g = .ok d g := by
  intro ds d g e
  match ds, hF ds d e, e with
  | [a, b, c, x], _, e =>
    let s : LS := ⟨[some (.d a), some (.d b), some (.d c), some (.d x), none], [], g⟩
    show fin (sTry 4 l _ s) = _
    have v0 : eVar 0 s = okD a s := rfl
    have v1 : eVar 1 s = okD b s := rfl
    have v2 : eVar 2 s = okD c s := rfl
    have v3 : eVar 3 s = okD x s := rfl
    rw [try_ok (sRet_d (call_d (aCons_d v0 (aCons_d v1 (aCons_d v2 (aCons_d v3 aNil_d)))) rfl (h _ _ g e) rfl))]
    rfl
theorem ask3 {l : List Nat} {F : List D → Option D} {m : List D → GS → FOut} (h : ∀ ds d g, F ds = some d → m ds g = .ok d g) (hF : ∀ ds d, F ds = some d → ds.length = 3) : ∀ ds d g, F ds = some d → runF 3 4 (sTry 3 l (sRet (eCall m (aCons (eVar 0) (aCons (eVar 1) (aCons (eVar 2) aNil)))))) ds g = .ok d g := by
  intro ds d g e
  match ds, hF ds d e, e with
  | [a, b, c], _, e =>
    let s : LS := ⟨[some (.d a), some (.d b), some (.d c), none], [], g⟩
    show fin (sTry 3 l _ s) = _
    have v0 : eVar 0 s = okD a s := rfl
    have v1 : eVar 1 s = okD b s := rfl
    have v2 : eVar 2 s = okD c s := rfl
    rw [try_ok (sRet_d (call_d (aCons_d v0 (aCons_d v1 (aCons_d v2 aNil_d))) rfl (h _ _ g e) rfl))]
    rfl
theorem fRank_len : ∀ ds d, fRank ds = some d → ds.length = 4 := by
  intro ds d e
  unfold fRank at e
  split at e
  · rfl
  · cases e
theorem fMeanR_len : ∀ ds d, fMeanR ds = some d → ds.length = 3 := by
  intro ds d e
  unfold fMeanR at e
  split at e
  · rfl
  · cases e
/-! ### sums -/
def frOf : D → Option (Int × Nat)
  | .tup [.int x, .int (.ofNat y)] => some (x, y)
  | _ => none
theorem frOf_some {d : D} {x : Int} {y : Nat} (h : frOf d = some (x, y)) : d = .tup [.int x, .int y] := by
  unfold frOf at h
  split at h
  · cases h
    rfl
  · cases h
def joOne (t : Int) (b : Nat) (x : Int) (y : Nat) : Option (Int × Nat) := if (fits64 t && fits64 b && fits64 x && fits64 y) = true then (low (t * y + x * b) (b * y)).bind frOf else none
theorem joOne_some {t x t1 : Int} {b y b1 : Nat} (h : joOne t b x y = some (t1, b1)) : (fits64 t = true ∧ fits64 b = true ∧ fits64 x = true) ∧ low (t * y + x * b) (b * y) = some (.tup [.int t1, .int b1]) := by
  unfold joOne at h
  split at h
  · rename_i k
    simp only [Bool.and_eq_true] at k
    obtain ⟨d, hd, h⟩ := Option.bind_eq_some_iff.mp h
    rw [frOf_some h] at hd
    exact ⟨⟨k.1.1.1, k.1.1.2, k.1.2⟩, hd⟩
  · cases h
def joGo : Int → Nat → List D → Option (Int × Nat)
  | t, b, [] => some (t, b)
  | t, b, d :: r => (frOf d).bind fun p => (joOne t b p.1 p.2).bind fun q => joGo q.1 q.2 r
def bJoin : LS → Out Fl := (sAsg (gT2 2 3) (eCall mPart (aCons (eOp sAdd (eOp sMul (eVar 2) (eOp sIx (eVar 1) (eC (.int 1)))) (eOp sMul (eOp sIx (eVar 1) (eC (.int 0))) (eVar 3))) (aCons (eOp sMul (eVar 3) (eOp sIx (eVar 1) (eC (.int 1)))) aNil))))
def oJoin : List D → GS → FOut := runF 1 4 (sSeq (sAsg (gT2 2 3) (eTup (aCons (eC (.int 0)) (aCons (eC (.int 1)) aNil)))) (sSeq (sFor (iSeq (eVar 0)) (gN 1) bJoin) (sRet (eTup (aCons (eVar 2) (aCons (eVar 3) aNil))))))
def stJ (X : D) (g : GS) (o : Option Lv) (t b : Int) : LS := ⟨[some (.d X), o, some (.d (.int t)), some (.d (.int b))], [], g⟩
theorem join_turn {X : D} {g : GS} {t x t1 : Int} {b y b1 : Nat} (kt : fits64 t = true) (kb : fits64 b = true) (kx : fits64 x = true) (hl : low (t * y + x * b) (b * y) = some (.tup [.int t1, .int b1])) : bJoin (stJ X g (some (.d (.tup [.int x, .int y]))) t b) = .ok .nx (stJ X g (some (.d (.tup [.int x, .int y]))) t1 b1) := by
  let S : LS := stJ X g (some (.d (.tup [.int x, .int y]))) t b
  have v2 : eVar 2 S = okD (.int t) S := rfl
  have v3 : eVar 3 S = okD (.int b) S := rfl
  have x0 : eOp sIx (eVar 1) (eC (.int 0)) S = okD (.int x) S := rfl
  have x1 : eOp sIx (eVar 1) (eC (.int 1)) S = okD (.int y) S := rfl
  have m1 := (eOp_d (sem := sMul) v2 x1).trans (mul_l (fits64_of kt))
  have m2 := (eOp_d (sem := sMul) x0 v3).trans (mul_l (fits64_of kx))
  have m3 := (eOp_d (sem := sMul) v3 x1).trans (mul_l (fits64_of kb))
  have m4 := add_d m1 m2
  have pt := part_ok (g := g) hl
  rw [Int.natCast_mul] at pt
  have e5 := call_d (m := mPart) (aCons_d m4 (aCons_d m3 aNil_d)) rfl pt rfl
  show bJoin S = _
  unfold bJoin sAsg
  rw [e5]
  rfl
theorem join_loop {X : D} {g : GS} : ∀ (ds : List D) (t : Int) (b : Nat) (t' : Int) (b' : Nat) (o : Option Lv), joGo t b ds = some (t', b') → ∃ o', forL (gN 1) bJoin ds (stJ X g o t b) = .ok .nx (stJ X g o' t' b')
  | [], t, b, t', b', o, h => by
    cases h
    exact ⟨o, rfl⟩
  | d :: r, t, b, t', b', o, h => by
    have h : (frOf d).bind (fun p => (joOne t b p.1 p.2).bind fun q => joGo q.1 q.2 r) = some (t', b') := h
    obtain ⟨⟨x, y⟩, hd, h⟩ := Option.bind_eq_some_iff.mp h
    obtain ⟨⟨t1, b1⟩, h1, h⟩ := Option.bind_eq_some_iff.mp h
    obtain ⟨⟨kt, kb, kx⟩, hl⟩ := joOne_some h1
    rw [frOf_some hd]
    obtain ⟨o', ih⟩ := join_loop (X := X) (g := g) r t1 b1 t' b' (some (.d (.tup [.int x, .int y]))) h
    refine ⟨o', ?_⟩
    rw [forL_cons (loc' := (stJ X g (some (.d (.tup [.int x, .int y]))) t b).loc) rfl (join_turn kt kb kx hl)]
    exact ih
theorem join_at {ds : List D} {t : Int} {b : Nat} (h : joGo 0 1 ds = some (t, b)) (g : GS) : oJoin [.lst ds] g = .ok (.tup [.int t, .int b]) g := by
  show fin (sSeq _ _ ⟨[some (.d (.lst ds)), none, none, none], [], g⟩) = _
  have st : sAsg (gT2 2 3) (eTup (aCons (eC (.int 0)) (aCons (eC (.int 1)) aNil))) ⟨[some (.d (.lst ds)), none, none, none], [], g⟩ = .ok .nx (stJ (.lst ds) g none 0 1) := rfl
  rw [sSeq_nx st]
  obtain ⟨o', e⟩ := join_loop (X := .lst ds) (g := g) ds 0 1 t b none h
  have loop : sFor (iSeq (eVar 0)) (gN 1) bJoin (stJ (.lst ds) g none 0 1) = _ := e
  rw [sSeq_nx loop]
  rfl
def fJoin : List D → Option D
  | [.lst ds] => (joGo 0 1 ds).map fun p => .tup [.int p.1, .int p.2]
  | _ => none
theorem ok_join : ∀ ds d g, fJoin ds = some d → oJoin ds g = .ok d g := by
  intro ds d g e
  unfold fJoin at e
  split at e
  · obtain ⟨p, hp, rfl⟩ := Option.map_eq_some_iff.mp e
    exact join_at hp g
  · cases e
def oBy : List D → GS → FOut := runF 2 2 (sRet (eCall mPart (aCons (eOp sMul (eOp sIx (eVar 0) (eC (.int 0))) (eOp sIx (eVar 1) (eC (.int 0)))) (aCons (eOp sMul (eOp sIx (eVar 0) (eC (.int 1))) (eOp sIx (eVar 1) (eC (.int 1)))) aNil))))
theorem ok_by : ∀ ds d g, fTimes ds = some d → oBy ds g = .ok d g := by
  intro ds d g h
  unfold fTimes at h
  split at h
  · rename_i a b c e
    split at h
    · rename_i k
      rw [Bool.and_eq_true, Bool.and_eq_true, Bool.and_eq_true] at k
      obtain ⟨⟨⟨ka, kb⟩, kc⟩, ke⟩ := k
      let S : LS := ⟨[some (.d (.tup [.int a, .int b])), some (.d (.tup [.int c, .int e]))], [], g⟩
      show fin (sRet _ S) = _
      have x0 : eOp sIx (eVar 0) (eC (.int 0)) S = okD (.int a) S := rfl
      have x1 : eOp sIx (eVar 0) (eC (.int 1)) S = okD (.int b) S := rfl
      have y0 : eOp sIx (eVar 1) (eC (.int 0)) S = okD (.int c) S := rfl
      have y1 : eOp sIx (eVar 1) (eC (.int 1)) S = okD (.int e) S := rfl
      have m1 := (eOp_d (sem := sMul) x0 y0).trans (mul_l (fits64_of ka))
      have m3 := (eOp_d (sem := sMul) x1 y1).trans (mul_l (fits64_of kb))
      have pt := part_ok (g := g) h
      rw [Int.natCast_mul] at pt
      rw [sRet_d (call_d (m := mPart) (aCons_d m1 (aCons_d m3 aNil_d)) rfl pt rfl)]
      rfl
    · cases h
  · cases h
end Br

/-! A drawn order is an order. -/
namespace Br
open PySem L2
theorem eOp_s {sem : D → D → LS → Out Lv} {fa fb : LS → Out Lv} {d e : D} {s s1 : LS} (ha : fa s = okD d s) (hb : fb s = okD e s1) : eOp sem fa fb s = sem d e s1 := by
  unfold eOp
  rw [ha]
  show Out.bind (fb s) _ = _
  rw [hb]
  rfl
def oPick : List D → GS → FOut := runF 3 3 (sRet (eOp sIx (eVar 2) (eCall mDraw (aCons (eVar 0) (aCons (eVar 1) (aCons (eB (arg1 sLen) (aCons (eVar 2) aNil)) aNil))))))
theorem pick_at {ns : List Int} (hl : ns.length ≤ 63) {t : Nat} (ht : t < 100000) (c : List Ch) {left : List Int} (ne : left ≠ []) : ∃ x ∈ left, oPick [.scr, .town, .lst (ofI left)] ⟨ns, some t, c⟩ = .ok (.int x) ⟨ns, some (t + 1), c⟩ := by
  have pos : 0 < left.length := List.length_pos_iff.mpr ne
  obtain ⟨d, d0, d1, e⟩ := draw_ok ns hl t ht c left.length (by omega)
  have lt : d.toNat < left.length := by omega
  have here : left[d.toNat]? = some left[d.toNat] := List.getElem?_eq_getElem lt
  refine ⟨left[d.toNat], List.getElem_mem lt, ?_⟩
  let s : LS := ⟨[some (.d .scr), some (.d .town), some (.d (.lst (ofI left)))], [], ⟨ns, some t, c⟩⟩
  have len : eB (arg1 sLen) (aCons (eVar 2) aNil) s = okD (.int left.length) s := by
    rw [eB1_d (fa := eVar 2) (d := .lst (ofI left)) rfl]
    show okD (.int ((ofI left).length : Nat)) s = _
    rw [len_ofI]
  have c3 := eCall3 (s := s) (fa := eVar 0) (fb := eVar 1) (d := .scr) (e := .town) rfl rfl len e
  have val := eOp_s (sem := sIx) (show eVar 2 s = okD (.lst (ofI left)) s from rfl) c3
  have ix : sIx (.lst (ofI left)) (.int d) { s with g := ⟨ns, some (t + 1), c⟩ } = okD (.int left[d.toNat]) { s with g := ⟨ns, some (t + 1), c⟩ } := by
    have spot : atI (ofI left) d = some (.int left[d.toNat]) := (congrArg (atI (ofI left)) (show d = ((d.toNat : Nat) : Int) by omega)).trans (at_nat left here)
    show onO (atI (ofI left) d) _ = _
    rw [spot]
    rfl
  show fin (sRet _ s) = _
  rw [sRet_d (val.trans ix)]
  rfl
/-- removing what is there -/
theorem rem_at {left : List Int} {x : Int} (h : x ∈ left) : mRem (ofI left) (.int x) = some (ofI (left.erase x)) := by
  have place : ∀ zs : List Int, x ∈ zs → ∃ j, place1 x zs = some j ∧ zs.eraseIdx j = zs.erase x := by
    intro zs
    induction zs with
    | nil => exact fun m => nomatch m
    | cons z r ih =>
      intro m
      by_cases e : z = x
      · exact ⟨0, by rw [place1, if_pos e], by rw [e, List.eraseIdx_cons_zero, List.erase_cons_head]⟩
      · obtain ⟨j, h1, h2⟩ := ih ((List.mem_cons.mp m).resolve_left fun q => e q.symm)
        refine ⟨j + 1, by rw [place1, if_neg e, h1]; rfl, ?_⟩
        rw [List.eraseIdx_cons_succ, h2, List.erase_cons_tail (by simpa using e)]
  obtain ⟨j, h1, h2⟩ := place left h
  simp only [mRem, intsD_ofI, h1, h2]
abbrev pickLoop : LS → Out Fl := sSeq (sMut mApp 5 (eCall oPick (aCons (eVar 0) (aCons (eVar 1) (aCons (eVar 4) aNil))))) (sMut mRem 4 (eOp sIx (eVar 5) (eUn sNeg (eC (.int 1)))))
def oSome : List D → GS → FOut := runF 3 6 (sSeq (sSet 3 (eOp sAdd (eC (.int 1)) (eCall mDraw (aCons (eVar 0) (aCons (eVar 1) (aCons (eVar 2) aNil))))))
  (sSeq (sPar2 4 5 (aCons (eLRg2O (eC (.int 1)) (eOp sAdd (eVar 3) (eC (.int 1)))) (aCons (eLstO aNil) aNil)))
  (sSeq (whL (tV (eOp sNe (eVar 4) (eLst aNil))) pickLoop 10000)
  (sRet (eB (arg1 sTuple) (aCons (eVar 5) aNil))))))
/-- the state of the loop -/
def stS (ns : List Int) (c : List Ch) (most n : Int) (t : Nat) (left made : List Int) : LS := ⟨[some (.d .scr), some (.d .town), some (.d (.int most)), some (.d (.int n)), some (.own 0), some (.own 1)], [some (.l (ofI left)), some (.l (ofI made))], ⟨ns, some t, c⟩⟩
theorem some_turn {ns : List Int} (hl : ns.length ≤ 63) {t : Nat} (ht : t < 100000) (c : List Ch) (most n : Int) {left made : List Int} (ne : left ≠ []) (few : made.length ≤ 1000) : ∃ x ∈ left, pickLoop (stS ns c most n t left made) = .ok .nx (stS ns c most n (t + 1) (left.erase x) (made ++ [x])) := by
  obtain ⟨x, hx, e⟩ := pick_at hl ht c ne
  refine ⟨x, hx, ?_⟩
  have call : eCall oPick (aCons (eVar 0) (aCons (eVar 1) (aCons (eVar 4) aNil))) (stS ns c most n t left made) = okD (.int x) (stS ns c most n (t + 1) left made) := by
    show called false (stS ns c most n t left made) (oPick [.scr, .town, .lst (ofI left)] ⟨ns, some t, c⟩) = _
    rw [e]
    rfl
  have one : sMut mApp 5 (eCall oPick (aCons (eVar 0) (aCons (eVar 1) (aCons (eVar 4) aNil)))) (stS ns c most n t left made) = .ok .nx (stS ns c most n (t + 1) left (made ++ [x])) := by
    show Out.bind (eCall oPick (aCons (eVar 0) (aCons (eVar 1) (aCons (eVar 4) aNil))) (stS ns c most n t left made)) _ = _
    rw [call]
    show onO (mApp (ofI made) (.int x)) _ = _
    unfold mApp
    rw [if_pos (by rw [len_ofI]; omega)]
    show Out.ok Fl.nx (⟨_, [some (.l (ofI left)), some (.l (ofI made ++ [.int x]))], _⟩ : LS) = _
    rw [show ofI made ++ [D.int x] = ofI (made ++ [x]) by simp [ofI]]
    rfl
  have last : eOp sIx (eVar 5) (eUn sNeg (eC (.int 1))) (stS ns c most n (t + 1) left (made ++ [x])) = okD (.int x) (stS ns c most n (t + 1) left (made ++ [x])) := by
    show onO (atI (ofI (made ++ [x])) (-1)) _ = _
    rw [at_last (by simp)]
    simp only [List.getLastD_concat]
    rfl
  have two : sMut mRem 4 (eOp sIx (eVar 5) (eUn sNeg (eC (.int 1)))) (stS ns c most n (t + 1) left (made ++ [x])) = .ok .nx (stS ns c most n (t + 1) (left.erase x) (made ++ [x])) := by
    show Out.bind (eOp sIx (eVar 5) (eUn sNeg (eC (.int 1))) (stS ns c most n (t + 1) left (made ++ [x]))) _ = _
    rw [last]
    show onO (mRem (ofI left) (.int x)) _ = _
    rw [rem_at hx]
    rfl
  unfold pickLoop
  rw [sSeq_nx one, two]
theorem some_loop {ns : List Int} (hl : ns.length ≤ 63) (c : List Ch) (most n : Int) : ∀ (fuel : Nat) (left made : List Int) (t : Nat), left.length < fuel → t + left.length < 100000 → made.length + left.length ≤ 1000 → ∃ out t', out.Perm (made ++ left) ∧ t' ≤ t + left.length ∧
    whL (tV (eOp sNe (eVar 4) (eLst aNil))) pickLoop fuel (stS ns c most n t left made) = .ok .nx (stS ns c most n t' [] out)
  | 0, left, made, t, f, _, _ => nomatch f
  | fuel + 1, left, made, t, f, ht, few => by
    have test : tV (eOp sNe (eVar 4) (eLst aNil)) (stS ns c most n t left made) = .ok (!decide (left = [])) (stS ns c most n t left made) := by
      refine tV_d ?_
      show onO (eqG ⟨ns, some t, c⟩ (.lst (ofI left)) (.lst (ofI []))) _ = _
      rw [eqG_lst]
      rfl
    by_cases e : left = []
    · subst e
      refine ⟨made, t, by rw [List.append_nil], Nat.le_refl _, ?_⟩
      show Out.bind (tV (eOp sNe (eVar 4) (eLst aNil)) (stS ns c most n t [] made)) _ = _
      rw [test]
      rfl
    · have pos : 0 < left.length := List.length_pos_iff.mpr e
      obtain ⟨x, hx, turn⟩ := some_turn hl (t := t) (by omega) c most n (made := made) e (by omega)
      have less : (left.erase x).length = left.length - 1 := List.length_erase_of_mem hx
      obtain ⟨out, t', perm, le, go⟩ := some_loop hl c most n fuel (left.erase x) (made ++ [x]) (t + 1) (by omega) (by omega) (by simp only [List.length_append, List.length_cons, List.length_nil]; omega)
      refine ⟨out, t', ?_, by omega, ?_⟩
      · refine perm.trans ?_
        rw [List.append_assoc]
        exact (List.perm_cons_erase hx).symm.append_left made
      · show Out.bind (tV (eOp sNe (eVar 4) (eLst aNil)) (stS ns c most n t left made)) _ = _
        rw [test, decide_eq_false e]
        show Out.bind (pickLoop (stS ns c most n t left made)) _ = _
        rw [turn]
        exact go
def upto (n : Nat) : List Int := (List.range n).map fun i => ((i : Nat) : Int) + 1
theorem rg_ofI : ∀ (n k : Nat), rgD ((k : Nat) + 1 : Int) n = ofI ((List.range' k n).map fun i => ((i : Nat) : Int) + 1)
  | 0, _ => rfl
  | n + 1, k => by
    rw [rgD, List.range'_succ, List.map_cons, ofI, List.map_cons, show ((k : Nat) + 1 : Int) + 1 = ((k + 1 : Nat) : Int) + 1 by omega, rg_ofI n (k + 1)]
theorem upto_ofI (n : Nat) : rgD 1 n = ofI (upto n) := by
  have := rg_ofI n 0
  rw [upto, List.range_eq_range']
  exact this
theorem upto_ord {n : Nat} (h1 : 1 ≤ n) (h2 : n ≤ 10) {xs : List Int} (p : xs.Perm (upto n)) : Ord xs ∧ xs.length = n := by
  have len : xs.length = n := by rw [p.length_eq, upto, List.length_map, List.length_range]
  refine ⟨⟨by omega, by omega, fun x hx => ?_, ?_⟩, len⟩
  · obtain ⟨i, hi, rfl⟩ := List.mem_map.mp (p.mem_iff.mp hx)
    have := List.mem_range.mp hi
    omega
  · refine p.nodup_iff.mpr ?_
    rw [upto]
    exact List.Pairwise.map _ (fun a b h => by omega) (List.nodup_range (n := n))
theorem some_at {ns : List Int} (hl : ns.length ≤ 63) {t : Nat} (ht : t + 20 < 100000) (c : List Ch) {most : Nat} (m1 : 1 ≤ most) (m2 : most ≤ 10) : ∃ xs n t', 1 ≤ n ∧ n ≤ most ∧ xs.Perm (upto n) ∧ t' ≤ t + 20 ∧ oSome [.scr, .town, .int most] ⟨ns, some t, c⟩ = .ok (.tup (ofI xs)) ⟨ns, some t', c⟩ := by
  obtain ⟨d, d0, d1, e⟩ := draw_ok ns hl t (by omega) c most (by omega)
  let s : LS := ⟨[some (.d .scr), some (.d .town), some (.d (.int most)), none, none, none], [], ⟨ns, some t, c⟩⟩
  have draw := eCall3 (s := s) (fa := eVar 0) (fb := eVar 1) (fc := eVar 2) (d := .scr) (e := .town) (q := .int most) rfl rfl rfl e
  have first := sSet_d (i := 3) (eOp_s (sem := sAdd) (show eC (.int 1) s = okD (.int 1) s from rfl) draw)
  have len : (upto (1 + d).toNat).length = (1 + d).toNat := by rw [upto, List.length_map, List.length_range]
  obtain ⟨out, t', perm, le, loop⟩ := some_loop hl c most (1 + d) 10000 (upto (1 + d).toNat) [] (t + 1) (by omega) (by omega) (by rw [List.length_nil]; omega)
  refine ⟨out, (1 + d).toNat, t', by omega, by omega, by simpa using perm, by omega, ?_⟩
  have second : sPar2 4 5 (aCons (eLRg2O (eC (.int 1)) (eOp sAdd (eVar 3) (eC (.int 1)))) (aCons (eLstO aNil) aNil)) ⟨[some (.d .scr), some (.d .town), some (.d (.int most)), some (.d (.int (1 + d))), none, none], [], ⟨ns, some (t + 1), c⟩⟩ = .ok .nx (stS ns c most (1 + d) (t + 1) (upto (1 + d).toNat) []) := by
    have ok : rgOk 1 (1 + d + 1) = true := by unfold rgOk small; simp; omega
    have mk : eLRg2O (eC (.int 1)) (eOp sAdd (eVar 3) (eC (.int 1))) ⟨[some (.d .scr), some (.d .town), some (.d (.int most)), some (.d (.int (1 + d))), none, none], [], ⟨ns, some (t + 1), c⟩⟩ = .ok (.own 0) ⟨[some (.d .scr), some (.d .town), some (.d (.int most)), some (.d (.int (1 + d))), none, none], [some (.l (ofI (upto (1 + d).toNat)))], ⟨ns, some (t + 1), c⟩⟩ := by
      show gd (rgOk 1 (1 + d + 1)) (newOwn (rgN 1 (1 + d + 1)) _) = _
      rw [ok, rgN, show (1 + d + 1 - 1).toNat = (1 + d).toNat by omega, upto_ofI]
      rfl
    unfold sPar2 aCons
    rw [mk]
    rfl
  show fin (sSeq _ _ s) = _
  rw [sSeq_nx first]
  show fin (sSeq _ _ ⟨[some (.d .scr), some (.d .town), some (.d (.int most)), some (.d (.int (1 + d))), none, none], [], ⟨ns, some (t + 1), c⟩⟩) = _
  rw [sSeq_nx second, sSeq_nx loop]
  rfl
end Br

/-! Plain facts about orders: records, sums of relative ranks. No program in sight. -/
namespace Br
/-- the records of rest as (place, rank), behind k candidates of whom m is the least -/
def recP : Nat → Option Int → List Int → List (Nat × Int)
  | _, _, [] => []
  | k, m, x :: r => if m.all (fun y => decide (x < y)) then (k + 1, x) :: recP (k + 1) (some x) r else recP (k + 1) m r
/-- m is the least of done -/
def Least (done : List Int) (m : Option Int) : Prop := ∀ x : Int, m.all (fun y => decide (x < y)) = true ↔ ∀ y ∈ done, x < y
theorem least_nil : Least [] none := fun x => ⟨fun _ y h => (nomatch h), fun _ => rfl⟩
theorem least_put {done : List Int} {m : Option Int} {x : Int} (l : Least done m) (h : m.all (fun y => decide (x < y)) = true) : Least (done ++ [x]) (some x) := fun z => by
  have all := (l x).mp h
  simp only [Option.all_some, decide_eq_true_eq, List.mem_append, List.mem_singleton]
  refine ⟨fun lt y hy => ?_, fun h => h x (.inr rfl)⟩
  rcases hy with hy | rfl
  · have := all y hy; omega
  · exact lt
theorem least_keep {done : List Int} {m : Option Int} {x : Int} (l : Least done m) (h : m.all (fun y => decide (x < y)) = false) (out : x ∉ done) : Least (done ++ [x]) m := fun z => by
  rw [l z]
  simp only [List.mem_append, List.mem_singleton]
  refine ⟨fun all y hy => ?_, fun all y hy => all y (.inl hy)⟩
  rcases hy with hy | rfl
  · exact all y hy
  · have not : ¬ ∀ w ∈ done, y < w := fun q => by rw [(l y).mpr q] at h; cases h
    have : ∃ w ∈ done, ¬ y < w := by
      apply Classical.byContradiction
      intro none_
      exact not fun w hw => Classical.byContradiction fun q => none_ ⟨w, hw, q⟩
    obtain ⟨w, hw, le⟩ := this
    have := all w hw
    have ne : w ≠ y := fun e => out (e ▸ hw)
    omega
theorem one_iff {done : List Int} {x : Int} : ((((done ++ [x]).filter fun y => decide (y ≤ x)).length : Nat) : Int) = 1 ↔ ∀ y ∈ done, x < y := by
  rw [List.filter_append, List.length_append, show (([x] : List Int).filter fun y => decide (y ≤ x)).length = 1 by simp]
  constructor
  · intro h y hy
    have zero : (done.filter fun y => decide (y ≤ x)).length = 0 := by omega
    have := List.length_eq_zero_iff.mp zero
    rw [List.filter_eq_nil_iff] at this
    have q := this y hy
    simp at q
    exact q
  · intro h
    have : done.filter (fun y => decide (y ≤ x)) = [] := by
      rw [List.filter_eq_nil_iff]
      intro y hy
      have := h y hy
      simp
      exact this
    rw [this]
    rfl
theorem ones_rec : ∀ (rest done : List Int) (m : Option Int), Least done m → (done ++ rest).Nodup → ones done.length (relGo done rest) = (recP done.length m rest).map fun p => ((p.1 : Nat) : Int)
  | [], _, _, _, _ => rfl
  | x :: r, done, m, l, nd => by
    have nd' : ((done ++ [x]) ++ r).Nodup := by rw [List.append_assoc]; exact nd
    have len : (done ++ [x]).length = done.length + 1 := by rw [List.length_append]; rfl
    have out : x ∉ done := fun h => by
      have := (List.nodup_append.mp nd).2.2 x h x List.mem_cons_self
      exact this rfl
    rw [relGo, ones, recP]
    cases h : m.all (fun y => decide (x < y)) with
    | true =>
      rw [if_pos (one_iff.mpr ((l x).mp h)), if_pos rfl, List.map_cons, ← len, ones_rec r (done ++ [x]) (some x) (least_put l h) nd']
    | false =>
      have not : ¬ ((((done ++ [x]).filter fun y => decide (y ≤ x)).length : Nat) : Int) = 1 := fun q => by
        rw [(l x).mpr (one_iff.mp q)] at h; cases h
      rw [if_neg not, if_neg (by simp), ← len, ones_rec r (done ++ [x]) m (least_keep l h out) nd']
abbrev recs (xs : List Int) : List (Nat × Int) := recP 0 none xs
theorem recL_eq {xs : List Int} (nd : xs.Nodup) : recL xs = (recs xs).map fun p => ((p.1 : Nat) : Int) := ones_rec xs [] none least_nil nd
/-- a record's place and rank belong together -/
theorem recP_at : ∀ (rest : List Int) (k : Nat) (m : Option Int) (p : Nat × Int), p ∈ recP k m rest → k < p.1 ∧ p.1 ≤ k + rest.length ∧ rest[p.1 - k - 1]? = some p.2
  | [], _, _, _, h => nomatch h
  | x :: r, k, m, p, h => by
    rw [recP] at h
    have go : ∀ m', p ∈ recP (k + 1) m' r → k < p.1 ∧ p.1 ≤ k + (x :: r).length ∧ (x :: r)[p.1 - k - 1]? = some p.2 := fun m' h => by
      obtain ⟨h1, h2, h3⟩ := recP_at r (k + 1) m' p h
      refine ⟨by omega, by rw [List.length_cons]; omega, ?_⟩
      rw [show p.1 - k - 1 = (p.1 - (k + 1) - 1) + 1 by omega, List.getElem?_cons_succ]
      exact h3
    split at h
    · obtain rfl | h := List.mem_cons.mp h
      · refine ⟨Nat.lt_succ_self k, by rw [List.length_cons]; omega, ?_⟩
        rw [show k + 1 - k - 1 = 0 by omega]
        rfl
      · exact go _ h
    · exact go _ h
/-- ranks of records fall, and lie below m -/
theorem recP_fall : ∀ (rest : List Int) (k : Nat) (m : Option Int), (recP k m rest).Pairwise (fun p q => p.1 < q.1 ∧ q.2 < p.2) ∧ ∀ p ∈ recP k m rest, m.all (fun y => decide (p.2 < y)) = true
  | [], _, _ => ⟨.nil, fun _ h => nomatch h⟩
  | x :: r, k, m => by
    rw [recP]
    split
    · rename_i h
      obtain ⟨h1, h2⟩ := recP_fall r (k + 1) (some x)
      refine ⟨List.pairwise_cons.mpr ⟨fun q hq => ⟨(recP_at r (k + 1) _ q hq).1, by simpa using h2 q hq⟩, h1⟩, fun p hp => ?_⟩
      obtain rfl | hp := List.mem_cons.mp hp
      · exact h
      · have := h2 p hp
        cases m with
        | none => rfl
        | some y => simp at this h ⊢; omega
    · obtain ⟨h1, h2⟩ := recP_fall r (k + 1) m
      exact ⟨h1, h2⟩
/-- nobody is below all records and m -/
theorem recP_low : ∀ (rest : List Int) (k : Nat) (m : Option Int) (x : Int), x ∈ rest → (∃ p ∈ recP k m rest, p.2 ≤ x) ∨ ∃ y, m = some y ∧ y ≤ x
  | [], _, _, _, h => nomatch h
  | z :: r, k, m, x, h => by
    rw [recP]
    split
    · rename_i c
      refine .inl ?_
      obtain rfl | h := List.mem_cons.mp h
      · exact ⟨_, List.mem_cons_self, Int.le_refl _⟩
      · rcases recP_low r (k + 1) (some z) x h with ⟨p, hp, le⟩ | ⟨y, e, le⟩
        · exact ⟨p, List.mem_cons_of_mem _ hp, le⟩
        · cases e
          exact ⟨_, List.mem_cons_self, le⟩
    · rename_i c
      obtain rfl | h := List.mem_cons.mp h
      · cases m with
        | none => exact absurd rfl c
        | some y => exact .inr ⟨y, rfl, by simpa using c⟩
      · exact recP_low r (k + 1) m x h
/-- what waiting finds: the first record behind r -/
theorem first_rec (r : Nat) : ∀ (rest done : List Int) (m : Option Int), Least done m → (done ++ rest).Nodup → firstGo r done.length (relGo done rest) rest = ((recP done.length m rest).find? fun p => decide (r < p.1)).map (·.2)
  | [], _, _, _, _ => rfl
  | x :: rest, done, m, l, nd => by
    have nd' : ((done ++ [x]) ++ rest).Nodup := by rw [List.append_assoc]; exact nd
    have len : (done ++ [x]).length = done.length + 1 := by rw [List.length_append]; rfl
    have out : x ∉ done := fun h => (List.nodup_append.mp nd).2.2 x h x List.mem_cons_self rfl
    rw [relGo, firstGo, recP]
    cases h : m.all (fun y => decide (x < y)) with
    | true =>
      have one := one_iff.mpr ((l x).mp h)
      rw [if_pos rfl, List.find?_cons]
      by_cases hr : r ≤ done.length
      · rw [if_pos ⟨by omega, one⟩, show decide (r < done.length + 1) = true from decide_eq_true (by omega)]
        rfl
      · rw [if_neg (fun q => hr (by omega)), show decide (r < done.length + 1) = false from decide_eq_false (by omega), ← len]
        exact first_rec r rest (done ++ [x]) (some x) (least_put l h) nd'
    | false =>
      have not : ¬ ((((done ++ [x]).filter fun y => decide (y ≤ x)).length : Nat) : Int) = 1 := fun q => by
        rw [(l x).mpr (one_iff.mp q)] at h; cases h
      rw [if_neg (fun q => not q.2), if_neg (by simp), ← len]
      exact first_rec r rest (done ++ [x]) m (least_keep l h out) nd'
theorem take_eq {xs : List Int} (nd : xs.Nodup) (r : Nat) : takeL xs r = (((recs xs).find? fun p => decide (r < p.1)).map (·.2)).getD (xs.getLastD 0) := by
  unfold takeL relL
  rw [show firstGo ((r : Nat) : Int) 0 (relGo [] xs) xs = _ from first_rec r xs [] none least_nil nd]
  rfl
end Br

/-! What law k20 asks of an order, in plain words. -/
namespace Br
section
variable {xs : List Int} {n : Nat}
theorem one_in (h1 : 1 ≤ n) (p : xs.Perm (upto n)) : (1 : Int) ∈ xs := p.mem_iff.mpr (List.mem_map.mpr ⟨0, List.mem_range.mpr h1, by omega⟩)
theorem ge_one (p : xs.Perm (upto n)) : ∀ x ∈ xs, 1 ≤ x := fun x hx => by
  obtain ⟨i, _, rfl⟩ := List.mem_map.mp (p.mem_iff.mp hx)
  omega
theorem rec_in {q : Nat × Int} (h : q ∈ recs xs) : 0 < q.1 ∧ q.1 ≤ xs.length ∧ xs[q.1 - 1]? = some q.2 := by
  obtain ⟨h1, h2, h3⟩ := recP_at xs 0 none q h
  exact ⟨h1, by omega, h3⟩
theorem rec_mem {q : Nat × Int} (h : q ∈ recs xs) : q.2 ∈ xs := List.mem_of_getElem? (rec_in h).2.2
/-- the best candidate is the last record -/
theorem rec_last (h1 : 1 ≤ n) (p : xs.Perm (upto n)) : ∃ pre k, recs xs = pre ++ [(k, 1)] ∧ ∀ q ∈ pre, 1 < q.2 ∧ q.1 < k := by
  obtain ⟨q, hq, le⟩ : ∃ q ∈ recs xs, q.2 ≤ 1 := by
    rcases recP_low xs 0 none 1 (one_in h1 p) with h | ⟨y, e, _⟩
    · exact h
    · cases e
  have q1 : q.2 = 1 := by have := ge_one p _ (rec_mem hq); omega
  obtain ⟨pre, post, e⟩ := List.append_of_mem hq
  have fall := (recP_fall xs 0 none).1
  rw [show recP 0 none xs = recs xs from rfl, e, List.pairwise_append] at fall
  have none_ : post = [] := by
    cases post with
    | nil => rfl
    | cons z r =>
      have lt := (List.pairwise_cons.mp fall.2.1).1 z List.mem_cons_self
      have := ge_one p z.2 (rec_mem (xs := xs) (by rw [e]; simp))
      omega
  subst none_
  refine ⟨pre, q.1, by rw [e, ← q1], fun z hz => ?_⟩
  have := fall.2.2 z hz q List.mem_cons_self
  omega
theorem rec_first (h : xs ≠ []) : ∃ x r, xs = x :: r ∧ recs xs = (1, x) :: recP 1 (some x) r := by
  cases xs with
  | nil => exact absurd rfl h
  | cons x r => exact ⟨x, r, rfl, rfl⟩
theorem perm_nodup (p : xs.Perm (upto n)) : xs.Nodup := by
  refine p.nodup_iff.mpr ?_
  rw [upto]
  exact List.Pairwise.map _ (fun a b h => by omega) (List.nodup_range (n := n))
theorem perm_len (p : xs.Perm (upto n)) : xs.length = n := by rw [p.length_eq, upto, List.length_map, List.length_range]
/-- waiting for r takes the best one just if one record comes later -/
theorem wait_best (h1 : 1 ≤ n) (p : xs.Perm (upto n)) {r : Nat} (hr : r < n) : takeL xs r = 1 ↔ ((recs xs).filter fun q => decide (r < q.1)).length = 1 := by
  have nd := perm_nodup p
  have len := perm_len p
  obtain ⟨pre, k, e, low⟩ := rec_last h1 p
  have hk := rec_in (xs := xs) (q := (k, 1)) (by rw [e]; simp)
  rw [take_eq nd, e, List.find?_append, List.filter_append]
  by_cases c : r < k
  · have one : [(k, (1 : Int))].filter (fun q => decide (r < q.1)) = [(k, 1)] := by simp [c]
    have fnd : [(k, (1 : Int))].find? (fun q => decide (r < q.1)) = some (k, 1) := by simp [c]
    rw [one, fnd, List.length_append]
    cases h : pre.find? (fun q => decide (r < q.1)) with
    | none =>
      have : pre.filter (fun q => decide (r < q.1)) = [] := by
        rw [List.filter_eq_nil_iff]
        exact List.find?_eq_none.mp h
      rw [this]
      simp
    | some q =>
      have hq := List.mem_of_find?_eq_some h
      have big := (low q hq).1
      have pos : 0 < (pre.filter fun q => decide (r < q.1)).length := List.length_pos_of_mem (a := q) (List.mem_filter.mpr ⟨hq, by simpa using List.find?_some h⟩)
      simp only [Option.some_or, Option.map_some, Option.getD_some, List.length_cons, List.length_nil]
      exact ⟨fun z => by omega, fun z => by omega⟩
  · have none1 : [(k, (1 : Int))].filter (fun q => decide (r < q.1)) = [] := by simp [c]
    have none2 : pre.filter (fun q => decide (r < q.1)) = [] := by
      rw [List.filter_eq_nil_iff]
      intro q hq
      have := (low q hq).2
      simp
      omega
    have none3 : pre.find? (fun q => decide (r < q.1)) = none := List.find?_eq_none.mpr (List.filter_eq_nil_iff.mp none2)
    have none4 : [(k, (1 : Int))].find? (fun q => decide (r < q.1)) = none := by simp [c]
    rw [none1, none2, none3, none4]
    have last : xs[n - 1]? = some (xs.getLastD 0) := by
      rw [← len, ← List.getLast?_eq_getElem?, List.getLastD_eq_getLast?, List.getLast?_eq_some_getLast (List.ne_nil_of_length_pos (by omega))]
      rfl
    simp only [Option.or_none, Option.map_none, Option.getD_none, List.append_nil, List.length_nil]
    refine ⟨fun z => ?_, fun z => (nomatch z)⟩
    rw [z, ← hk.2.2] at last
    have := (List.getElem?_inj (by omega) nd).mp last
    have := hk.1
    omega
/-! ### turned ranks -/
theorem two_sides {done : List Int} {x : Int} (out : x ∉ done) (N : Int) : ((done ++ [x]).filter fun y => decide (y ≤ x)).length + (((done ++ [x]).map fun v => N - v).filter fun y => decide (y ≤ N - x)).length = done.length + 2 := by
  rw [List.filter_map, List.length_map]
  simp only [List.filter_append, List.length_append, Function.comp_def]
  have one : ∀ zs : List Int, x ∉ zs → (zs.filter fun y => decide (y ≤ x)).length + (zs.filter fun y => decide (N - y ≤ N - x)).length = zs.length := by
    intro zs
    induction zs with
    | nil => exact fun _ => rfl
    | cons z r ih =>
      intro o
      have ih := ih fun h => o (List.mem_cons_of_mem _ h)
      have ne : z ≠ x := fun e => o (e ▸ List.mem_cons_self)
      rw [List.filter_cons, List.filter_cons, List.length_cons]
      by_cases h : z ≤ x
      · rw [if_pos (decide_eq_true h), if_neg (by simp; omega), List.length_cons]; omega
      · rw [if_neg (by simp; omega), if_pos (decide_eq_true (by omega)), List.length_cons]; omega
  have all := one done out
  have s1 : ([x].filter fun y => decide (y ≤ x)).length = 1 := by simp
  have s2 : ([x].filter fun y => decide (N - y ≤ N - x)).length = 1 := by simp
  rw [s1, s2]
  omega
theorem sums (N : Int) : ∀ (rest done : List Int), (done ++ rest).Nodup → List.zipWith (· + ·) (relGo done rest) (relGo (done.map fun v => N - v) (rest.map fun v => N - v)) = (List.range' done.length rest.length).map fun i => ((i : Nat) : Int) + 2
  | [], _, _ => rfl
  | x :: r, done, nd => by
    have nd' : ((done ++ [x]) ++ r).Nodup := by rw [List.append_assoc]; exact nd
    have out : x ∉ done := fun h => (List.nodup_append.mp nd).2.2 x h x List.mem_cons_self rfl
    have len : (done ++ [x]).length = done.length + 1 := by rw [List.length_append]; rfl
    have ih := sums N r (done ++ [x]) nd'
    have two := two_sides out N
    rw [List.map_append, len] at ih
    rw [List.map_append] at two
    rw [relGo, List.map_cons, relGo, List.zipWith_cons_cons, List.length_cons, List.range'_succ, List.map_cons]
    congr 1
    simp only [List.map_cons, List.map_nil] at two ih
    omega
theorem turned_sum (p : xs.Perm (upto n)) (N : Int) : List.zipWith (· + ·) (relL xs) (relL (xs.map fun v => N - v)) = (List.range n).map fun i => ((i : Nat) : Int) + 2 := by
  have := sums N xs [] (perm_nodup p)
  rw [perm_len p] at this
  rw [List.range_eq_range']
  exact this
theorem turned_perm (p : xs.Perm (upto n)) : (xs.map fun v => ((n : Nat) : Int) + 1 - v).Perm (upto n) := by
  refine (p.map _).trans ?_
  have : (upto n).map (fun v => ((n : Nat) : Int) + 1 - v) = (upto n).reverse := by
    apply List.ext_getElem
    · simp [upto]
    · intro i h1 h2
      simp [upto] at h1 ⊢
      omega
  rw [this]
  exact List.reverse_perm _
/-- only the first candidate is a record both ways -/
theorem both_ways (h : xs ≠ []) (nd : xs.Nodup) (N : Int) : (recL (xs.map fun v => N - v)).filter (fun q => decide (q ∈ recL xs)) = [1] := by
  obtain ⟨x, r, rfl, e⟩ := rec_first h
  have nd2 : ((x :: r).map fun v => N - v).Nodup := List.Pairwise.map _ (fun a b h => by omega) nd
  have e2 : recs ((x :: r).map fun v => N - v) = (1, N - x) :: recP 1 (some (N - x)) (r.map fun v => N - v) := rfl
  rw [recL_eq nd, recL_eq nd2, e, e2]
  show List.filter _ (1 :: (recP 1 (some (N - x)) (r.map fun v => N - v)).map fun q => ((q.1 : Nat) : Int)) = _
  rw [List.filter_cons, if_pos (by simp)]
  congr 1
  rw [List.filter_eq_nil_iff]
  intro q hq
  obtain ⟨⟨k, v⟩, hk, rfl⟩ := List.mem_map.mp hq
  obtain ⟨a1, a2, a3⟩ := recP_at _ _ _ _ hk
  have a4 := (recP_fall _ 1 _).2 _ hk
  simp only [decide_eq_true_eq, List.mem_map, List.mem_cons]
  rintro ⟨⟨k2, v2⟩, hk2, same⟩
  simp only at a1 a2 a3 a4 same
  have kk : k2 = k := by omega
  subst kk
  rcases hk2 with z | hk2
  · have := congrArg Prod.fst z
    simp only at this
    omega
  · obtain ⟨b1, b2, b3⟩ := recP_at _ _ _ _ hk2
    have b4 := (recP_fall _ 1 _).2 _ hk2
    simp only at b3 b4
    rw [List.getElem?_map, b3] at a3
    simp at a3 a4 b4
    omega
/-! ### one more -/
theorem recP_shift : ∀ (rest : List Int) (k : Nat) (m : Option Int), recP k (m.map (· + 1)) (rest.map (· + 1)) = (recP k m rest).map fun q => (q.1, q.2 + 1)
  | [], _, _ => rfl
  | x :: r, k, m => by
    have same : (m.map (· + 1)).all (fun y => decide (x + 1 < y)) = m.all (fun y => decide (x < y)) := by
      cases m with
      | none => rfl
      | some y => simp
    rw [List.map_cons, recP, recP, same]
    cases m.all (fun y => decide (x < y)) with
    | true => rw [if_pos rfl, if_pos rfl, List.map_cons, ← recP_shift r (k + 1) (some x)]; rfl
    | false => rw [if_neg (by simp), if_neg (by simp), recP_shift r (k + 1) m]
theorem recP_end {z : Int} : ∀ (rest : List Int) (k : Nat) (m : Option Int), m.all (fun y => decide (z < y)) = true → (∀ x ∈ rest, z < x) → recP k m (rest ++ [z]) = recP k m rest ++ [(k + rest.length + 1, z)]
  | [], k, m, h, _ => by
    simp only [List.nil_append, recP, h, if_true]
    rfl
  | x :: r, k, m, h, low => by
    have lx := low x List.mem_cons_self
    rw [List.cons_append, recP, recP]
    have go := fun m' h' => recP_end r (k + 1) m' h' fun y hy => low y (List.mem_cons_of_mem _ hy)
    have len : k + (x :: r).length + 1 = k + 1 + r.length + 1 := by rw [List.length_cons]; omega
    rw [len]
    cases m.all (fun y => decide (x < y)) with
    | true => rw [if_pos rfl, if_pos rfl, go (some x) (by simpa using lx)]; rfl
    | false => rw [if_neg (by simp), if_neg (by simp), go m h]
theorem longer_recs (p : xs.Perm (upto n)) : recs (xs.map (· + 1) ++ [1]) = ((recs xs).map fun q => (q.1, q.2 + 1)) ++ [(n + 1, 1)] := by
  have e := recP_end (z := 1) (xs.map (· + 1)) 0 none rfl fun x hx => by
    obtain ⟨y, inY, rfl⟩ := List.mem_map.mp hx
    have := ge_one p y inY
    omega
  rw [List.length_map, perm_len p] at e
  rw [show recs (xs.map (· + 1) ++ [1]) = _ from e, show recP 0 none (xs.map (· + 1)) = _ from recP_shift xs 0 none]
  simp
theorem longer_perm (p : xs.Perm (upto n)) : (xs.map (· + 1) ++ [1]).Perm (upto (n + 1)) := by
  have e : upto (n + 1) = 1 :: (upto n).map (· + 1) := by
    simp only [upto, List.range_succ_eq_map, List.map_cons, List.map_map]
    congr 1
  rw [e]
  exact (List.perm_append_comm).trans ((p.map _).cons 1)
theorem longer_take (p : xs.Perm (upto n)) : takeL (xs.map (· + 1) ++ [1]) n = 1 := by
  rw [take_eq (perm_nodup (longer_perm p)), longer_recs p, List.find?_append]
  have none_ : ((recs xs).map fun q => (q.1, q.2 + 1)).find? (fun q => decide (n < q.1)) = none := by
    rw [List.find?_eq_none]
    intro q hq
    obtain ⟨z, hz, rfl⟩ := List.mem_map.mp hq
    have := (rec_in hz).2.1
    rw [perm_len p] at this
    simp
    omega
  rw [none_]
  simp
/-! ### first and last -/
theorem rel_first (h : xs ≠ []) : (relL xs)[0]? = some 1 := by
  cases xs with
  | nil => exact absurd rfl h
  | cons x r => simp [relL, relGo]
theorem rel_append (z : Int) : ∀ (rest done : List Int), relGo done (rest ++ [z]) = relGo done rest ++ [(((done ++ rest ++ [z]).filter fun y => decide (y ≤ z)).length : Int)]
  | [], done => by rw [List.append_nil]; rfl
  | x :: r, done => by
    rw [List.cons_append, relGo, relGo, rel_append z r (done ++ [x]), List.cons_append, List.append_assoc done [x] r]
    rfl
theorem upto_count {z : Int} : ∀ (n : Nat), 0 ≤ z → z ≤ n → ((upto n).filter fun y => decide (y ≤ z)).length = z.toNat
  | 0, h0, h1 => by
    have : z = 0 := by omega
    subst this
    rfl
  | n + 1, h0, h1 => by
    have e : upto (n + 1) = upto n ++ [((n : Nat) : Int) + 1] := by simp only [upto, List.range_succ, List.map_append]; rfl
    rw [e, List.filter_append, List.length_append]
    by_cases c : z ≤ n
    · rw [upto_count n h0 c]
      have : [((n : Nat) : Int) + 1].filter (fun y => decide (y ≤ z)) = [] := by
        rw [List.filter_eq_nil_iff]
        intro y hy
        rw [List.mem_singleton.mp hy]
        simp
        omega
      rw [this]
      rfl
    · have all : (upto n).filter (fun y => decide (y ≤ z)) = upto n := by
        rw [List.filter_eq_self]
        intro y hy
        obtain ⟨i, hi, rfl⟩ := List.mem_map.mp hy
        have := List.mem_range.mp hi
        simp
        omega
      have one : [((n : Nat) : Int) + 1].filter (fun y => decide (y ≤ z)) = [((n : Nat) : Int) + 1] := by
        rw [List.filter_eq_self]
        intro y hy
        rw [List.mem_singleton.mp hy]
        simp
        omega
      rw [all, one]
      simp only [upto, List.length_map, List.length_range, List.length_cons, List.length_nil]
      omega
theorem rel_last (h1 : 1 ≤ n) (p : xs.Perm (upto n)) : (relL xs).getLastD 0 = xs.getLastD 0 := by
  have ne : xs ≠ [] := List.ne_nil_of_length_pos (by rw [perm_len p]; exact h1)
  have e : xs = xs.dropLast ++ [xs.getLast ne] := (List.dropLast_concat_getLast ne).symm
  have low := ge_one p _ (List.getLast_mem ne)
  have high : xs.getLast ne ≤ n := by
    obtain ⟨i, hi, q⟩ := List.mem_map.mp (p.mem_iff.mp (List.getLast_mem ne))
    have := List.mem_range.mp hi
    omega
  have all : (((xs.filter fun y => decide (y ≤ xs.getLast ne)).length : Nat) : Int) = xs.getLast ne := by
    rw [(p.filter _).length_eq, upto_count n (by omega) high]
    omega
  have last : xs.getLastD 0 = xs.getLast ne := by rw [List.getLastD_eq_getLast?, List.getLast?_eq_some_getLast ne]; rfl
  rw [last]
  unfold relL
  conv => lhs; rw [e]
  rw [rel_append, List.getLastD_concat, List.nil_append, ← e]
  exact all
end
/-! ### the ranks of the records, sorted -/
theorem fall_sorted {vs : List Int} (h : vs.Pairwise (· > ·)) : (isort vs).reverse = vs := by
  have : vs.reverse = isort vs := isort_one (List.reverse_perm vs) (List.pairwise_reverse.mpr (h.imp fun q => by omega))
  rw [← this, List.reverse_reverse]
theorem recs_fall (xs : List Int) : ((recs xs).map (·.2)).Pairwise (· > ·) := List.Pairwise.map _ (fun a b h => h.2) (recP_fall xs 0 none).1
end Br

/-! What is refused. -/
namespace Br
open PySem L2
/-! ### is_order of any whole numbers -/
def inR (n : Nat) (x : Int) : Bool := decide (1 ≤ x) && decide (x ≤ n)
def ordC (xs : List Int) : Bool := (decide (1 ≤ xs.length) && decide (xs.length ≤ 10)) && (xs.all (inR xs.length) && decide ((dd xs).length = xs.length))
theorem filterMap_bl (f : Int → Bool) : ∀ xs : List Int, (xs.filterMap fun x => some (D.bl (f x))) = (xs.map f).map D.bl
  | [] => rfl
  | x :: r => by simp only [List.filterMap_cons, List.map_cons, filterMap_bl f r]
theorem all_map_id (f : Int → Bool) : ∀ xs : List Int, (xs.map f).all id = xs.all f
  | [] => rfl
  | x :: r => by simp only [List.map_cons, List.all_cons, id, all_map_id f r]
def blF (n : Nat) : D → Option D
  | .int x => some (.bl (inR n x))
  | _ => none
theorem order_all {xs : List Int} (few : xs.length ≤ 1000) (g : GS) : oOrder [.tup (ofI xs)] g = .ok (.bl (ordC xs)) g := by
  let s : LS := ⟨[some (.d (.tup (ofI xs))), none], [], g⟩
  have v0 : eVar 0 s = okD (.tup (ofI xs)) s := rfl
  have len := len_d v0
  have a1 : eUn (sIsi .tuple) (eVar 0) s = okD (.bl true) s := rfl
  have a2 := eCh_d (s := s) (fa := eC (.int 1)) (fc := eC (.int 10)) (a := 1) (c := 10) rfl len rfl
  have t1 := tOu_d (tNo_d (tV_d a1)) (tNo_d (tV_d a2))
  rw [Bool.not_true, Bool.false_or] at t1
  have eb : (decide ((1 : Int) ≤ (xs.length : Int)) && decide ((xs.length : Int) ≤ 10)) = (decide (1 ≤ xs.length) && decide (xs.length ≤ 10)) := by
    rw [show decide ((1 : Int) ≤ (xs.length : Int)) = decide (1 ≤ xs.length) from decide_eq_decide.mpr (by omega), show decide ((xs.length : Int) ≤ 10) = decide (xs.length ≤ 10) from decide_eq_decide.mpr (by omega)]
  rw [eb] at t1
  have comp : eLc (iSeq (eVar 0)) (gN 1) tYe (eCall oInt (aCons (eVar 1) (aCons (eC (.int 1)) (aCons (eB (arg1 sLen) (aCons (eVar 0) aNil)) aNil)))) [1] s = okD (.lst ((xs.map (inR xs.length)).map D.bl)) s := by
    have each : ∀ d ∈ ofI xs, lcTurn (gN 1) tYe (eCall oInt (aCons (eVar 1) (aCons (eC (.int 1)) (aCons (eB (arg1 sLen) (aCons (eVar 0) aNil)) aNil)))) (seen s.loc [1]) d s.g = some (blF xs.length d, s.g) := by
      intro d hd
      obtain ⟨x, hx, rfl⟩ := List.mem_map.mp hd
      let u : LS := ⟨[some (.d (.tup (ofI xs))), some (.d (.int x))], [], g⟩
      have len2 : eB (arg1 sLen) (aCons (eVar 0) aNil) u = okD (.int xs.length) u := len_d (show eVar 0 u = okD (.tup (ofI xs)) u from rfl)
      have c := eCall3 (s := u) (fa := eVar 1) (fb := eC (.int 1)) (d := .int x) (e := .int 1) rfl rfl len2 (int_at x 1 xs.length g)
      show (match eCall oInt _ u with | .ok (.d y) s2 => some (some y, s2.g) | _ => none) = _
      rw [c]
      rfl
    have q := eLc_ok (fi := iSeq (eVar 0)) (vs := [1]) (s := s) (s1 := s) (ds := ofI xs) rfl (by rw [len_ofI]; omega) each
    rw [q, filterMap_ofI]
    show okD (.lst (xs.filterMap fun x => some (D.bl (inR xs.length x)))) s = _
    rw [filterMap_bl]
  have t2 := tNo_d (tV_d (all_d comp))
  rw [all_map_id] at t2
  have a3 : eUn sLs (eVar 0) s = okD (.int ((dd xs).length : Nat)) s := by
    rw [eUn_d v0]
    show onO (intsD (ofI xs)) _ = _
    rw [intsD_ofI]
    show gd (decide (xs.length ≤ 1000)) (okD (.int ((dd xs).length : Nat)) s) = _
    rw [decide_eq_true few]
    rfl
  have t3 := (eOp_d a3 len).trans (sEq_int (i := (((dd xs).length : Nat) : Int)) (j := ((xs.length : Nat) : Int)))
  rw [show decide ((((dd xs).length : Nat) : Int) = ((xs.length : Nat) : Int)) = decide ((dd xs).length = xs.length) from decide_eq_decide.mpr (by omega)] at t3
  show fin (sSeq _ _ s) = _
  unfold ordC
  cases h1 : decide (1 ≤ xs.length) && decide (xs.length ≤ 10) with
  | false =>
    rw [h1] at t1
    rw [sSeq_ret (d := .bl false) (s1 := s) (by rw [sIf_t t1]; rfl)]
    rfl
  | true =>
    rw [h1] at t1
    rw [sSeq_nx (s1 := s) (by rw [sIf_f t1]; rfl)]
    cases h2 : xs.all (inR xs.length) with
    | false =>
      rw [h2] at t2
      rw [sSeq_ret (d := .bl false) (s1 := s) (by rw [sIf_t t2]; rfl)]
      rfl
    | true =>
      rw [h2] at t2
      rw [sSeq_nx (s1 := s) (by rw [sIf_f t2]; rfl), sRet_d t3]
      rfl
section
variable {xs : List Int} {n : Nat} (p : xs.Perm (upto n))
include p
theorem mem_upto {z : Int} : z ∈ xs ↔ 1 ≤ z ∧ z ≤ n := by
  rw [p.mem_iff]
  unfold upto
  constructor
  · intro h
    obtain ⟨k, hk, rfl⟩ := List.mem_map.mp h
    have := List.mem_range.mp hk
    omega
  · intro h
    refine List.mem_map.mpr ⟨(z - 1).toNat, List.mem_range.mpr (by omega), by omega⟩
theorem ordC_out {z : Int} (h : z < 1 ∨ (n : Int) + 1 < z) : ordC (xs ++ [z]) = false := by
  have l : (xs ++ [z]).length = n + 1 := by rw [List.length_append, perm_len p]; rfl
  have a : (xs ++ [z]).all (inR (xs ++ [z]).length) = false := by
    rw [List.all_append, l]
    have : inR (n + 1) z = false := by
      unfold inR
      rcases h with h | h
      · rw [decide_eq_false (by omega : ¬ (1 : Int) ≤ z)]; rfl
      · rw [decide_eq_false (by omega : ¬ z ≤ ((n + 1 : Nat) : Int))]; exact Bool.and_false _
    rw [List.all_cons, this]
    simp
  unfold ordC
  rw [a]
  simp
theorem ordC_twice {z : Int} (h : z ∈ xs) : ordC (xs ++ [z]) = false := by
  have l : (dd (xs ++ [z])).length = xs.length := same_len (dd_nodup _) (perm_nodup p) fun y => by
    rw [dd_mem, List.mem_append, List.mem_singleton]
    constructor
    · rintro (h' | rfl)
      · exact h'
      · exact h
    · exact .inl
  unfold ordC
  rw [show decide ((dd (xs ++ [z])).length = (xs ++ [z]).length) = false from decide_eq_false (by rw [l, List.length_append]; simp)]
  simp
end
/-! ### refusing -/
section
variable {m m2 : List D → GS → FOut} {fa fb ff : LS → Out Lv} {d e : D} {c : Str} {s : LS} {g : GS} {rest : LS → Out Fl} {n : Nat}
theorem eCall1_exc (ha : fa s = okD d s) (h : m [d] s.g = .exc c s.g) : eCall m (aCons fa aNil) s = .exc c s := by
  unfold eCall aCons
  rw [ha]
  show called true s (m [d] s.g) = _
  rw [h]
  rfl
theorem eCall2_exc (ha : fa s = okD d s) (hb : fb s = okD e s) (h : m [d, e] s.g = .exc c s.g) : eCall m (aCons fa (aCons fb aNil)) s = .exc c s := by
  unfold eCall aCons
  rw [ha]
  show Out.bind (Out.bind (Out.bind (fb s) _) _) _ = _
  rw [hb]
  show called true s (m [d, e] s.g) = _
  rw [h]
  rfl
theorem sEx_exc (h : fa s = .exc c s) : sEx fa s = .exc c s := by unfold sEx; rw [h]; rfl
theorem sRet_exc (h : fa s = .exc c s) : sRet fa s = .exc c s := by unfold sRet; rw [h]; rfl
theorem sSeq_exc {f h : LS → Out Fl} (e : f s = .exc c s) : sSeq f h s = .exc c s := by unfold sSeq; rw [e]; rfl
theorem check_no (h : ∀ g, oOrder [d] g = .ok (.bl false) g) (g : GS) : oCheck [d] g = .exc "InvalidOrder" g := by
  let s : LS := ⟨[some (.d d)], [], g⟩
  have q := eCall1 (s := s) (fa := eVar 0) (d := d) rfl (h g)
  show fin (sIf _ _ _ s) = _
  rw [sIf_t (s1 := s) (tNo_d (tV_d q))]
  rfl
theorem head1_no (h : oCheck [d] g = .exc c g) : runF 1 n (sSeq (sEx (eCall oCheck (aCons (eVar 0) aNil))) rest) [d] g = .exc c g := by
  let s : LS := ⟨start0 n [d], [], g⟩
  have v : eVar 0 s = okD d s := rfl
  show fin (sSeq _ _ s) = _
  rw [sSeq_exc (sEx_exc (eCall1_exc v h))]
  rfl
theorem head2_no (h : oCheck [d] g = .exc c g) : runF 2 n (sSeq (sEx (eCall oCheck (aCons (eVar 0) aNil))) rest) [d, e] g = .exc c g := by
  let s : LS := ⟨start0 n [d, e], [], g⟩
  have v : eVar 0 s = okD d s := rfl
  show fin (sSeq _ _ s) = _
  rw [sSeq_exc (sEx_exc (eCall1_exc v h))]
  rfl
/-- an order's check passes, the second check refuses -/
theorem second_no {xs : List Int} (o : Ord xs) (h : m [.int xs.length, e] g = .exc c g) : runF 2 n (sSeq (sEx (eCall oCheck (aCons (eVar 0) aNil))) (sSeq (sEx (eCall m (aCons (eB (arg1 sLen) (aCons (eVar 0) aNil)) (aCons (eVar 1) aNil)))) rest)) [.tup (ofI xs), e] g = .exc c g := by
  let s : LS := ⟨start0 n [.tup (ofI xs), e], [], g⟩
  have v : eVar 0 s = okD (.tup (ofI xs)) s := rfl
  have v1 : eVar 1 s = okD e s := rfl
  show fin (sSeq _ _ s) = _
  rw [sSeq_nx (sEx_d (eCall1 v (check_at o g)))]
  show fin (sSeq _ _ s) = _
  rw [sSeq_exc (sEx_exc (eCall2_exc (len_d v) v1 h))]
  rfl
theorem callV1 {tbl : List (Str × (List D → GS → FOut))} {x : Str} (h1 : ff s = okD (.gl x) s) (h2 : tbl.lookup x = some m) (ha : fa s = okD d s) : eCallV tbl ff (aCons fa aNil) s = called true s (m [d] s.g) := by
  unfold eCallV aCons
  rw [h1]
  show onO (tbl.lookup x) _ = _
  rw [h2]
  show Out.bind (Out.bind (fa s) _) _ = _
  rw [ha]
  rfl
theorem callV2 {tbl : List (Str × (List D → GS → FOut))} {x : Str} (h1 : ff s = okD (.gl x) s) (h2 : tbl.lookup x = some m) (ha : fa s = okD d s) (hb : fb s = okD e s) : eCallV tbl ff (aCons fa (aCons fb aNil)) s = called true s (m [d, e] s.g) := by
  unfold eCallV aCons
  rw [h1]
  show onO (tbl.lookup x) _ = _
  rw [h2]
  show Out.bind (Out.bind (fa s) _) _ = _
  rw [ha]
  show Out.bind (Out.bind (Out.bind (fb s) _) _) _ = _
  rw [hb]
  rfl
theorem try_exc {i : Nat} {l : List Nat} {f : LS → Out Fl} {j : Nat} (h : f s = .exc c s) (ht : tabOf l c = some j) (hi : i < s.loc.length) : sTry i l f s = .ok (.ret (.tup [.str "raised", .int (j : Nat)])) s := by
  unfold sTry
  rw [h]
  show onO (tabOf l c) _ = _
  rw [ht]
  show gd (decide (i < s.loc.length)) _ = _
  rw [decide_eq_true hi]
  rfl
end
/-! ### closed data compared -/
theorem eq_closed {g : GS} (hg : g.chs = []) {d e : D} {b : Bool} (h : eqG ⟨[], none, []⟩ d e = some b) : eqG g d e = some b := by
  obtain ⟨ns, t, c⟩ := g
  have hg : c = [] := hg
  subst hg
  exact eqG_up (ns := ns) (t := t) (g := ⟨[], none, []⟩) ⟨rfl, rfl⟩ h
section
variable {fa fb : LS → Out Lv} {d e : D} {b : Bool} {s : LS}
theorem ne_d (ha : fa s = okD d s) (hb : fb s = okD e s) (hg : s.g.chs = []) (h : eqG ⟨[], none, []⟩ d e = some b) : eOp sNe fa fb s = okD (.bl (!b)) s := by
  rw [eOp_d ha hb]
  show onO (eqG s.g d e) _ = _
  rw [eq_closed hg h]
  rfl
theorem eq_d (ha : fa s = okD d s) (hb : fb s = okD e s) (hg : s.g.chs = []) (h : eqG ⟨[], none, []⟩ d e = some b) : eOp sEq fa fb s = okD (.bl b) s := by
  rw [eOp_d ha hb]
  show onO (eqG s.g d e) _ = _
  rw [eq_closed hg h]
  rfl
theorem ne_intD {a c : Int} (ha : fa s = okD (.int a) s) (hb : fb s = okD (.int c) s) : eOp sNe fa fb s = okD (.bl (!decide (a = c))) s := (eOp_d ha hb).trans sNe_int
theorem eq_intD {a c : Int} (ha : fa s = okD (.int a) s) (hb : fb s = okD (.int c) s) : eOp sEq fa fb s = okD (.bl (decide (a = c))) s := (eOp_d ha hb).trans sEq_int
theorem add_tupD {xs ys : List Int} (ha : fa s = okD (.tup (ofI xs)) s) (hb : fb s = okD (.tup (ofI ys)) s) (few : xs.length + ys.length ≤ 100000) : eOp sAdd fa fb s = okD (.tup (ofI (xs ++ ys))) s := by
  rw [eOp_d ha hb]
  show gd (decide ((ofI xs).length + (ofI ys).length ≤ 100000)) (okD (.tup (ofI xs ++ ofI ys)) s) = _
  rw [decide_eq_true (by rw [len_ofI, len_ofI]; exact few)]
  show okD (.tup (ofI xs ++ ofI ys)) s = _
  simp only [ofI, List.map_append]
theorem ix_tupD {xs : List Int} {a v : Int} (ha : fa s = okD (.tup (ofI xs)) s) (hb : fb s = okD (.int a) s) (h : atI (ofI xs) a = some (.int v)) : eOp sIx fa fb s = okD (.int v) s := by
  rw [eOp_d ha hb]
  show onO (atI (ofI xs) a) _ = _
  rw [h]
  rfl
theorem lst_d {ga : LS → Out (List Lv)} {ds : List D} (h : ga s = .ok (ds.map .d) s) (few : ds.length ≤ 100000) : eLst ga s = okD (.lst ds) s := by
  have e : ∀ ds : List D, plains (ds.map Lv.d) = some ds := by
    intro ds
    induction ds with
    | nil => rfl
    | cons x r ih => simp only [List.map_cons, plains, ih]
  unfold eLst
  rw [h]
  show onO (plains (ds.map Lv.d)) _ = _
  rw [e]
  show gd (decide (ds.length ≤ 100000)) _ = _
  rw [decide_eq_true few]
  rfl
end
/-- a loop whose body changes nothing -/
theorem for_stay {j : Nat} {body : LS → Out Fl} (S : Option Lv → LS) (hset : ∀ o d, gN j d (S o).loc = some (S (some (.d d))).loc) (hs : ∀ o d, { S o with loc := (S (some (.d d))).loc } = S (some (.d d))) : ∀ {ds : List D}, (∀ d ∈ ds, body (S (some (.d d))) = .ok .nx (S (some (.d d)))) → ∀ o, ∃ o', forL (gN j) body ds (S o) = .ok .nx (S o')
  | [], _, o => ⟨o, rfl⟩
  | d :: ds, h, o => by
    obtain ⟨o', e⟩ := for_stay (body := body) S hset hs (fun x hx => h x (List.mem_cons_of_mem _ hx)) (some (.d d))
    refine ⟨o', ?_⟩
    unfold forL
    rw [hset]
    show Out.bind (body { S o with loc := (S (some (.d d))).loc }) _ = _
    rw [hs, h d List.mem_cons_self]
    exact e
/-! ### relative ranks are at least 1 -/
theorem rel_pos : ∀ (rest done : List Int), ∀ q ∈ relGo done rest, 1 ≤ q
  | [], _, q, h => by simp [relGo] at h
  | x :: r, done, q, h => by
    unfold relGo at h
    rcases List.mem_cons.mp h with h | h
    · have : x ∈ ((done ++ [x]).filter fun y => decide (y ≤ x)) := List.mem_filter.mpr ⟨by simp, by simp⟩
      have := List.length_pos_of_mem this
      rw [h]
      omega
    · exact rel_pos r (done ++ [x]) q h
theorem tb_zero : ∀ (m k : Nat) (qs : List Int) (t : Int), qs.length = m + 1 → (∀ q ∈ qs, 1 ≤ q) → qs.getLastD 0 ≤ t → tbGo k qs (List.replicate m 0 ++ [t]) = [(((k + m : Nat)) : Int)]
  | 0, k, qs, t, hl, h1, h2 => by
    match qs, hl with
    | [q], _ =>
      have h2 : q ≤ t := h2
      show (if q ≤ t then _ else _) = _
      rw [if_pos h2]
      rfl
  | m + 1, k, qs, t, hl, h1, h2 => by
    match qs, hl with
    | q :: r, hl =>
      have hq := h1 q List.mem_cons_self
      have hr : r.length = m + 1 := by simpa using hl
      show (if q ≤ 0 then _ else _) = _
      rw [if_neg (by omega)]
      have := tb_zero m (k + 1) r t hr (fun z hz => h1 z (List.mem_cons_of_mem _ hz)) (by
        match r, hr with
        | a :: b, _ => exact h2)
      rw [show k + 1 + m = k + (m + 1) by omega] at this
      exact this
end Br

/-! Orders and relative ranks, both ways. -/
namespace Br
open PySem L2
theorem snoc_ind {P : List Int → Prop} (h0 : P []) (h1 : ∀ xs x, P xs → P (xs ++ [x])) (xs : List Int) : P xs := by
  have back : ∀ ys : List Int, P ys.reverse := fun ys => by
    induction ys with
    | nil => exact h0
    | cons y r ih => rw [List.reverse_cons]; exact h1 _ _ ih
  have := back xs.reverse
  rwa [List.reverse_reverse] at this
def cnt (xs : List Int) (x : Int) : Nat := (xs.filter fun y => decide (y ≤ x)).length
theorem cnt_nil (x : Int) : cnt [] x = 0 := rfl
theorem cnt_cons (y : Int) (r : List Int) (x : Int) : cnt (y :: r) x = (if y ≤ x then 1 else 0) + cnt r x := by
  unfold cnt
  rw [List.filter_cons]
  by_cases h : y ≤ x
  · rw [if_pos (by simpa using h), if_pos h, List.length_cons]; omega
  · rw [if_neg (by simpa using h), if_neg h]; omega
theorem cnt_app (xs ys : List Int) (x : Int) : cnt (xs ++ ys) x = cnt xs x + cnt ys x := by
  unfold cnt
  rw [List.filter_append, List.length_append]
theorem cnt_one (y x : Int) : cnt [y] x = if y ≤ x then 1 else 0 := by rw [cnt_cons, cnt_nil]; rfl
theorem cnt_perm {xs ys : List Int} (p : xs.Perm ys) (x : Int) : cnt xs x = cnt ys x := (p.filter _).length_eq
theorem cnt_le {x y : Int} (h : x ≤ y) : ∀ xs : List Int, cnt xs x ≤ cnt xs y
  | [] => Nat.le_refl _
  | z :: r => by
    rw [cnt_cons, cnt_cons]
    have := cnt_le h r
    split <;> split <;> omega
theorem cnt_lt {x y : Int} (h : x < y) : ∀ {xs : List Int}, y ∈ xs → cnt xs x + 1 ≤ cnt xs y
  | [], m => nomatch m
  | z :: r, m => by
    rw [cnt_cons, cnt_cons]
    obtain e | m := List.mem_cons.mp m
    · have := cnt_le (Int.le_of_lt h) r
      rw [if_neg (by omega), if_pos (by omega)]
      omega
    · have := cnt_lt h m
      split <;> split <;> omega
theorem cnt_pos {xs : List Int} {x : Int} (h : x ∈ xs) : 1 ≤ cnt xs x := List.length_pos_of_mem (List.mem_filter.mpr ⟨h, by simp⟩)
def norm (xs : List Int) : List Int := xs.map fun x => ((cnt xs x : Nat) : Int)
theorem ordGo_app (q : Int) : ∀ (qs acc : List Int), ordGo acc (qs ++ [q]) = putIn (ordGo acc qs) q
  | [], acc => rfl
  | a :: r, acc => ordGo_app q r (putIn acc a)
theorem relL_app (xs : List Int) (z : Int) : relL (xs ++ [z]) = relL xs ++ [((cnt (xs ++ [z]) z : Nat) : Int)] := rel_append z xs []
theorem norm_app {xs : List Int} {x : Int} (nd : (xs ++ [x]).Nodup) : putIn (norm xs) ((cnt (xs ++ [x]) x : Nat) : Int) = norm (xs ++ [x]) := by
  have out : x ∉ xs := fun h => (List.nodup_append.mp nd).2.2 x h x List.mem_cons_self rfl
  unfold putIn norm
  rw [List.map_append, List.map_map]
  congr 1
  refine List.map_congr_left fun y hy => ?_
  show (if ((cnt xs y : Nat) : Int) ≥ ((cnt (xs ++ [x]) x : Nat) : Int) then ((cnt xs y : Nat) : Int) + 1 else ((cnt xs y : Nat) : Int)) = ((cnt (xs ++ [x]) y : Nat) : Int)
  rw [cnt_app, cnt_app, cnt_one, cnt_one, if_pos (Int.le_refl x)]
  have ne : x ≠ y := fun e => out (e ▸ hy)
  by_cases c : x ≤ y
  · have := cnt_lt (show x < y by omega) hy
    rw [if_pos (by omega), if_pos c]
    omega
  · have := cnt_le (show y ≤ x by omega) xs
    rw [if_neg (by omega), if_neg c]
    omega
theorem ord_rel (xs : List Int) : xs.Nodup → ordGo [] (relL xs) = norm xs := by
  refine snoc_ind (P := fun xs => xs.Nodup → ordGo [] (relL xs) = norm xs) (fun _ => rfl) (fun xs x ih nd => ?_) xs
  rw [relL_app, ordGo_app, ih (List.nodup_append.mp nd).1, norm_app nd]
section
variable {xs : List Int} {n : Nat}
theorem cnt_upto (p : xs.Perm (upto n)) {x : Int} (h0 : 0 ≤ x) (h1 : x ≤ n) : ((cnt xs x : Nat) : Int) = x := by
  rw [cnt_perm p]
  have := upto_count n h0 h1
  unfold cnt
  rw [this]
  omega
theorem norm_perm (p : xs.Perm (upto n)) : norm xs = xs := by
  unfold norm
  have : (xs.map fun x => ((cnt xs x : Nat) : Int)) = xs.map id := List.map_congr_left fun x hx => by
    have := (mem_upto p).mp hx
    exact cnt_upto p (by omega) (by omega)
  rw [this, List.map_id]
/-- orders of relative ranks, and back -/
theorem ord_back (p : xs.Perm (upto n)) : ordGo [] (relL xs) = xs := by rw [ord_rel xs (perm_nodup p), norm_perm p]
end
/-- relative ranks: place by place -/
def okR (qs : List Int) : Prop := ∀ (i : Nat) q, qs[i]? = some q → 1 ≤ q ∧ q ≤ (i : Int) + 1
theorem okR_app {qs : List Int} {q : Int} (h : okR (qs ++ [q])) : okR qs ∧ 1 ≤ q ∧ q ≤ (qs.length : Int) + 1 := by
  refine ⟨fun i a e => h i a ?_, h qs.length q ?_⟩
  · rw [List.getElem?_append_left (List.getElem?_eq_some_iff.mp e).1]; exact e
  · rw [List.getElem?_append_right (Nat.le_refl _)]; simp
theorem okR_rel {xs : List Int} {n : Nat} (p : xs.Perm (upto n)) : okR (relL xs) := by
  have key : ∀ (rest done : List Int) (i : Nat) q, (relGo done rest)[i]? = some q → 1 ≤ q ∧ q ≤ ((done.length + i : Nat) : Int) + 1 := by
    intro rest
    induction rest with
    | nil => intro done i q h; simp [relGo] at h
    | cons x r ih =>
      intro done i q h
      unfold relGo at h
      cases i with
      | zero =>
        rw [List.getElem?_cons_zero] at h
        have h := Option.some.inj h
        have a : 1 ≤ cnt (done ++ [x]) x := cnt_pos (by simp)
        have b : cnt (done ++ [x]) x ≤ (done ++ [x]).length := List.length_filter_le _ _
        rw [List.length_append, List.length_singleton] at b
        subst h
        show 1 ≤ ((cnt (done ++ [x]) x : Nat) : Int) ∧ ((cnt (done ++ [x]) x : Nat) : Int) ≤ _
        omega
      | succ i =>
        have := ih (done ++ [x]) i q (by simpa using h)
        rw [List.length_append, List.length_singleton] at this
        omega
  intro i q h
  have := key xs [] i q h
  simpa using this
def sh (q : Int) (y : Int) : Int := if y ≥ q then y + 1 else y
theorem sh_lt {q x y : Int} : sh q x ≤ sh q y ↔ x ≤ y := by
  unfold sh
  split <;> split <;> omega
theorem sh_ne {q y : Int} : sh q y ≠ q := by
  unfold sh
  split <;> omega
theorem rel_mono {f : Int → Int} (hf : ∀ x y, f x ≤ f y ↔ x ≤ y) : ∀ (rest done : List Int), relGo (done.map f) (rest.map f) = relGo done rest
  | [], _ => rfl
  | x :: r, done => by
    have ih := rel_mono hf r (done ++ [x])
    rw [List.map_append] at ih
    rw [List.map_cons]
    unfold relGo
    have e : ((done.map f ++ [f x]).filter fun y => decide (y ≤ f x)).length = ((done ++ [x]).filter fun y => decide (y ≤ x)).length := by
      rw [show done.map f ++ [f x] = (done ++ [x]).map f by rw [List.map_append]; rfl, List.filter_map, List.length_map]
      congr 2
      funext y
      exact decide_eq_decide.mpr (hf y x)
    rw [e]
    congr 1
theorem put_perm {A : List Int} {k : Nat} {q : Int} (p : A.Perm (upto k)) (h1 : 1 ≤ q) (h2 : q ≤ (k : Int) + 1) : (putIn A q).Perm (upto (k + 1)) := by
  have e : putIn A q = A.map (sh q) ++ [q] := rfl
  rw [e]
  have ndA := perm_nodup p
  have nd1 : (A.map (sh q)).Nodup := List.Pairwise.map _ (fun a b (h : a ≠ b) => fun z => h (by
    have z1 := sh_lt.mp (Int.le_of_eq z)
    have z2 := sh_lt.mp (Int.le_of_eq z.symm)
    omega)) ndA
  have nd2 : (A.map (sh q) ++ [q]).Nodup := List.nodup_append.mpr ⟨nd1, List.nodup_cons.mpr ⟨by simp, List.nodup_nil⟩, fun a ha b hb z => by
    rw [List.mem_singleton] at hb
    obtain ⟨y, _, rfl⟩ := List.mem_map.mp ha
    subst hb
    exact sh_ne z⟩
  refine (List.perm_ext_iff_of_nodup nd2 (perm_nodup (List.Perm.refl (upto (k + 1))))).mpr fun z => ?_
  rw [mem_upto (List.Perm.refl (upto (k + 1))), List.mem_append, List.mem_singleton, List.mem_map]
  constructor
  · rintro (⟨y, hy, rfl⟩ | rfl)
    · have := (mem_upto p).mp hy
      unfold sh
      split <;> omega
    · omega
  · intro hz
    by_cases c : z = q
    · exact .inr c
    · refine .inl ?_
      by_cases c2 : z < q
      · exact ⟨z, (mem_upto p).mpr (by omega), by unfold sh; rw [if_neg (by omega)]⟩
      · exact ⟨z - 1, (mem_upto p).mpr (by omega), by unfold sh; rw [if_pos (by omega)]; omega⟩
/-- every tuple of relative ranks is that of an order -/
theorem rel_ord (qs : List Int) : okR qs → (ordGo [] qs).Perm (upto qs.length) ∧ relL (ordGo [] qs) = qs := by
  refine snoc_ind (P := fun qs => okR qs → (ordGo [] qs).Perm (upto qs.length) ∧ relL (ordGo [] qs) = qs) (fun _ => ⟨List.Perm.refl _, rfl⟩) (fun qs q ih h => ?_) qs
  obtain ⟨h0, h1, h2⟩ := okR_app h
  obtain ⟨p, r⟩ := ih h0
  rw [ordGo_app]
  have p2 := put_perm p h1 h2
  have l : (qs ++ [q]).length = qs.length + 1 := by rw [List.length_append]; rfl
  rw [l]
  refine ⟨p2, ?_⟩
  have e : putIn (ordGo [] qs) q = (ordGo [] qs).map (sh q) ++ [q] := rfl
  rw [e] at p2 ⊢
  rw [relL_app, cnt_upto p2 (by omega) (by omega)]
  congr 1
  have := rel_mono (f := sh q) (fun x y => sh_lt) (ordGo [] qs) []
  rw [List.map_nil] at this
  exact this.trans r
/-! ### the place in the sorted first ones -/
theorem rel_get : ∀ (rest done : List Int) (p : Nat) (x : Int), rest[p]? = some x → (relGo done rest)[p]? = some ((cnt (done ++ rest.take (p + 1)) x : Nat) : Int)
  | [], _, p, x, h => by simp at h
  | y :: r, done, 0, x, h => by
    rw [List.getElem?_cons_zero] at h
    have h := Option.some.inj h
    subst h
    unfold relGo
    rfl
  | y :: r, done, p + 1, x, h => by
    have := rel_get r (done ++ [y]) p x (by simpa using h)
    unfold relGo
    rw [List.getElem?_cons_succ, this, List.append_assoc]
    rfl
theorem find_sorted {x : Int} : ∀ {l : List Int}, l.Pairwise (· ≤ ·) → l.Nodup → x ∈ l → (l.findIdx? fun y => y == x) = some (cnt l x - 1)
  | [], _, _, h => nomatch h
  | y :: r, hs, nd, h => by
    rw [List.findIdx?_cons, cnt_cons]
    have hs' := List.pairwise_cons.mp hs
    have nd' := List.nodup_cons.mp nd
    by_cases c : y = x
    · subst c
      rw [if_pos (by simp), if_pos (Int.le_refl y)]
      have z : cnt r y = 0 := by
        unfold cnt
        rw [List.length_eq_zero_iff, List.filter_eq_nil_iff]
        intro a ha
        have := hs'.1 a ha
        have : a ≠ y := fun e => nd'.1 (e ▸ ha)
        simp only [decide_eq_true_eq]
        omega
      rw [z]
    · rw [if_neg (by simpa using c)]
      obtain e | h := List.mem_cons.mp h
      · exact absurd e.symm c
      · rw [find_sorted hs'.2 nd'.2 h, if_pos (hs'.1 x h)]
        have := cnt_pos h
        simp only [Option.map_some, Option.some.injEq]
        omega
theorem stand_rel {xs : List Int} (nd : xs.Nodup) {p : Nat} (hp : p < xs.length) : ∃ v, stand xs p = some v ∧ (relL xs)[p]? = some v := by
  obtain ⟨x, hx⟩ : ∃ x, xs[p]? = some x := ⟨xs[p], List.getElem?_eq_getElem hp⟩
  have mem : x ∈ xs.take (p + 1) := List.mem_of_getElem? (i := p) (by rw [List.getElem?_take_of_lt (by omega)]; exact hx)
  have ndt : (xs.take (p + 1)).Nodup := nd.sublist (List.take_sublist _ _)
  have pm := isort_perm (xs.take (p + 1))
  have f := find_sorted (x := x) (isort_sorted (xs.take (p + 1))) (pm.nodup_iff.mpr ndt) (pm.mem_iff.mpr mem)
  rw [cnt_perm pm] at f
  refine ⟨((cnt (xs.take (p + 1)) x : Nat) : Int), ?_, rel_get xs [] p x hx⟩
  unfold stand
  rw [hx]
  show ((isort (xs.take (p + 1))).findIdx? fun y => y == x).map _ = _
  rw [f]
  have := cnt_pos mem
  simp only [Option.map_some, Option.some.injEq]
  omega
/-! ### records by least ones -/
theorem least_le' : ∀ {l : List Int} {z : Int}, z ∈ l → least l ≤ z
  | [], _, h => nomatch h
  | [x], z, h => by rw [List.mem_singleton] at h; subst h; exact Int.le_refl _
  | x :: y :: r, z, h => by
    have ih := fun w (hw : w ∈ y :: r) => least_le' hw
    unfold least
    obtain e | h := List.mem_cons.mp h
    · split <;> omega
    · have := ih z h
      split <;> omega
theorem least_iff {done : List Int} {x : Int} (out : x ∉ done) : x = least (done ++ [x]) ↔ cnt (done ++ [x]) x = 1 := by
  constructor
  · intro e
    rw [cnt_app, cnt_one, if_pos (Int.le_refl x)]
    have : cnt done x = 0 := by
      unfold cnt
      rw [List.length_eq_zero_iff, List.filter_eq_nil_iff]
      intro a ha
      have := least_le' (l := done ++ [x]) (z := a) (by simp [ha])
      have : a ≠ x := fun e => out (e ▸ ha)
      simp only [decide_eq_true_eq]
      omega
    omega
  · intro e
    have m := least_mem (l := done ++ [x]) (by simp)
    have le := least_le' (l := done ++ [x]) (z := x) (by simp)
    have : ¬ least (done ++ [x]) < x := fun lt => by
      have a := cnt_lt lt (xs := done ++ [x]) (by simp)
      have b := cnt_pos m
      omega
    omega
def minF (xs : List Int) : D → Option D
  | .int p => match xs[p.toNat]? with
    | some x => if x = least (xs.take (p.toNat + 1)) then some (.int (p + 1)) else none
    | none => none
  | _ => none
theorem min_list (xs : List Int) (nd : xs.Nodup) : ∀ (rest done : List Int), xs = done ++ rest → (rgD ((done.length : Nat) : Int) rest.length).filterMap (minF xs) = ofI (ones done.length (relGo done rest))
  | [], done, _ => rfl
  | x :: r, done, e => by
    have ih := min_list xs nd r (done ++ [x]) (by rw [e, List.append_assoc]; rfl)
    rw [show (done ++ [x]).length = done.length + 1 by rw [List.length_append]; rfl] at ih
    have at_ : xs[done.length]? = some x := by rw [e]; simp
    have tk : xs.take (done.length + 1) = done ++ [x] := by
      rw [e, show done ++ x :: r = (done ++ [x]) ++ r by rw [List.append_assoc]; rfl, List.take_append_of_le_length (by simp)]
      apply List.take_of_length_le
      simp
    have out : x ∉ done := fun h => by
      rw [e] at nd
      exact (List.nodup_append.mp nd).2.2 x h x List.mem_cons_self rfl
    rw [List.length_cons, rgD, List.filterMap_cons]
    have m : minF xs (.int ((done.length : Nat) : Int)) = if x = least (done ++ [x]) then some (.int (((done.length : Nat) : Int) + 1)) else none := by
      show (match xs[(((done.length : Nat) : Int)).toNat]? with | some x => if x = least (xs.take ((((done.length : Nat) : Int)).toNat + 1)) then some (D.int (((done.length : Nat) : Int) + 1)) else none | none => none) = _
      rw [Int.toNat_natCast, at_, tk]
    rw [m]
    unfold relGo ones
    rw [show ((done.length : Nat) : Int) + 1 = ((done.length + 1 : Nat) : Int) by omega]
    by_cases c : x = least (done ++ [x])
    · have c2 := (least_iff out).mp c
      rw [if_pos c, if_pos (show (((done ++ [x]).filter fun y => decide (y ≤ x)).length : Int) = 1 by show ((cnt (done ++ [x]) x : Nat) : Int) = 1; omega)]
      simp only [ih]
      rfl
    · rw [if_neg c, if_neg (show ¬ (((done ++ [x]).filter fun y => decide (y ≤ x)).length : Int) = 1 from fun z => c ((least_iff out).mpr (by
        have z : ((cnt (done ++ [x]) x : Nat) : Int) = 1 := z
        omega)))]
      exact ih
/-! ### which tuples are orders -/
theorem dd_le : ∀ l : List Int, (dd l).length ≤ l.length
  | [] => Nat.le_refl _
  | x :: r => by
    have := dd_le r
    unfold dd
    split
    · rw [List.length_cons]; omega
    · rw [List.length_cons, List.length_cons]; omega
theorem dd_once : ∀ {l : List Int}, (dd l).length = l.length → l.Nodup
  | [], _ => List.nodup_nil
  | x :: r, h => by
    have le := dd_le r
    unfold dd at h
    split at h
    · rw [List.length_cons] at h; omega
    · rename_i c
      rw [List.length_cons, List.length_cons] at h
      exact List.nodup_cons.mpr ⟨fun m => c (by simpa using m), dd_once (by omega)⟩
theorem full_perm {xs : List Int} {n : Nat} (nd : xs.Nodup) (h : ∀ x ∈ xs, 1 ≤ x ∧ x ≤ n) (len : xs.length = n) : xs.Perm (upto n) := by
  have ndu := perm_nodup (List.Perm.refl (upto n))
  have lu := perm_len (List.Perm.refl (upto n))
  have sub : ∀ z ∈ xs, z ∈ upto n := fun z hz => (mem_upto (List.Perm.refl (upto n))).mpr (h z hz)
  refine (List.perm_ext_iff_of_nodup nd ndu).mpr fun z => ⟨sub z, fun hz => ?_⟩
  by_cases c : z ∈ xs
  · exact c
  · have := sub_len (a := z :: xs) (b := upto n) (List.nodup_cons.mpr ⟨c, nd⟩) fun y hy => by
      obtain e | hy := List.mem_cons.mp hy
      · rw [e]; exact hz
      · exact sub y hy
    rw [List.length_cons] at this
    omega
theorem upto_sorted (n : Nat) : (upto n).Pairwise (· ≤ ·) := by
  unfold upto
  exact List.Pairwise.map _ (fun a b (h : a < b) => by omega) (List.pairwise_lt_range (n := n))
theorem ordC_sorted {xs : List Int} {n : Nat} (n1 : 1 ≤ n) (n2 : n ≤ 10) (len : xs.length = n) (h : ∀ x ∈ xs, 1 ≤ x ∧ x ≤ n) : ordC xs = decide (isort xs = upto n) := by
  have a : xs.all (inR xs.length) = true := by
    rw [List.all_eq_true]
    intro x hx
    have := h x hx
    unfold inR
    rw [decide_eq_true this.1, decide_eq_true (by omega)]
    rfl
  unfold ordC
  rw [a, decide_eq_true (show 1 ≤ xs.length by omega), decide_eq_true (show xs.length ≤ 10 by omega), Bool.true_and, Bool.true_and, Bool.true_and]
  refine decide_eq_decide.mpr ⟨fun e => ?_, fun e => ?_⟩
  · have p := full_perm (dd_once e) h len
    exact (isort_one p.symm (upto_sorted n)).symm
  · have p : xs.Perm (upto n) := (isort_perm xs).symm.trans (e ▸ List.Perm.refl _)
    exact dd_len (perm_nodup p)
end Br

/-! len(set(xs)), xs a list of many tuples of whole numbers: the table is run over the hashes alone. -/
namespace Br
open PySem L2 PySem.Spec PyProof.Rows
/-- the hashes in the table's order, and the table -/
abbrev HT2 := Array Int × SetTable
def roomy (q : HT2) : Bool := q.2.fits q.1.size && (!q.2.gaveWay && (q.2.plain && decide (q.1.size ≤ 1000)))
/-- one more hash, which is none of those; the table laid anew where it is too full -/
def stepH (q : HT2) (h : Int) : Option HT2 := match roomy q, q.2.probe (fun i => (q.1[i]?).getD 0) h (q.2.probeStart h) with
  | true, some (.empty j none) => match roomy (SetTable.insertAt q.1 (q.2.put j).2 h, (q.2.put j).1), (q.2.put j).1.tooFull with
    | true, false => some (SetTable.insertAt q.1 (q.2.put j).2 h, (q.2.put j).1)
    | true, true => match decide (SetTable.sizeAbove (SetTable.grown (q.1.size + 1)) ≤ 100000), (q.2.put j).1.relaid (SetTable.insertAt q.1 (q.2.put j).2 h) (SetTable.grown (q.1.size + 1)) with
      | true, some (t, order) => match decide ((order.filterMap ((SetTable.insertAt q.1 (q.2.put j).2 h)[·]?)).size = (SetTable.insertAt q.1 (q.2.put j).2 h).size) with
        | true => some (order.filterMap ((SetTable.insertAt q.1 (q.2.put j).2 h)[·]?), t)
        | false => none
      | _, _ => none
    | _, _ => none
  | _, _ => none
def runH : HT2 → List Int → Option HT2
  | q, [] => some q
  | q, h :: r => match stepH q h with
    | some q' => runH q' r
    | none => none
/-- at a stands a set of that table -/
structure SetH (h : Heap) (a : Addr) (q : HT2) : Prop where
  ex : ∃ o es ep, h.get? a = some o ∧ o.ExactSet ∧ o.data = .set es ep q.2 ∧ es.map (·.1) = q.1
theorem map_insertAt {α β : Type} (f : α → β) (xs : Array α) (p : Nat) (x : α) : (SetTable.insertAt xs p x).map f = SetTable.insertAt (xs.map f) p (f x) := by
  unfold SetTable.insertAt
  apply Array.toList_inj.mp
  simp
theorem map_pick {α β : Type} (f : α → β) (xs : Array α) (order : Array Nat) : (order.filterMap (xs[·]?)).map f = order.filterMap ((xs.map f)[·]?) := by
  apply Array.toList_inj.mp
  simp [List.map_filterMap]
section
variable {s : Shared} {A : Around} {w : World} {P : Program} {E : Value → Shared → Prop}
theorem look_empty {a : Addr} {o : Obj} {es : Array (Int × Value)} {ep : Nat} {t : SetTable} {x : Value} {h : Int} {j : Nat} {Q : SetFound → Shared → Prop} (ho : s.heap.get? a = some o) (hd : o.data = .set es ep t) (fit : t.fits es.size = true) (odd : t.gaveWay = false)
    (met : t.probe (fun i => (es[i]?.map (·.1)).getD 0) h (t.probeStart h) = some (.empty j none)) (k : Q (.free j false) s) : wpAny (model P w) A (setSearch a x h true) Q E s := by
  unfold setSearch
  rw [show (100000 : Nat) = 99999 + 1 from rfl, setSearchFrom_succ]
  refine wpAny_bind (wpAny_setState_of ho hd fit ?_)
  dsimp only
  refine wp_if_neg (by rw [odd]; decide) ?_; (try refine wpAny_bind (wpAny_pure ?_))
  rw [show (none : Option SetTable.Probe).getD (t.probeStart h) = t.probeStart h from rfl, met]
  exact wpAny_pure k
theorem roomy_of {q : HT2} (r : roomy q = true) : q.2.fits q.1.size = true ∧ q.2.gaveWay = false ∧ q.2.plain = true ∧ q.1.size ≤ 1000 := by
  unfold roomy at r
  simp only [Bool.and_eq_true, Bool.not_eq_true', decide_eq_true_eq] at r
  exact r
/-- how a step goes -/
theorem stepH_cases {q q' : HT2} {h : Int} (st : stepH q h = some q') : roomy q = true ∧ ∃ j, q.2.probe (fun i => (q.1[i]?).getD 0) h (q.2.probeStart h) = some (.empty j none) ∧ roomy (SetTable.insertAt q.1 (q.2.put j).2 h, (q.2.put j).1) = true ∧
    (((q.2.put j).1.tooFull = false ∧ q' = (SetTable.insertAt q.1 (q.2.put j).2 h, (q.2.put j).1)) ∨ ((q.2.put j).1.tooFull = true ∧ SetTable.sizeAbove (SetTable.grown (q.1.size + 1)) ≤ 100000 ∧ ∃ t order, (q.2.put j).1.relaid (SetTable.insertAt q.1 (q.2.put j).2 h) (SetTable.grown (q.1.size + 1)) = some (t, order) ∧
      (order.filterMap ((SetTable.insertAt q.1 (q.2.put j).2 h)[·]?)).size = (SetTable.insertAt q.1 (q.2.put j).2 h).size ∧ q' = (order.filterMap ((SetTable.insertAt q.1 (q.2.put j).2 h)[·]?), t))) := by
  unfold stepH at st
  split at st
  · rename_i j r1 m1
    refine ⟨r1, j, m1, ?_⟩
    split at st
    · rename_i r2 f2
      exact ⟨r2, .inl ⟨f2, (Option.some.inj st).symm⟩⟩
    · rename_i r2 f2
      refine ⟨r2, .inr ⟨f2, ?_⟩⟩
      split at st
      · rename_i t order z1 z2
        split at st
        · rename_i z3
          exact ⟨of_decide_eq_true z1, t, order, z2, of_decide_eq_true z3, (Option.some.inj st).symm⟩
        · cases st
      · cases st
    · cases st
  · cases st
theorem add_hash {a : Addr} {q q' : HT2} {h : Int} {x : Addr} {k : List Int} {Q : Bool → Shared → Prop} (R : SetH s.heap a q) (st : stepH q h = some q') (hx : IsT P w s.heap k x)
    (hQ : ∀ h', Heap.SameBut a s.heap h' → SetH h' a q' → Q true { s with heap := h' }) : wpAny (model P w) A (setAddHashed a (.ref x) h) Q E s := by
  obtain ⟨o, es, ep, ho, hex, hd, hes⟩ := R.ex
  obtain ⟨rm, j, met, rm2, fin⟩ := stepH_cases st
  obtain ⟨q1, t⟩ := q
  dsimp only at *
  subst hes
  obtain ⟨fit, odd, pl, few⟩ := roomy_of rm
  obtain ⟨fit2, odd2, pl2, few2⟩ := roomy_of rm2
  dsimp only at fit odd pl few fit2 odd2 pl2 few2
  rw [Array.size_map] at fit few
  have met : t.probe (fun i => (es[i]?.map (·.1)).getD 0) h (t.probeStart h) = some (.empty j none) := by
    rw [← met]
    congr 1
    funext i
    rw [Array.getElem?_map]
  generalize hpt : t.put j = pt at *
  obtain ⟨t1, p⟩ := pt
  dsimp only at *
  have hin : (SetTable.insertAt es p (h, Value.ref x)).map (·.1) = SetTable.insertAt (es.map (·.1)) p h := map_insertAt _ _ _ _
  have siz : (SetTable.insertAt (es.map (·.1)) p h).size = (SetTable.insertAt es p (h, Value.ref x)).size := by rw [← hin, Array.size_map]
  rw [siz] at fit2 few2
  unfold setAddHashed
  refine wpAny_holding ?_
  rw [show (100000 : Nat) = Nat.succ 99999 from rfl, setAddHashedIn_succ]
  refine wpAny_bind (wpAny_setState_of ho hd fit ?_)
  dsimp only
  refine wp_if_neg (by simp [Value.scannable, byScan]) ?_; (try refine wpAny_bind (wpAny_pure ?_))
  refine wpAny_bind (look_empty ho hd fit odd met ?_)
  dsimp only
  refine wpAny_bind (wpAny_setState_of ho hd fit ?_)
  dsimp only
  rw [hpt]
  dsimp only
  first
    | (refine wpAny_bind ?_; refine wp_if_pos pl2 ?_; refine hashBy_tup hx ?_)
    | refine wp_if_pos pl2 (wpAny_bind (hashBy_tup hx ?_))
  simp only [if_true]
  refine wpAny_bind (wpAny_storeSet_of ho hd ?_ (by rw [sizeLine_eq]; omega))
  have sb : Heap.SameBut a s.heap (s.heap.update a (Obj.putSet (SetTable.insertAt es p (h, Value.ref x)) t1)) := Heap.SameBut.update ..
  have ho1 := store_at (es' := SetTable.insertAt es p (h, Value.ref x)) (t' := t1) ho hd
  generalize s.heap.update a (Obj.putSet (SetTable.insertAt es p (h, Value.ref x)) t1) = h1 at sb ho1 ⊢
  generalize SetTable.insertAt es p (h, Value.ref x) = es1 at *
  rcases fin with ⟨full, rfl⟩ | ⟨full, big, t2, order, lay, keep, rfl⟩
  · first
      | refine wp_if_neg (by simp [full]) ?_
      | (refine wpAny_bind ?_; refine wp_if_neg (by simp [full]) ?_; refine wpAny_pure ?_)
    exact wpAny_pure (hQ h1 sb ⟨_, es1, ep + 1, ho1, ⟨hex.1, hex.2.1, hex.2.2⟩, rfl, hin⟩)
  · first
      | (refine wpAny_bind ?_; refine wp_if_pos (by simp [full]) ?_)
      | (refine wp_if_pos (by simp [full]) ?_; refine wpAny_bind ?_)
    rw [Array.size_map] at big lay
    rw [← hin] at lay keep
    rw [setRelay_eq]
    refine wpAny_bind (wpAny_setState_of (s := { s with heap := h1 }) ho1 rfl fit2 ?_)
    dsimp only
    refine wp_if_neg (by have := sizeLine_eq; omega) ?_; (try refine wpAny_bind (wpAny_pure ?_))
    rw [lay]
    dsimp only
    have pick : (order.filterMap (es1[·]?)).map (·.1) = order.filterMap ((es1.map (·.1))[·]?) := map_pick _ _ _
    have ks : (order.filterMap (es1[·]?)).size = es1.size := by
      have z : ((order.filterMap (es1[·]?)).map (·.1)).size = (es1.map (·.1)).size := by rw [pick]; exact keep
      rw [Array.size_map, Array.size_map] at z
      exact z
    refine wpAny_bind ?_
    refine wp_if_neg (by rw [ks]; simp) ?_; (try refine wpAny_bind (wpAny_pure ?_))
    refine wpAny_pure ?_
    dsimp only
    refine wpAny_storeSet_of (s := { s with heap := h1 }) ho1 rfl ?_ (by rw [ks, sizeLine_eq]; omega)
    have sb2 : Heap.SameBut a h1 (h1.update a (Obj.putSet (order.filterMap (es1[·]?)) t2)) := Heap.SameBut.update ..
    refine wpAny_pure (hQ _ (sb.trans sb2) ⟨_, order.filterMap (es1[·]?), ep + 1 + 1, store_at (es' := order.filterMap (es1[·]?)) (t' := t2) ho1 rfl, ⟨hex.1, hex.2.1, hex.2.2⟩, rfl, ?_⟩)
    rw [pick, hin]
theorem SetH.kept {h h' : Heap} {a : Addr} {q : HT2} (R : SetH h a q) (k : ∀ o, h.get? a = some o → h'.get? a = some o) : SetH h' a q := by
  obtain ⟨o, es, ep, ho, r⟩ := R.ex
  exact ⟨o, es, ep, k o ho, r⟩
/-- the set takes the tuples in, one by one -/
theorem take_in {I S : Addr} {fp wr : List Addr} {G : Array GenState → Array GenState → Prop} {n : Nat} {Pv : Nat → Value → Prop} {St : Nat → Shared → Prop} {R : Result → Shared → Prop} {ks : List (Addr × List Int)} {h0 : Heap} {qe : HT2} (W : WalksS P w A.in1 I fp wr G n Pv St) (outS : S ∉ fp) (len : n = ks.length) (room : A.in1.units < cLine)
    (val : ∀ i v, Pv i v → ∃ p, ks[i]? = some p ∧ v = .ref p.1) (tups : ∀ p ∈ ks, IsT P w h0 p.2 p.1) (newS : h0.get? S = none) (newW : ∀ b ∈ wr, h0.get? b = none) : ∀ (left i : Nat) (s : Shared) (q : HT2), i + left = n → St i s → (∀ b o, h0.get? b = some o → s.heap.get? b = some o) → SetH s.heap S q →
      runH q ((ks.drop i).map fun p => thash P w p.2) = some qe → (∀ s', Moved (S :: wr) G s s' → SetH s'.heap S qe → (∀ b o, h0.get? b = some o → s'.heap.get? b = some o) → R (.ok (.ret .none)) s') →
      codeAny (model P w) A (.builtin "set.update.loop" { pos := [.ref S, .ref I], kw := [] }) R s := by
  have outW : S ∉ wr := fun z => outS (W.sub _ z)
  have wider : ∀ b ∈ wr, b ∈ S :: wr := fun b z => List.mem_cons_of_mem _ z
  have old : ∀ {s s' : Shared}, Moved wr G s s' → (∀ b o, h0.get? b = some o → s.heap.get? b = some o) → ∀ b o, h0.get? b = some o → s'.heap.get? b = some o := fun m k b o z =>
    m.heap b o (fun inw => by rw [newW b inw] at z; cases z) (k b o z)
  intro left
  induction left with
  | zero =>
    intro i s q e st keep R0 run last
    have atEnd : i = n := by omega
    subst atEnd
    rw [List.drop_of_length_le (by omega)] at run
    have same : q = qe := Option.some.inj run
    subst same
    refine codeAny_builtin F.entry_set_update_loop ?_; rw [Around.under_plainId F.plain_set_update_loop _]
    show wpAny _ A.in1 (pyNext (.ref I) >>= _) _ _ s; refine wpAny_bind (W.done s _ _ st fun s' m => ?_)
    show wpAny _ A.in1 (ret Value.none) _ _ s'; exact wpAny_pure (last s' (m.mono wider) (R0.kept fun o z => m.heap S o outW z) (old m keep))
  | succ left ih =>
    intro i s q e st keep R0 run last
    have less : i < n := by omega
    have inK : i < ks.length := by omega
    rw [List.drop_eq_getElem_cons inK, List.map_cons] at run
    unfold runH at run
    split at run
    · rename_i q' step
      refine codeAny_builtin F.entry_set_update_loop ?_; rw [Around.under_plainId F.plain_set_update_loop _]
      show wpAny _ A.in1 (pyNext (.ref I) >>= _) _ _ s; refine wpAny_bind (W.item i s _ _ less st fun v s' pv st' m => ?_)
      obtain ⟨p, at_, rfl⟩ := val i v pv
      have isP : ks[i]'inK = p := by rw [List.getElem?_eq_getElem inK] at at_; exact Option.some.inj at_
      rw [isP] at step
      have keep' := old m keep
      have tup : IsT P w s'.heap p.2 p.1 := isT_keep (tups p (List.mem_of_getElem? at_)) keep'
      show wpAny _ A.in1 (holding [Value.ref p.1] (setAdd S (.ref p.1)) >>= _) _ _ s'; refine wpAny_bind (wpAny_holding ?_)
      unfold setAdd
      refine wpAny_holding (wpAny_bind (wpAny_pyHash_tuple room tup ?_))
      refine add_hash (s := { s' with toks := s'.toks + (p.2.length + 1) }) (R0.kept fun o z => m.heap S o outW z) step tup fun h' but R1 => ?_
      have keep2 : ∀ b o, h0.get? b = some o → h'.get? b = some o := fun b o z => (but.2 b (fun y => by rw [y, newS] at z; cases z)).trans (keep' b o z)
      have frame : ∀ b ∈ fp, ∀ o, s'.heap.get? b = some o → h'.get? b = some o := fun b inF o z => by rw [but.2 b (fun y => outS (y ▸ inF))]; exact z
      refine wpAny_pure ⟨plainId_quiet F.plain_set_update_loop _, ih (i + 1) _ q' (by omega) (W.frame _ s' _ _ st' (Nat.le_add_right _ _) frame) keep2 R1 run fun s2 m2 R2 keep3 => ?_⟩
      exact last s2 (Moved.trans W.gtrans ((m.mono wider).then_heap (Nat.le_add_right _ _) fun b o notIn z => by rw [but.2 b (fun y => notIn (by rw [y]; exact List.mem_cons_self))]; exact z) m2) R2 keep3
    · cases run
abbrev noneYet (w : World) : Obj := { cls := .type "set", dict := none, data := .set #[] 0 (.fresh 0 0 (!w.params.followText "set-order")) }
/-- set(xs), by the run over the hashes -/
theorem set_many {l : Addr} {items : Array Value} {ks : List (Addr × List Int)} {Q : Value → Shared → Prop} {qe : HT2} (calm : A.handled = none) (lst : s.heap.IsList l items) (refs : items.toList = ks.map fun p => Value.ref p.1) (tups : ∀ p ∈ ks, IsT P w s.heap p.2 p.1) (room : A.units + 3 < cLine)
    (run : runH (#[], .fresh 0 0 (!w.params.followText "set-order")) (ks.map fun p => thash P w p.2) = some qe) (goal : ∀ (h' : Heap) (tk : Nat), SetH h' s.heap.objs.size qe → (∀ b o, s.heap.get? b = some o → h'.get? b = some o) → Q (.ref s.heap.objs.size) { s with heap := h', toks := tk }) : wpAny (model P w) A (call (.type "set") [.ref l]) Q E s := by
  have count : items.size = ks.length := by
    have z := congrArg List.length refs
    rwa [Array.length_toList, List.length_map] at z
  obtain ⟨c, tl, mro⟩ := F.called_set.mro
  have made := F.called_set.made; have sub := F.called_set.sub
  refine wpAny_call (codeAny_of_tree ?_); show wpAny _ _ (callAny (.type "set") _) _ _ _
  refine wpAny_pure ⟨Code.quiet_builtin _ (by decide +kernel), codeAny_builtin F.entry_type_call ?_⟩; rw [Around.under_plain (weight_type_call_type "set" [.ref l] []) rfl]
  have notT := F.called_set.notType; have can := F.called_set.canCreate; have chk := F.typeCall_set_1 (.ref l)
  repeat any_goals first | assumption | wp_step
  refine codeAny_mono (code_set_led1 (.ref l) (E := E) (Q₁ := fun ob s1 => ob = .ref s.heap.objs.size ∧ s1 = { s with heap := s.heap.push (noneYet w) }) ⟨rfl, rfl⟩) fun r s1 hr => ?_
  cases r with
  | error e => exact hr
  | ok fl =>
    cases fl with
    | ret ob =>
      obtain ⟨rfl, rfl⟩ := hr
      have at0 : (s.heap.push (noneYet w)).get? s.heap.objs.size = some (noneYet w) := Heap.get?_push_size _ rfl
      have ty : Shared.TypeIs { s with heap := s.heap.push (noneYet w) } (.ref s.heap.objs.size) "set" := ⟨_, at0, rfl⟩
      have look := F.called_set.init.lookup; have bnd := F.called_set.init.bind (.ref s.heap.objs.size)
      repeat any_goals first | assumption | wp_step
      refine codeAny_mono (codeAny_call_builtin (R := wants (fun r s2 => r = .none ∧ ∃ h' tk, s2 = { s with heap := h', toks := tk } ∧ SetH h' s.heap.objs.size qe ∧ ∀ b o, s.heap.get? b = some o → h'.get? b = some o) E) F.called_set.init.plain F.entry_set_init (check_set_init_1 ty ?_)) fun r2 s2 hr2 => ?_
      · obtain ⟨⟨kc, kd, dat, sl⟩, atL, isL, nl, isD⟩ := lst
        simp only at isL isD
        subst isL isD
        have atL1 : (s.heap.push (noneYet w)).get? l = some { cls := .type "list", dict := kd, data := .seq items nl, slots := sl } := Heap.get?_push_of_some _ atL
        have sub1 := F.sub_list_set; have sub2 := F.sub_list_frozenset
        have other : (Value.type "list" == Value.type "dict") = false := by decide
        have lst1 : (s.heap.push (noneYet w)).IsList l items := ⟨_, atL1, rfl, nl, rfl⟩
        unfold Builtin.«set.__init__» noKeywords; unfold Builtin.Frozenset.updateFrom
        generalize goes : pyIter = it
        wp_walk
        subst goes
        refine wpAny_pyIter_list lst1 (wpAny_bind (wpAny_runValue ?_))
        have below : l < s.heap.objs.size := Heap.lt_size atL
        have calm3 : A.in1.in1.in1.handled = none := by simp [calm]
        have apart : l ≠ (s.heap.push (noneYet w)).objs.size := by rw [Heap.size_push]; exact Nat.ne_of_lt (Nat.lt_succ_of_lt below)
        have away : s.heap.objs.size ∉ [(s.heap.push (noneYet w)).objs.size, l] := by
          rw [Heap.size_push]
          intro z
          rcases List.mem_cons.mp z with y | y
          · exact absurd y (Nat.ne_of_lt (Nat.lt_succ_self _))
          · exact absurd (List.mem_singleton.mp y) (Nat.ne_of_gt below)
        have which : ∀ (i : Nat) (v : Value), items[i]? = some v → ∃ p, ks[i]? = some p ∧ v = .ref p.1 := fun i v z => by
          rw [← Array.getElem?_toList, refs, List.getElem?_map, Option.map_eq_some_iff] at z
          obtain ⟨p, z1, z2⟩ := z
          exact ⟨p, z1, z2.symm⟩
        have fresh : ∀ b, s.heap.objs.size ≤ b → s.heap.get? b = none := fun b z => by
          cases y : s.heap.get? b with
          | none => rfl
          | some o => exact absurd (Heap.lt_size y) (Nat.not_lt.mpr z)
        have start : SetH ((s.heap.push (noneYet w)).push { cls := .type "list_iterator", data := .fields #[.ref l, .int 0 0] }) s.heap.objs.size (#[], .fresh 0 0 (!w.params.followText "set-order")) := ⟨_, #[], 0, Heap.get?_push_of_some _ at0, ⟨rfl, rfl, rfl⟩, rfl, by simp⟩
        refine take_in (R := _) (h0 := s.heap) (qe := qe) ((Walks.list calm3 _ l apart items).toS) away count (by have : A.in1.in1.in1.in1.units = A.units + 4 := rfl; omega) which tups (fresh _ (Nat.le_refl _)) (fun b z => fresh b (by rw [List.mem_singleton.mp z, Heap.size_push]; omega)) items.size 0 _ _ (by omega) ⟨⟨_, Heap.get?_push_size _ rfl, rfl, rfl⟩, lst1.push _⟩ (fun b o z => Heap.get?_push_of_some _ (Heap.get?_push_of_some _ z)) start run ?_
        intro s' moved R1 keep
        obtain ⟨h', gn, dr, tk, os⟩ := s'
        have eg : gn = s.gens := moved.gens; have ed : dr = s.drawn := moved.drawn; have eo : os = s.os := moved.os
        subst eg ed eo
        show wpAny _ _ _ _ _ _; refine wpAny_pure ?_
        show wpAny _ _ (ret Value.none) _ _ _; exact wpAny_pure ⟨rfl, h', tk, rfl, R1, keep⟩
      · cases r2 with
        | error e => exact hr2
        | ok fl2 =>
          cases fl2 with
          | ret r =>
            obtain ⟨rfl, h', tk, rfl, R1, keep⟩ := hr2
            repeat any_goals first | assumption | wp_step
            exact goal _ _ R1 keep
          | _ => exact hr2.elim
    | _ => exact hr.elim
end
end Br

/-! Many tuples of whole numbers: len(set(xs)), sorted(xs). -/
namespace Br
open PySem L2 PySem.Spec PyProof.Rows
def rowsD : List D → Option (List (List Int))
  | [] => some []
  | .tup ds :: r => match intsD ds, rowsD r with
    | some ns, some rs => some (ns :: rs)
    | _, _ => none
  | _ :: _ => none
theorem rows_rep {Γ : Gm} {H : Hp} {nb : Addr → Prop} {ad : Ad} : ∀ {xs : List V} {ds : List D} {ks : List (List Int)}, Reps Γ H nb ad xs ds → rowsD ds = some ks → ∃ rows : List (Addr × List Int), xs = rows.map (fun p => V.ref p.1) ∧ rows.map (·.2) = ks ∧ ∀ p ∈ rows, H p.1 = some (.tup (p.2.map V.int))
  | _, _, _, .nil, e => ⟨[], rfl, Option.some.inj e, fun p h => nomatch h⟩
  | _, _, _, .cons (d := d) (ds := ds) q r, e => by
    cases d <;> simp only [rowsD] at e <;> try (cases e; done)
    rename_i es
    cases hi : intsD es with
    | none => rw [hi] at e; cases e
    | some ns =>
      cases hr : rowsD ds with
      | none => rw [hi, hr] at e; cases e
      | some rs =>
        rw [hi, hr] at e
        obtain ⟨rows, e1, e2, e3⟩ := rows_rep r hr
        cases q with
        | tup at0 items =>
          rename_i a zs
          rw [intsD_eq hi] at items
          rw [items.ints_inv] at at0
          refine ⟨(a, ns) :: rows, by rw [List.map_cons, e1], by rw [List.map_cons, e2]; exact Option.some.inj e, fun p hp => ?_⟩
          rcases List.mem_cons.mp hp with z | z
          · rw [z]; exact at0
          · exact e3 p z
theorem rep_rows {Γ : Gm} {H : Hp} {nb : Addr → Prop} {ad : Ad} : ∀ {rows : List (Addr × List Int)}, (∀ p ∈ rows, H p.1 = some (.tup (p.2.map V.int))) → Reps Γ H nb ad (rows.map fun p => V.ref p.1) ((rows.map (·.2)).map fun k => D.tup (k.map D.int))
  | [], _ => .nil
  | p :: r, h => .cons (.tup (h p List.mem_cons_self) (Reps.ints _)) (rep_rows fun q hq => h q (List.mem_cons_of_mem _ hq))
/-- a tuple's hash -/
def th (k : List Int) : Int := reduceHash (Builtin.Tuple.tupleHashOf (k.map hashInt))
theorem th_eq (Pg : Program) (w : World) (k : List Int) : thash Pg w k = th k := rfl
def endsIn (n : Nat) : Option HT2 → Bool
  | some q => q.2.fits q.1.size && decide (q.1.size = n)
  | none => false
/-- all hashes differ, and the table takes them in -/
def apart (ks : List (List Int)) : Bool := endsIn ks.length (runH (#[], .fresh 0 0 true) (ks.map th)) && (endsIn ks.length (runH (#[], .fresh 0 0 false) (ks.map th)) && decide (ks.length ≤ 1000))
theorem apart_run {ks : List (List Int)} (h : apart ks = true) (b : Bool) : ∃ q, runH (#[], .fresh 0 0 b) (ks.map th) = some q ∧ q.2.fits q.1.size = true ∧ q.1.size = ks.length := by
  unfold apart at h
  rw [Bool.and_eq_true, Bool.and_eq_true] at h
  have one : ∀ {o : Option HT2} {n : Nat}, endsIn n o = true → ∃ q, o = some q ∧ q.2.fits q.1.size = true ∧ q.1.size = n := fun {o n} z => by
    cases o with
    | none => cases z
    | some q =>
      simp only [endsIn, Bool.and_eq_true, decide_eq_true_eq] at z
      exact ⟨q, rfl, z⟩
  cases b with
  | true => exact one h.1
  | false => exact one h.2.1
def sLsT : D → LS → Out Lv
  | .lst ds, s => onO (rowsD ds) fun ks => gd (apart ks) (okD (.int (ks.length : Nat)) s)
  | _, _ => .bad
section
variable {X : Cx} {P : Gh} {W : WX} {a : Expr} {fa : LS → Out Lv} {pos : Pos}
theorem de_lenSetT {p p2 q : Pos} (hc : X.calm = true) (hu : X.A.units + 65 < cLine) (hg : Gl X "len") (hm : X.mg "len" = none) (hg2 : Gl X "set") (hm2 : X.mg "set" = none) (ha : PE X a (RE P W fa)) (na : starEach [a] X.env = (false, eval a X.env) :: starEach [] X.env := by rfl) :
    PE X (.Call (.Name "len" p) [.Call (.Name "set" p2) [a] [] q] [] pos) (RE P W (eUn sLsT fa)) := by
  have key : PE X (.Call (.Name "len" p) [.Call (.Name "set" p2) [a] [] q] [] pos) (tUn (fun x H1 Q => ∃ (l : Addr) (rows : List (Addr × List Int)), x = .ref l ∧ SqL X.K H1 l (rows.map fun p => V.ref p.1) ∧ (∀ p ∈ rows, SqT X.K H1 p.1 (p.2.map V.int)) ∧ apart (rows.map (·.2)) = true ∧ Q (.int (rows.length : Nat)) H1) (RE P W fa)) := by
    have inner : ∀ pins s σ H Q, Inv X pins σ H s → RE P W fa σ H (fun x H1 => ∃ (l : Addr) (rows : List (Addr × List Int)), x = .ref l ∧ SqL X.K H1 l (rows.map fun p => V.ref p.1) ∧ (∀ p ∈ rows, SqT X.K H1 p.1 (p.2.map V.int)) ∧ apart (rows.map (·.2)) = true ∧ Q (.int (rows.length : Nat)) H1) →
        wpAny (model X.prog X.w) X.A (eval (.Call (.Name "set" p2) [a] [] q) X.env) (fun sv s2 => wpAny (model X.prog X.w) X.A (call (.builtin "len") [sv]) (EP X pins σ Q) X.xe s2) X.xe s := fun pins s σ H Q I h =>
      PyProof.Rows.Call_ (ld_blt I hg2 hm2 PyProof.Rows.boot_set (PyProof.Rows.callWith_type1 (PyProof.Rows.args_cons (thn (ha.run pins s σ H _ I h) fun v s1 ⟨x, H1, I1, r1, l, rows, isRef, lst, tups, free, k⟩ => PyProof.Rows.args_nil (by
        subst isRef
        cases r1
        obtain ⟨us, vals, isL, _⟩ := I1.list lst
        obtain ⟨qe, run, fit, size⟩ := apart_run free (!X.w.params.followText "set-order")
        rw [List.map_map] at run
        refine set_many (ks := rows) (I1.ok.hd hc) isL.isList (by simpa using refs_of_vals vals) (fun p hp => I1.isT (tups p hp)) (by omega) run fun heap tk R old => ?_
        obtain ⟨o, es, ep, at0, exact_, dat, hes⟩ := R.ex
        have I2 : Inv X pins σ H1 { s1 with heap := heap, toks := tk } := I1.kept old
        have es1 : es.size = rows.length := by rw [← hes, Array.size_map, List.length_map] at size; exact size
        have fits : qe.2.fits es.size = true := by rw [← hes, Array.size_map] at fit; exact fit
        have few : rows.length ≤ 1000 := by
          unfold apart at free
          rw [Bool.and_eq_true, Bool.and_eq_true, List.length_map] at free
          exact of_decide_eq_true free.2.2
        exact PySem.call_len_set at0 exact_ dat fits (by rw [es1]; omega) ⟨.int (rows.length : Nat), H1, I2.tok _, ⟨_, by rw [es1]⟩, k⟩)) na) na rfl))
    exact ⟨fun pins s σ H Q I h => PyProof.Rows.Call_ (ld_blt I hg hm PySem.boot_len (PyProof.Rows.callWith_builtin1 (PyProof.Rows.args_cons (thn (inner pins s σ H Q I h) fun _ _ k => PyProof.Rows.args_nil k) rfl) rfl rfl))⟩
  refine PE.mono key (re_un ?_)
  intro w σ H s v d Q S hd h
  cases d <;> first | exact h.elim | skip
  obtain ⟨b, xs, rfl, e1, r⟩ := hd
  obtain ⟨ks, hk, h⟩ := At.onO h
  obtain ⟨c, h⟩ := At.gd h
  obtain ⟨rows, rfl, rfl, e3⟩ := rows_rep r hk
  rw [List.length_map] at h
  exact ⟨b, rows, rfl, SqL.of e1, fun p hp => SqT.of (e3 p hp), c, give h S (.int _)⟩
/-! ### sorted -/
abbrev leI : List Int → List Int → Bool := fun x y => decide (x ≤ y)
def sSortM : D → LS → Out Lv
  | .lst ds, s => onO (rowsD ds) fun ks => gd (decide (ks.length ≤ 1000) && ks.all (fun k => !k.isEmpty)) (okD (.lst ((ks.mergeSort leI).map fun k => .tup (k.map D.int))) s)
  | _, _ => .bad
def rSortM (K : PySem.W.Frag) : List V → Hp → VK → Prop := fun vs H Q => ∃ (l : Addr) (rows : List (Addr × List Int)), vs = [.ref l] ∧ SqL K H l (rows.map fun p => V.ref p.1) ∧ (∀ p ∈ rows, SqT K H p.1 (p.2.map V.int) ∧ p.2 ≠ []) ∧ rows.length ≤ 1000 ∧
  ∀ (out : List (Addr × List Int)) p, (∀ q ∈ out, q ∈ rows) → out.map (·.2) = (rows.map (·.2)).mergeSort leI → H p = none → Q (.ref p) (upd H p (.lst (out.map fun q => V.ref q.1)))
def encT (p : Addr × List Int) : PyData := .tuple (p.2.map .int)
theorem le_encT : PySem.W.dataLe false encT = fun p q => leI p.2 q.2 := by
  funext p q
  show (!PySem.W.dataLt (.tuple (q.2.map .int)) (.tuple (p.2.map .int))) = _
  rw [PySem.W.dataLt_tuple]
  show (!PySem.W.rowLt (q.2.map .int) (p.2.map .int)) = _
  rw [PySem.W.dataLt_ints]
  by_cases less : q.2 < p.2
  · rw [decide_eq_true less, show leI p.2 q.2 = false from decide_eq_false fun z => List.not_lt.mpr z less]
    rfl
  · rw [decide_eq_false less, show leI p.2 q.2 = true from decide_eq_true (List.not_lt.mp less)]
    rfl
theorem reads_ints {h : Heap} : ∀ {us : List Value} {ns : List Int}, IntsAre us ns → ReadsAll h us (ns.map .int) []
  | _, _, .nil => .nil
  | _, _, .cons n t r => .cons (.int n t) (reads_ints r)
theorem each_refs {R : Value → Addr × List Int → Prop} : ∀ {rows : List (Addr × List Int)}, (∀ p ∈ rows, R (.ref p.1) p) → PySem.W.EachIs R (rows.map fun p => Value.ref p.1) rows
  | [], _ => .nil
  | p :: r, h => .cons (h p List.mem_cons_self) (each_refs fun q hq => h q (List.mem_cons_of_mem _ hq))
theorem refs_each : ∀ {us : List Value} {rows : List (Addr × List Int)}, PySem.W.EachIs (fun v p => v = Value.ref p.1) us rows → us = rows.map fun p => Value.ref p.1
  | _, _, .nil => rfl
  | _, _, .cons h r => by rw [List.map_cons, refs_each r, h]
theorem cr_sortM (hu : X.A.units + 65 < cLine) : CallR X (.builtin "sorted") (rSortM X.K) := fun pins s σ H _ us Q I rel ⟨l, rows, one, lst, tups, few, k⟩ => by
  subst one
  rw [Vals.ref1 rel]
  obtain ⟨its, vals, isL, _⟩ := I.list lst
  have refs := refs_of_vals vals
  subst refs
  have read : ∀ p ∈ rows, ∃ as, Reads s.heap (.ref p.1) (encT p) as := fun p hp => by
    obtain ⟨ws, wv, ⟨o, at0, cls, c, dat⟩, _⟩ := I.tuple (tups p hp).1
    exact ⟨[], .tuple at0 cls dat (reads_ints (by rw [List.toList_toArray]; exact wv.ints))⟩
  have alikes : PySem.W.AllAlike (rows.map encT) := PySem.W.AllAlike.of fun p q => by
    show PySem.W.alike (.tuple _) (.tuple _) = true
    simpa [PySem.W.alike] using PySem.W.alike_ints p.2 q.2
  have srt : PySem.W.Sortable (rows.map encT) := .inl fun d hd => by
    obtain ⟨p, hp, rfl⟩ := List.mem_map.mp hd
    have ne := (tups p hp).2
    unfold encT
    cases e : p.2 with
    | nil => exact absurd e ne
    | cons x r => exact ⟨.int x, r.map .int, rfl⟩
  refine PySem.W.sorted_data (R := fun v p => v = Value.ref p.1) (enc := encT) (bs := rows) isL.isList (each_refs fun p _ => rfl) (each_refs read) alikes srt (by rw [sizeLine_eq]; omega) (fun b _ => ?_) fun out len each => ?_
  · have d0 : (encT b).depth = PyData.depthAll (b.2.map .int) + 1 := by unfold encT; rw [PyData.depth]
    rw [d0, deep_ints]
    omega
  · have outs := refs_each each
    subst outs
    obtain ⟨e, there⟩ := sortedAll_at s.heap (rows.map fun p => Value.ref p.1) (List.toArray ((rows.mergeSort (PySem.W.dataLe false encT)).map fun p => Value.ref p.1))
    have lenO : ((rows.mergeSort (PySem.W.dataLe false encT)).map fun p => V.ref p.1).length ≤ sizeLine := by
      rw [List.length_map, List.length_mergeSort, sizeLine_eq]
      omega
    have sec : (rows.mergeSort (PySem.W.dataLe false encT)).map (·.2) = (rows.map (·.2)).mergeSort leI := by
      rw [le_encT]
      exact List.map_mergeSort fun _ _ _ _ => rfl
    exact ⟨.ref (s.heap.objs.size + 1), _, I.laid (t' := s.toks) (o := .lst ((rows.mergeSort (PySem.W.dataLe false encT)).map fun p => V.ref p.1)) (fun b o z => sortedAll_old z) (Nat.le_succ _) ⟨lenO, _, e, vals_of_refs _, there⟩, rfl, k _ _ (fun q hq => List.mem_mergeSort.mp hq) sec (I.hok.fresh (Nat.le_succ _))⟩
theorem cs_sortM {K : PySem.W.Frag} : CallS P W (rSortM K) (arg1 sSortM) := cs_arg1 (by
  intro w σ H s v d Q S hd h
  cases d <;> first | exact h.elim | skip
  obtain ⟨a, xs, rfl, ha, ra⟩ := hd
  obtain ⟨ks, hk, h⟩ := At.onO h
  obtain ⟨c, h⟩ := At.gd h
  rw [Bool.and_eq_true, List.all_eq_true] at c
  obtain ⟨rows, rfl, rfl, e3⟩ := rows_rep ra hk
  have few := of_decide_eq_true c.1
  rw [List.length_map] at few
  refine ⟨a, rows, rfl, SqL.of ha, fun p hp => ⟨SqT.of (e3 p hp), fun z => ?_⟩, few, fun out p inside order hp => ?_⟩
  · have := c.2 p.2 (List.mem_map.mpr ⟨p, hp, rfl⟩)
    rw [z] at this
    cases this
  · have r := rep_rows (Γ := P.Γ) (nb := nbW P w s.own) (ad := w.ad) fun q hq => e3 q (inside q hq)
    rw [order] at r
    exact give_lst h S r p hp)
end
theorem mn_sLsT : MnU sLsT := fun d ns t s h => by cases d <;> first | trivial | exact Le.onO fun b => Le.gd ⟨h, rfl⟩
theorem mn_sSortM : MnU sSortM := fun d ns t s h => by cases d <;> first | trivial | exact Le.onO fun b => Le.gd ⟨h, rfl⟩
end Br

/-! Hashes that differ: the table takes up to 150 of them in. -/
namespace Br
open PySem L2 PySem.Spec PyProof.Rows
/-! ### the round of a table of 512 -/
def upTo5 : Nat → Nat
  | 0 => 0
  | k + 1 => upTo5 k * 5 + 1
theorem upTo5_eq : ∀ k, 4 * upTo5 k + 1 = 5 ^ k
  | 0 => rfl
  | k + 1 => by
    have := upTo5_eq k
    rw [Nat.pow_succ, ← this]
    show 4 * (upTo5 k * 5 + 1) + 1 = (4 * upTo5 k + 1) * 5
    omega
theorem lcg_upTo (m : Nat) : ∀ k, lcgN m k = upTo5 k % (m + 1)
  | 0 => by show 0 = 0 % (m + 1); rw [Nat.zero_mod]
  | k + 1 => by
    show (lcgN m k * 5 + 1) % (m + 1) = (upTo5 k * 5 + 1) % (m + 1)
    rw [lcg_upTo m k, Nat.add_mod, Nat.mod_mul_mod, ← Nat.add_mod]
def turnOf : List Nat := [0, 1, 326, 495, 412, 365, 2, 379, 376, 281, 254, 327, 404, 261, 58, 339, 496, 305, 438, 415, 140, 413, 370, 43, 360, 73, 366, 247, 132, 309, 426, 3, 480, 97, 38, 335, 380, 461, 226, 219, 344, 377, 478, 167, 372, 357, 282, 179, 464, 401, 150, 255, 108, 509, 82, 395, 328, 169, 78, 87, 100, 405, 138, 355, 448, 193, 262, 175, 348, 45, 450, 59, 312, 473, 190, 7, 340, 453, 506, 19, 432, 497, 374, 95, 76, 93, 306, 235, 296, 265, 302, 439, 68, 501, 362, 195, 416, 289, 486, 15, 316, 141, 162, 411, 280, 57, 414, 359, 308, 37, 218, 371, 400, 81, 86, 447, 44, 189, 18, 75, 264, 361, 14, 279, 36, 85, 74, 35, 384, 385, 198, 367, 284, 237, 386, 251, 248, 153, 126, 199, 276, 133, 442, 211, 368, 177, 310, 287, 12, 285, 242, 427, 232, 457, 238, 119, 4, 181, 298, 387, 352, 481, 422, 207, 252, 333, 98, 91, 216, 249, 350, 39, 244, 229, 154, 51, 336, 273, 22, 127, 492, 381, 466, 267, 200, 41, 462, 471, 484, 277, 10, 227, 320, 65, 134, 47, 220, 429, 322, 443, 184, 345, 62, 391, 212, 325, 378, 403, 304, 369, 246, 479, 460, 477, 178, 107, 168, 137, 174, 311, 452, 373, 234, 67, 288, 161, 358, 399, 188, 13, 34, 283, 152, 441, 286, 231, 180, 421, 90, 243, 272, 465, 470, 319, 428, 61, 402, 459, 136, 233, 398, 151, 420, 469, 458, 419, 256, 257, 70, 239, 156, 109, 258, 123, 120, 25, 510, 71, 148, 5, 314, 83, 240, 49, 182, 159, 396, 157, 114, 299, 104, 329, 110, 503, 388, 53, 170, 259, 224, 353, 294, 79, 124, 205, 482, 475, 88, 121, 222, 423, 116, 101, 26, 435, 208, 145, 406, 511, 364, 253, 338, 139, 72, 425, 334, 343, 356, 149, 394, 99, 192, 449, 6, 431, 92, 301, 194, 315, 56, 217, 446, 263, 84, 197, 250, 275, 176, 241, 118, 351, 332, 349, 50, 491, 40, 9, 46, 183, 324, 245, 106, 451, 160, 33, 230, 271, 60, 397, 418, 155, 24, 313, 158, 103, 52, 293, 474, 115, 144, 337, 342, 191, 300, 445, 274, 331, 8, 105, 270, 23, 292, 341, 330, 291, 128, 129, 454, 111, 28, 493, 130, 507, 504, 409, 382, 455, 20, 389, 186, 467, 112, 433, 54, 31, 268, 29, 498, 171, 488, 201, 494, 375, 260, 437, 42, 131, 96, 225, 166, 463, 508, 77, 354, 347, 472, 505, 94, 295, 500, 485, 410, 307, 80, 17, 278, 383, 236, 125, 210, 11, 456, 297, 206, 215, 228, 21, 266, 483, 64, 321, 390, 303, 476, 173, 66, 187, 440, 89, 318, 135, 468, 69, 122, 147, 48, 113, 502, 223, 204, 221, 434, 363, 424, 393, 430, 55, 196, 117, 490, 323, 32, 417, 102, 143, 444, 269, 290, 27, 408, 185, 30, 487, 436, 165, 346, 499, 16, 209, 214, 63, 172, 317, 146, 203, 392, 489, 142, 407, 164, 213, 202, 163]
theorem turns_ok : (turnOf.zipIdx.all fun p => decide (p.1 < 512) && ((5 ^ p.1 - 1) / 4 % 512 == p.2)) = true := by decide +kernel
theorem turns_len : turnOf.length = 512 := by decide +kernel
theorem round511 : lcgN 511 512 = 0 := by
  rw [lcg_upTo]
  have e := upTo5_eq 512
  have : upTo5 512 = (5 ^ 512 - 1) / 4 := by omega
  rw [this]
  decide +kernel
theorem every511 {j : Nat} (hj : j ≤ 511) : ∃ b, b ≤ 511 ∧ lcgN 511 b = j := by
  have hl : j < turnOf.length := by rw [turns_len]; omega
  have k := List.all_eq_true.mp turns_ok (turnOf[j], j) (by
    rw [List.mem_zipIdx_iff_getElem?]
    exact List.getElem?_eq_getElem hl)
  simp only [Bool.and_eq_true, decide_eq_true_eq, beq_iff_eq] at k
  refine ⟨turnOf[j], by omega, ?_⟩
  rw [lcg_upTo]
  have e := upTo5_eq turnOf[j]
  have : upTo5 turnOf[j] = (5 ^ turnOf[j] - 1) / 4 := by omega
  rw [this]
  exact k.2
/-- from every slot every slot is met -/
def Full (m : Nat) : Prop := ∀ i j, i ≤ m → j ≤ m → ∃ k, k ≤ m ∧ lcgI m i k = j
theorem again511 : ∀ k, lcgN 511 (512 + k) = lcgN 511 k
  | 0 => round511
  | k + 1 => by
    show (lcgN 511 (512 + k) * 5 + 1) % 512 = (lcgN 511 k * 5 + 1) % 512
    rw [again511 k]
theorem full511 : Full 511 := fun i j hi hj => by
  obtain ⟨a, ha, rfl⟩ := every511 hi
  obtain ⟨b, hb, rfl⟩ := every511 hj
  by_cases c : a ≤ b
  · exact ⟨b - a, by omega, by rw [lcgN_add, show a + (b - a) = b by omega]⟩
  · exact ⟨512 + b - a, by omega, by rw [lcgN_add, show a + (512 + b - a) = 512 + b by omega, again511]⟩
def Sizes (m : Nat) : Prop := m = 7 ∨ m = 31 ∨ m = 127 ∨ m = 511
theorem full_of {m : Nat} (h : Sizes m) : Full m := by
  rcases h with e | e | e | e
  · exact fun i j hi hj => lcgI_all (.inl e) hi hj
  · exact fun i j hi hj => lcgI_all (.inr (.inl e)) hi hj
  · exact fun i j hi hj => lcgI_all (.inr (.inr e)) hi hj
  · rw [e]; exact full511
theorem meets_run {m : Nat} (hm : Full m) (h : Int) {j : Nat} (hj : j ≤ m) : ∃ n, n ≤ m + 12 ∧ runI m (SetTable.bits h) n = j := by
  obtain ⟨k, hk, e⟩ := hm _ j (runI_le m (SetTable.bits h) 12) hj
  exact ⟨12 + k, by omega, (runI_tail (bits_lt h) k).trans e⟩
theorem way_in {m : Nat} (h : Int) (k : Nat) : way m h k ≤ m := by
  have lt : SetTable.bits h % (m + 1) ≤ m := Nat.le_of_lt_succ (Nat.mod_lt _ (Nat.succ_pos m))
  have bd := runEnd_bd lt
  have := nth_in (m := m) k (runAt m (SetTable.bits h % (m + 1)) (SetTable.bits h)) (by
    show SetTable.bits h % (m + 1) + (SetTable.runEnd m (SetTable.bits h % (m + 1)) - SetTable.bits h % (m + 1)) ≤ m; omega)
  exact Nat.le_trans (Nat.le_add_right _ _) this
/-- the first on the way that is not among l -/
theorem first_out {m : Nat} (hm : Full m) (h : Int) {l : List Nat} (few : l.length ≤ m) : ∃ K, K < 10 * SetTable.turns m ∧ way m h K ∉ l ∧ ∀ k, k < K → way m h k ∈ l := by
  obtain ⟨j, hj, out⟩ := st_missing l (m + 1) (by omega)
  obtain ⟨n, hn, e⟩ := meets_run hm h (Nat.le_of_lt_succ hj)
  obtain ⟨k, le, e2⟩ := run_nth m (SetTable.bits h) n
  have at_ : way m h k = j := by
    show (nth m (runAt m (SetTable.bits h % (m + 1)) (SetTable.bits h)) k).j = j
    rw [e2]
    exact e
  obtain ⟨K, k1, k2, k3⟩ := st_least (p := fun k => way m h k ∉ l) k (by show way m h k ∉ l; rw [at_]; exact out)
  refine ⟨K, Nat.lt_of_le_of_lt k1 (by unfold SetTable.turns; omega), k2, fun k' lt => ?_⟩
  exact Classical.byContradiction fun no => k3 k' lt no
/-! ### laid anew -/
structure Sat (m n : Nat) (owner : Array (Option Nat)) : Prop where
  size : owner.size = m + 1
  each : ∀ k, k < n → ∃ j, j ≤ m ∧ oAt owner j = some k
  taken : ∃ ps : List Nat, ps.length = n ∧ ∀ j, j ≤ m → oAt owner j ≠ none → j ∈ ps
theorem Sat.start (m : Nat) : Sat m 0 (Array.replicate (m + 1) none) := ⟨by simp, fun k h => absurd h (Nat.not_lt_zero k), [], rfl, fun j hj e => absurd (oAt_init hj) e⟩
theorem Sat.next {m n : Nat} {owner : Array (Option Nat)} (hm : Full m) (W : Sat m n owner) (few : n ≤ m) (h : Int) : ∃ j, SetTable.layClean.free m owner (SetTable.turns m) (SetTable.bits h % (m + 1)) (SetTable.bits h) = some j ∧ Sat m (n + 1) (owner.setIfInBounds j (some n)) := by
  obtain ⟨ps, pl, pin⟩ := W.taken
  obtain ⟨j0, lt0, out0⟩ := st_missing ps (m + 1) (by omega)
  have free0 : oAt owner j0 = none := Classical.byContradiction fun z => out0 (pin j0 (Nat.le_of_lt_succ lt0) z)
  obtain ⟨r, hr, er⟩ := meets_run hm h (Nat.le_of_lt_succ lt0)
  have met : way m h (off m (SetTable.bits h % (m + 1)) (SetTable.bits h) r) = j0 := by
    show (nth m (runAt m (SetTable.bits h % (m + 1)) (SetTable.bits h)) (off m (SetTable.bits h % (m + 1)) (SetTable.bits h) r)).j = j0
    rw [nth_off, itL_run]
    exact er
  obtain ⟨K, k1, k2, k3⟩ := st_least (p := fun k => oAt owner (way m h k) = none) _ (show oAt owner (way m h (off m (SetTable.bits h % (m + 1)) (SetTable.bits h) r)) = none by rw [met]; exact free0)
  have found := free_spec m owner (SetTable.turns m) r (SetTable.bits h % (m + 1)) (SetTable.bits h) K (by unfold SetTable.turns; omega) k1 (fun k lt => by
    have no := k3 k lt
    show (oAt owner (way m h k)).isNone = false
    cases z : oAt owner (way m h k) with
    | none => exact absurd z no
    | some _ => rfl) (by show (oAt owner (way m h K)).isNone = true; rw [k2]; rfl)
  have inM : way m h K ≤ m := way_in h K
  have inO : way m h K < owner.size := by rw [W.size]; omega
  refine ⟨way m h K, found, by rw [Array.size_setIfInBounds]; exact W.size, fun k lt => ?_, way m h K :: ps, by rw [List.length_cons, pl], fun j hj no => ?_⟩
  · by_cases c : k < n
    · obtain ⟨j, hj, e⟩ := W.each k c
      refine ⟨j, hj, ?_⟩
      rw [oAt_set_ne _ (fun z => by rw [z, k2] at e; cases e)]
      exact e
    · refine ⟨way m h K, inM, ?_⟩
      rw [oAt_set_self _ inO, show k = n by omega]
  · by_cases c : j = way m h K
    · rw [c]; exact List.mem_cons_self
    · rw [oAt_set_ne _ c] at no
      exact List.mem_cons_of_mem _ (pin j hj no)
theorem Sat.all {m : Nat} (hm : Full m) : ∀ (rest : List Int) (n : Nat) (owner : Array (Option Nat)), Sat m n owner → n + rest.length ≤ m → ∃ owner', rest.foldl (stepF m) (some (owner, n)) = some (owner', n + rest.length) ∧ Sat m (n + rest.length) owner'
  | [], n, owner, W, _ => ⟨owner, rfl, W⟩
  | h :: rest, n, owner, W, few => by
    rw [List.length_cons] at few ⊢
    obtain ⟨j, e, W1⟩ := W.next hm (by omega) h
    obtain ⟨o2, f, W2⟩ := Sat.all hm rest (n + 1) _ W1 (by omega)
    rw [show n + 1 + rest.length = n + (rest.length + 1) by omega] at f W2
    exact ⟨o2, by rw [List.foldl_cons, stepF_some e]; exact f, W2⟩
theorem laid_anew (t : SetTable) {hs : Array Int} {wanted M : Nat} (hw : SetTable.sizeAbove wanted - 1 = M) (hM : Full M) (few : hs.size ≤ M) : ∃ t' order, t.relaid hs wanted = some (t', order) ∧ order.toList.Perm (List.range hs.size) ∧ Ris t'.place.toList ∧ t'.place.size = hs.size ∧ (∀ x ∈ t'.place.toList, x ≤ M) ∧ t'.mask = M ∧ t'.plain = t.plain ∧ t'.dummies = #[] := by
  obtain ⟨owner, f, W⟩ := Sat.all hM hs.toList 0 _ (Sat.start M) (by rw [Array.length_toList]; omega)
  rw [Nat.zero_add, Array.length_toList] at f W
  have clean : SetTable.layClean M hs = some owner := by
    rw [layClean_eq, f]
    rfl
  have done : t.relaid hs wanted = some (L2.tabOf t M owner, ((liveOf M owner).map (·.2)).toArray) := by
    rw [relaid_eq, hw, clean]
    rfl
  obtain ⟨r1, r2⟩ := ris_live (fun j => owner.getD j none) (List.range (M + 1)) (by unfold Ris; exact List.pairwise_lt_range)
  have r1 : Ris ((liveOf M owner).map (·.1)) := r1
  have r2 : ∀ x ∈ (liveOf M owner).map (·.1), x ∈ List.range (M + 1) := r2
  have cover : ∀ k, k < hs.size → k ∈ (liveOf M owner).map (·.2) := fun k lt => by
    obtain ⟨j, b1, b2⟩ := W.each k lt
    exact List.mem_map.mpr ⟨(j, k), (mem_live W.size).2 ⟨b1, b2⟩, rfl⟩
  have count : (liveOf M owner).length = hs.size := by
    obtain ⟨ps, p1, p2⟩ := W.taken
    have a := nat_nodup_len ((liveOf M owner).map (fun p : Nat × Nat => p.1)) ps (List.Pairwise.imp (fun {_ _} z => Nat.ne_of_lt z) r1) fun x hx => by
      obtain ⟨⟨y, k⟩, hq, rfl⟩ := List.mem_map.mp hx
      obtain ⟨b1, b2⟩ := (mem_live W.size).1 hq
      exact p2 y b1 fun z => by rw [b2] at z; cases z
    have b := nat_nodup_len (List.range hs.size) ((liveOf M owner).map (·.2)) List.nodup_range fun k hk => cover k (List.mem_range.mp hk)
    rw [List.length_map] at a b
    rw [List.length_range] at b
    omega
  refine ⟨_, _, done, perm_range hs.size _ (by rw [List.toList_toArray, List.length_map]; exact count) (fun k lt => by rw [List.toList_toArray]; exact cover k lt), r1, ?_, fun x hx => Nat.le_of_lt_succ (List.mem_range.mp (r2 x hx)), rfl, rfl, rfl⟩
  show ((liveOf M owner).map (·.1)).toArray.size = hs.size
  rw [List.size_toArray, List.length_map, count]
/-! ### one by one -/
structure Fine (q : HT2) : Prop where
  ris : Ris q.2.place.toList
  dm : q.2.dummies = #[]
  sz : q.2.place.size = q.1.size
  bd : ∀ x ∈ q.2.place.toList, x ≤ q.2.mask
  sizes : Sizes q.2.mask
  pl : q.2.plain = true
  room : q.1.size * 5 < q.2.mask * 3
theorem roomy_at {hs : Array Int} {t : SetTable} (dm : t.dummies = #[]) (sz : t.place.size = hs.size) (mk : Sizes t.mask) (pl : t.plain = true) (room : hs.size ≤ t.mask) (few : hs.size ≤ 1000) : roomy (hs, t) = true := by
  have odd : t.gaveWay = false := by
    unfold SetTable.gaveWay
    rcases mk with e | e | e | e <;> rw [e] <;> rfl
  have fit : t.fits hs.size = true := by
    unfold SetTable.fits; unfold SetTable.fill
    rw [dm, sz, Bool.and_eq_true, beq_iff_eq, decide_eq_true_eq]
    exact ⟨rfl, room⟩
  unfold roomy
  show (t.fits hs.size && (!t.gaveWay && (t.plain && decide (hs.size ≤ 1000)))) = true
  rw [fit, odd, pl, decide_eq_true few]
  rfl
theorem size_308 : SetTable.sizeAbove (SetTable.grown 77) = 512 := by decide +kernel
theorem pick_perm {hs : Array Int} {order : Array Nat} (p : order.toList.Perm (List.range hs.size)) : (order.filterMap (hs[·]?)).toList.Perm hs.toList := by
  have e : (List.range hs.size).filterMap (hs[·]?) = hs.toList := PySem.W.krv_all hs
  have := p.filterMap (hs[·]?)
  rw [e] at this
  rw [Array.toList_filterMap]
  exact this
theorem step_fine {q : HT2} {h : Int} (F : Fine q) (out : h ∉ q.1.toList) (few : q.1.size + 1 ≤ 150) : ∃ q', stepH q h = some q' ∧ Fine q' ∧ q'.1.toList.Perm (h :: q.1.toList) := by
  obtain ⟨hs, t⟩ := q
  obtain ⟨ris, dm, sz, bd, mk, pl, room⟩ := F
  dsimp only at *
  have big : hs.size ≤ t.mask := by rcases mk with e | e | e | e <;> omega
  have rm := roomy_at dm sz mk pl big (by omega)
  obtain ⟨K, k0, k1, k2⟩ := first_out (full_of mk) h (l := t.place.toList) (by rw [Array.length_toList]; omega)
  have probe : t.probe (fun i => (hs[i]?).getD 0) h (t.probeStart h) = some (.empty (way t.mask h K) none) := by
    rcases go_spec t ris dm (fun i => (hs[i]?).getD 0) h (10 * SetTable.turns t.mask) K (t.probeStart h) rfl k0 k2 k1 with ⟨k, i, _, at_, hit, _⟩ | ⟨_, e⟩
    · have lt : i < hs.size := by
        have inside := (List.getElem?_eq_some_iff.mp at_).1
        rw [Array.length_toList] at inside
        omega
      have hit : (hs[i]?).getD 0 = h := hit
      rw [Array.getElem?_eq_getElem lt] at hit
      have hit : hs[i] = h := hit
      exact absurd (by rw [← hit]; exact Array.getElem_mem_toList lt) out
    · exact e
  generalize hj : way t.mask h K = j at probe k1
  have jm : j ≤ t.mask := by rw [← hj]; exact way_in h K
  obtain ⟨c1, _, _⟩ := below_cut ris j
  have mask1 : (t.put j).1.mask = t.mask := rfl
  have dm1 : (t.put j).1.dummies = #[] := put_dm dm j
  have ris1 : Ris (t.put j).1.place.toList := ris_insert ris fun e => k1 (List.mem_of_getElem? (by rw [Array.getElem?_toList]; exact e))
  have size1 : (t.put j).1.place.size = hs.size + 1 := by
    rw [← Array.length_toList, put_place, len_ins _ (by rw [Array.length_toList]; exact c1), Array.length_toList, sz]
  have ins : (SetTable.insertAt hs (t.put j).2 h).toList = hs.toList.take (t.put j).2 ++ h :: hs.toList.drop (t.put j).2 := SetTable.toList_insertAt _ _ _
  have pm : (SetTable.insertAt hs (t.put j).2 h).toList.Perm (h :: hs.toList) := by
    rw [ins]
    refine List.perm_middle.trans (List.Perm.cons h ?_)
    rw [List.take_append_drop]
  have size2 : (SetTable.insertAt hs (t.put j).2 h).size = hs.size + 1 := by
    have := pm.length_eq
    rw [Array.length_toList, List.length_cons, Array.length_toList] at this
    exact this
  have bd1 : ∀ x ∈ (t.put j).1.place.toList, x ≤ t.mask := fun x hx => by
    rw [put_place] at hx
    rcases mem_ins.1 hx with new | z
    · rw [new]; exact jm
    · exact bd x z
  have fill1 : (t.put j).1.fill = hs.size + 1 := by
    unfold SetTable.fill
    rw [dm1, size1]
    rfl
  have big1 : hs.size + 1 ≤ t.mask := by rcases mk with e | e | e | e <;> omega
  have rm1 : roomy (SetTable.insertAt hs (t.put j).2 h, (t.put j).1) = true := roomy_at dm1 (by rw [size1, size2]) mk pl (by rw [size2]; exact big1) (by rw [size2]; omega)
  by_cases full : (t.put j).1.tooFull = true
  · have full2 : (hs.size + 1) * 5 ≥ t.mask * 3 := by
      unfold SetTable.tooFull at full
      rw [fill1, mask1] at full
      exact of_decide_eq_true full
    have now : ∃ M, SetTable.sizeAbove (SetTable.grown (hs.size + 1)) = M + 1 ∧ Sizes M ∧ (hs.size + 1) * 5 < M * 3 := by
      rcases mk with e | e | e | e
      · have : hs.size + 1 = 5 := by omega
        exact ⟨31, by rw [this]; exact size_20, .inr (.inl rfl), by omega⟩
      · have : hs.size + 1 = 19 := by omega
        exact ⟨127, by rw [this]; exact size_76, .inr (.inr (.inl rfl)), by omega⟩
      · have : hs.size + 1 = 77 := by omega
        exact ⟨511, by rw [this]; exact size_308, .inr (.inr (.inr rfl)), by omega⟩
      · omega
    obtain ⟨M, eM, sM, rM⟩ := now
    have M5 : M ≤ 511 := by rcases sM with e | e | e | e <;> omega
    obtain ⟨t2, order, lay, per, ris2, pl2, bd2, mk2, pn2, dm2⟩ := laid_anew (t.put j).1 (hs := SetTable.insertAt hs (t.put j).2 h) (wanted := SetTable.grown (hs.size + 1)) (M := M) (by rw [eM]; rfl) (full_of sM) (by rw [size2]; omega)
    have pp := pick_perm per
    have size3 : (order.filterMap ((SetTable.insertAt hs (t.put j).2 h)[·]?)).size = (SetTable.insertAt hs (t.put j).2 h).size := by
      have := pp.length_eq
      rw [Array.length_toList, Array.length_toList] at this
      exact this
    refine ⟨(order.filterMap ((SetTable.insertAt hs (t.put j).2 h)[·]?), t2), ?_, ⟨ris2, dm2, ?_, ?_, ?_, ?_, ?_⟩, pp.trans pm⟩
    · unfold stepH
      dsimp only
      rw [rm, probe]
      dsimp only
      rw [rm1, full, lay, decide_eq_true (show SetTable.sizeAbove (SetTable.grown (hs.size + 1)) ≤ 100000 by rw [eM]; omega)]
      dsimp only
      rw [decide_eq_true size3]
    · show t2.place.size = (order.filterMap ((SetTable.insertAt hs (t.put j).2 h)[·]?)).size
      rw [pl2, size3]
    · show ∀ x ∈ t2.place.toList, x ≤ t2.mask
      rw [mk2]; exact bd2
    · show Sizes t2.mask
      rw [mk2]; exact sM
    · show t2.plain = true
      rw [pn2]; exact pl
    · show (order.filterMap ((SetTable.insertAt hs (t.put j).2 h)[·]?)).size * 5 < t2.mask * 3
      rw [size3, size2, mk2]; exact rM
  · have full : (t.put j).1.tooFull = false := by simpa using full
    refine ⟨(SetTable.insertAt hs (t.put j).2 h, (t.put j).1), ?_, ⟨ris1, dm1, ?_, bd1, mk, pl, ?_⟩, pm⟩
    · unfold stepH
      dsimp only
      rw [rm, probe]
      dsimp only
      rw [rm1, full]
    · show (t.put j).1.place.size = (SetTable.insertAt hs (t.put j).2 h).size
      rw [size1, size2]
    · show (SetTable.insertAt hs (t.put j).2 h).size * 5 < t.mask * 3
      unfold SetTable.tooFull at full
      rw [fill1, mask1] at full
      have := of_decide_eq_false full
      rw [size2]
      omega
theorem run_fine : ∀ (rest : List Int) (q : HT2), Fine q → rest.Nodup → (∀ h ∈ rest, h ∉ q.1.toList) → q.1.size + rest.length ≤ 150 → ∃ q', runH q rest = some q' ∧ Fine q' ∧ q'.1.size = q.1.size + rest.length
  | [], q, F, _, _, _ => ⟨q, rfl, F, rfl⟩
  | h :: rest, q, F, nd, out, few => by
    rw [List.length_cons] at few ⊢
    obtain ⟨nh, nd2⟩ := List.nodup_cons.mp nd
    obtain ⟨q1, e1, F1, p1⟩ := step_fine F (out h List.mem_cons_self) (by omega)
    have s1 : q1.1.size = q.1.size + 1 := by
      have := p1.length_eq
      rw [Array.length_toList, List.length_cons, Array.length_toList] at this
      exact this
    obtain ⟨q2, e2, F2, s2⟩ := run_fine rest q1 F1 nd2 (fun x hx z => by
      rcases List.mem_cons.mp (p1.mem_iff.mp z) with y | y
      · exact nh (y ▸ hx)
      · exact out x (List.mem_cons_of_mem _ hx) y) (by omega)
    refine ⟨q2, ?_, F2, by omega⟩
    unfold runH
    rw [e1]
    exact e2
/-- tuples whose hashes differ -/
theorem apart_of {ks : List (List Int)} (nd : (ks.map th).Nodup) (few : ks.length ≤ 150) : apart ks = true := by
  have one : ∀ b : Bool, endsIn ks.length (runH (#[], .fresh 0 0 b) (ks.map th)) = true := fun b => by
    have F0 : Fine (#[], .fresh 0 0 b) := ⟨List.Pairwise.nil, rfl, rfl, fun x hx => (nomatch hx), .inl rfl, rfl, by show 0 * 5 < 7 * 3; decide⟩
    obtain ⟨q, e, F, s⟩ := run_fine (ks.map th) (#[], .fresh 0 0 b) F0 nd (fun h _ z => (nomatch z)) (by rw [List.length_map]; show 0 + ks.length ≤ 150; omega)
    rw [List.length_map] at s
    have s : q.1.size = ks.length := by rw [s]; show 0 + ks.length = ks.length; omega
    have fit : q.2.fits q.1.size = true := by
      unfold SetTable.fits; unfold SetTable.fill
      rw [F.dm, F.sz, Bool.and_eq_true, beq_iff_eq, decide_eq_true_eq]
      refine ⟨rfl, ?_⟩
      have := F.room
      have mk := F.sizes
      show q.1.size ≤ q.2.mask
      rcases mk with e | e | e | e <;> omega
    rw [e]
    show (q.2.fits q.1.size && decide (q.1.size = ks.length)) = true
    rw [fit, decide_eq_true s]
    rfl
  unfold apart
  rw [one, one, decide_eq_true (by omega)]
  rfl
end Br

namespace BrK16
open PySem L2 Br
abbrev Pg : Program := PySem.Challenge.pw_bestofrow_k16_whole_independent_ranks
def topS (i : Nat) : Stmt := Pg.main.body.getD i (.Pass ⟨0, 0, 0, 0⟩)
structure Tx (Γ : Gm) : Prop where
  b_all : Γ.mg "all" = none
  b_bool : Γ.mg "bool" = none
  b_enumerate : Γ.mg "enumerate" = none
  b_int : Γ.mg "int" = none
  b_isinstance : Γ.mg "isinstance" = none
  b_len : Γ.mg "len" = none
  b_min : Γ.mg "min" = none
  b_range : Γ.mg "range" = none
  b_set : Γ.mg "set" = none
  b_sorted : Γ.mg "sorted" = none
  b_tuple : Γ.mg "tuple" = none
  c_MOST : ∃ t : Tok, Γ.mg "MOST" = some (.int 10 t)
  e_InvalidOrder : ∃ C : Addr, ExcT Γ "InvalidOrder" C
  e_InvalidRanks : ∃ C : Addr, ExcT Γ "InvalidRanks" C
section
variable {wd : World} {base : Heap} {Γ : Gm}
abbrev st_is_integer : Stmt := topS 5
abbrev N_is_integer : List Str := ["value", "low", "high"]
theorem sc_is_integer : FnScope N_is_integer ["value", "low", "high"] (defScope st_is_integer) := ⟨rfl, rfl, rfl, by decide +kernel, rfl, by decide +kernel, by decide +kernel⟩
def d_is_integer : LS → Out Fl := (sRet (eAn (eUn (sIsi .int) (eVar 0)) (eAn (eNo (eUn (sIsi .bool) (eVar 0))) (eCh sLe sLe (eVar 1) (eVar 0) (eVar 2)))))
def m_is_integer : List D → GS → FOut := runF 3 3 d_is_integer
theorem mn_is_integer : MnF m_is_integer := mn_run (sa := d_is_integer) (mn_sRet (mn_eAn (mn_eUn mn_sIsi mn_eVar) (mn_eAn (mn_eNo (mn_eUn mn_sIsi mn_eVar)) (mn_eCh mn_sLe mn_sLe mn_eVar mn_eVar mn_eVar))))
theorem f_is_integer (T : Tx Γ) {f : Addr} {fd : FuncData} (F : Fun Γ.K "is_integer" "is_integer" st_is_integer f fd) (hm : Γ.mg "is_integer" = some (.ref f)) (hb : Binds Γ.K fd ["value", "low", "high"] []) : FnT Pg wd base Γ 1 "is_integer" m_is_integer :=
  fn_data (N := N_is_integer) F hm hb sc_is_integer fun cdv A outer s H E H0 ad0 B hr => by
    have tk : L2N.Takes (cxOf (L2N.CX Pg wd) Pg wd Γ.K Γ.mg base N_is_integer "is_integer" (defScope st_is_integer) f cdv A outer s H E) (fun c d _ H => E c d H) := L2N.takes_of rfl rfl rfl rfl
    exact (dss_one (ds_ret (de_and (de_isi .int (de_var 0) rfl rfl T.b_isinstance rfl T.b_int (by decide +kernel)) (de_and (de_not (de_isi .bool (de_var 0) rfl rfl T.b_isinstance rfl T.b_bool (by decide +kernel))) (de_one (de_chain op_le op_le os_le os_le (de_var 1) (de_var 0) (de_var 2)))))))
abbrev st_is_order : Stmt := topS 8
abbrev N_is_order : List Str := ["value", "rank"]
theorem sc_is_order : FnScope N_is_order ["value"] (defScope st_is_order) := ⟨rfl, rfl, rfl, by decide +kernel, rfl, by decide +kernel, by decide +kernel⟩
def d_is_order : LS → Out Fl := (sSeq (sIf (tOu (tNo (tV (eUn (sIsi .tuple) (eVar 0)))) (tNo (tV (eCh sLe sLe (eC (.int 1)) (eB (arg1 sLen) (aCons (eVar 0) aNil)) (eC (.int 10)))))) (sRet (eC (.bl false))) sNx)
  (sSeq (sIf (tNo (tV (eB (arg1 sAll) (aCons (eLc (iSeq (eVar 0)) (gN 1) tYe (eCall m_is_integer (aCons (eVar 1) (aCons (eC (.int 1)) (aCons (eB (arg1 sLen) (aCons (eVar 0) aNil)) aNil)))) [1]) aNil)))) (sRet (eC (.bl false))) sNx)
  (sRet (eOp sEq (eUn sLs (eVar 0)) (eB (arg1 sLen) (aCons (eVar 0) aNil))))))
def m_is_order : List D → GS → FOut := runF 1 2 d_is_order
theorem mn_is_order : MnF m_is_order := mn_run (sa := d_is_order) (mn_sSeq (mn_sIf (mn_tOu (mn_tNo (mn_tV (mn_eUn mn_sIsi mn_eVar))) (mn_tNo (mn_tV (mn_eCh mn_sLe mn_sLe mn_eC (mn_eB (mn_arg1 mn_sLen) (mn_aCons mn_eVar mn_aNil)) mn_eC)))) (mn_sRet mn_eC) mn_sNx) (mn_sSeq (mn_sIf (mn_tNo (mn_tV (mn_eB (mn_arg1 mn_sAll) (mn_aCons (mn_eLc (mn_iSeq mn_eVar) mn_tYe (mn_eCall mn_is_integer (mn_aCons mn_eVar (mn_aCons mn_eC (mn_aCons (mn_eB (mn_arg1 mn_sLen) (mn_aCons mn_eVar mn_aNil)) mn_aNil))))) mn_aNil)))) (mn_sRet mn_eC) mn_sNx) (mn_sRet (mn_eOp mn_sEq (mn_eUn mn_sLs mn_eVar) (mn_eB (mn_arg1 mn_sLen) (mn_aCons mn_eVar mn_aNil))))))
def x_is_order : List D → GS → FOut := fastF fOrder m_is_order
theorem x_is_order_eq : x_is_order = m_is_order := fastF_eq (m := m_is_order) ok_order
theorem f_is_order (T : Tx Γ) {f : Addr} {fd : FuncData} (F : Fun Γ.K "is_order" "is_order" st_is_order f fd) (hm : Γ.mg "is_order" = some (.ref f)) (hb : Binds Γ.K fd ["value"] []) (F_is_integer : FnT Pg wd base Γ 1 "is_integer" m_is_integer) : FnT Pg wd base Γ 2 "is_order" m_is_order :=
  fn_data (N := N_is_order) F hm hb sc_is_order fun cdv A outer s H E H0 ad0 B hr => by
    have tk : L2N.Takes (cxOf (L2N.CX Pg wd) Pg wd Γ.K Γ.mg base N_is_order "is_order" (defScope st_is_order) f cdv A outer s H E) (fun c d _ H => E c d H) := L2N.takes_of rfl rfl rfl rfl
    exact (dss_cons (ds_if (dt_w (dw_or (dt_not (dt_val (de_isi .tuple (de_var 0) rfl rfl T.b_isinstance rfl T.b_tuple (by decide +kernel)))) (dw_or1 (dt_not (dt_chain op_le op_le os_le os_le de_int (de_callB crr_len cs_len rfl T.b_len PySem.boot_len (da_cons (de_var 0) da_nil)) (de_glob (v := .int 10) rfl T.c_MOST.choose_spec ⟨_, rfl⟩ (fun _ _ _ => .int _))))))) (dss_one (ds_ret de_bl)) dss_nil)
  (dss_cons (ds_if (dt_not (dt_val (de_callB (cr_all rfl) cs_all rfl T.b_all (by decide +kernel) (da_cons (de_lc (own := [("rank", 1)]) (g := (gName 1)) (t := (gN 1)) rfl sc_is_order.nd (di_seq (de_var 0) rfl) (blkOk_by (N := N_is_order) (sc := defScope st_is_order) (by decide +kernel)) (fun _ _ _ _ _ => (pg_name (i := 1) sc_is_order.nd rfl (Or.inl rfl))) (fun _ => (tg_name (by decide))) (fun _ _ _ _ _ => dts_nil) (fun _ _ _ _ _ => PE.ex fun _ _ _ => (de_call F_is_integer rfl rfl (hr.mono (by decide)) takesN rfl (da_cons (de_var 1) (da_cons de_int (da_cons (de_callB crr_len cs_len rfl T.b_len PySem.boot_len (da_cons (de_var 0) da_nil)) da_nil)))))) da_nil)))) (dss_one (ds_ret de_bl)) dss_nil)
  (dss_one (ds_ret (de_cmp (op_eqD (hr.units)) os_eq (de_lenSet rfl rfl T.b_len rfl T.b_set (de_var 0)) (de_callB crr_len cs_len rfl T.b_len PySem.boot_len (da_cons (de_var 0) da_nil)) (nomark _))))))
abbrev st_check_order : Stmt := topS 9
abbrev N_check_order : List Str := ["order"]
theorem sc_check_order : FnScope N_check_order ["order"] (defScope st_check_order) := ⟨rfl, rfl, rfl, by decide +kernel, rfl, by decide +kernel, by decide +kernel⟩
def d_check_order : LS → Out Fl := (sIf (tNo (tV (eCall m_is_order (aCons (eVar 0) aNil)))) (sRaise "InvalidOrder") sNx)
def m_check_order : List D → GS → FOut := runF 1 1 d_check_order
theorem mn_check_order : MnF m_check_order := mn_run (sa := d_check_order) (mn_sIf (mn_tNo (mn_tV (mn_eCall mn_is_order (mn_aCons mn_eVar mn_aNil)))) mn_sRaise mn_sNx)
def x_check_order : List D → GS → FOut := fastF fCheckO m_check_order
theorem x_check_order_eq : x_check_order = m_check_order := fastF_eq (m := m_check_order) ok_checkO
theorem f_check_order (T : Tx Γ) {f : Addr} {fd : FuncData} (F : Fun Γ.K "check_order" "check_order" st_check_order f fd) (hm : Γ.mg "check_order" = some (.ref f)) (hb : Binds Γ.K fd ["order"] []) (F_is_order : FnT Pg wd base Γ 2 "is_order" m_is_order) : FnT Pg wd base Γ 3 "check_order" m_check_order :=
  fn_data (N := N_check_order) F hm hb sc_check_order fun cdv A outer s H E H0 ad0 B hr => by
    have tk : L2N.Takes (cxOf (L2N.CX Pg wd) Pg wd Γ.K Γ.mg base N_check_order "check_order" (defScope st_check_order) f cdv A outer s H E) (fun c d _ H => E c d H) := L2N.takes_of rfl rfl rfl rfl
    exact (dss_one (ds_if (dt_not (dt_val (de_call F_is_order rfl rfl (hr.mono (by decide)) tk rfl (da_cons (de_var 0) da_nil)))) (dss_one (ds_raise rfl tk (T.e_InvalidOrder.choose_spec).xC rfl (T.e_InvalidOrder.choose_spec).gC (T.e_InvalidOrder.choose_spec).kC (raises_own (T.e_InvalidOrder.choose_spec).bC (T.e_InvalidOrder.choose_spec).tC) rfl)) dss_nil))
abbrev st_relative_of : Stmt := topS 10
abbrev N_relative_of : List Str := ["order", "found", "place", "rank", "other"]
theorem sc_relative_of : FnScope N_relative_of ["order"] (defScope st_relative_of) := ⟨rfl, rfl, rfl, by decide +kernel, rfl, by decide +kernel, by decide +kernel⟩
def d_relative_of : LS → Out Fl := (sSeq (sSet 1 (eLstO aNil))
  (sSeq (sFor (iEnum (eVar 0)) (gT2 2 3) (sMut mApp 1 (eB (arg1 sLen) (aCons (eLc (iSeq (eSl (eVar 0) pNo (pSo (eOp sAdd (eVar 2) (eC (.int 1)))))) (gN 4) (tV (eOp sLe (eVar 4) (eVar 3))) (eC (.int 1)) [4]) aNil))))
  (sRet (eB (arg1 sTuple) (aCons (eVar 1) aNil)))))
def m_relative_of : List D → GS → FOut := runF 1 5 d_relative_of
theorem mn_relative_of : MnF m_relative_of := mn_run (sa := d_relative_of) (mn_sSeq (mn_sSet (mn_eLstO mn_aNil)) (mn_sSeq (mn_sFor (mn_iEnum mn_eVar) (mn_sMut (mn_eB (mn_arg1 mn_sLen) (mn_aCons (mn_eLc (mn_iSeq (mn_eSl mn_eVar mn_pNo (mn_pSo (mn_eOp mn_sAdd mn_eVar mn_eC)))) (mn_tV (mn_eOp mn_sLe mn_eVar mn_eVar)) mn_eC) mn_aNil)))) (mn_sRet (mn_eB (mn_arg1 mn_sTuple) (mn_aCons mn_eVar mn_aNil)))))
def x_relative_of : List D → GS → FOut := fastF fRelOf m_relative_of
theorem x_relative_of_eq : x_relative_of = m_relative_of := fastF_eq (m := m_relative_of) ok_relOf
theorem f_relative_of (T : Tx Γ) {f : Addr} {fd : FuncData} (F : Fun Γ.K "relative_of" "relative_of" st_relative_of f fd) (hm : Γ.mg "relative_of" = some (.ref f)) (hb : Binds Γ.K fd ["order"] []) : FnT Pg wd base Γ 1 "relative_of" m_relative_of :=
  fn_data (N := N_relative_of) F hm hb sc_relative_of fun cdv A outer s H E H0 ad0 B hr => by
    have tk : L2N.Takes (cxOf (L2N.CX Pg wd) Pg wd Γ.K Γ.mg base N_relative_of "relative_of" (defScope st_relative_of) f cdv A outer s H E) (fun c d _ H => E c d H) := L2N.takes_of rfl rfl rfl rfl
    exact (dss_cons (ds_set (i := 1) sc_relative_of.nd rfl (Or.inl rfl) (de_lstO da_nil))
  (dss_cons (ds_for (g := (gTup Γ.K 2 (gCons (gName 2) (gCons (gName 3) gNil)))) (t := (gT2 2 3)) (passes_of rfl) rfl (di_enum rfl T.b_enumerate (de_var 0) rfl) (pg_tup rfl (pgs_cons (pg_name (i := 2) sc_relative_of.nd rfl (Or.inl rfl)) (pgs_cons (pg_name (i := 3) sc_relative_of.nd rfl (Or.inr rfl)) pgs_nil))) (tg_tup2 (vs := [2, 3]) (by decide) (by decide)) (dss_one (ds_mut (i := 1) ms_app PySem.F.plainAttrs_list PySem.F.slot_list_append PySem.F.type_list_append mt_append (de_callB crr_len cs_len rfl T.b_len PySem.boot_len (da_cons (de_lc (own := [("other", 4)]) (g := (gName 4)) (t := (gN 4)) rfl sc_relative_of.nd (di_seq (de_slice (de_var 0) do_no (do_so (de_bin or_add os_add (de_var 2) de_int))) rfl) (blkOk_by (N := N_relative_of) (sc := defScope st_relative_of) (by decide +kernel)) (fun _ _ _ _ _ => (pg_name (i := 4) sc_relative_of.nd rfl (Or.inl rfl))) (fun _ => (tg_name (by decide))) (fun _ _ _ _ _ => dts_one (PT.ex fun _ _ _ => (dt_cmp op_le os_le (de_var 4) (de_var 3) (nomark _)))) (fun _ _ _ _ _ => PE.ex fun _ _ _ => de_int)) da_nil)) rfl)))
  (dss_one (ds_ret (de_callTy call_tuple_of cs_tuple rfl T.b_tuple (by decide +kernel) (da_cons (de_var 1) da_nil))))))
abbrev st_relative : Stmt := topS 11
abbrev N_relative : List Str := ["order"]
theorem sc_relative : FnScope N_relative ["order"] (defScope st_relative) := ⟨rfl, rfl, rfl, by decide +kernel, rfl, by decide +kernel, by decide +kernel⟩
def d_relative : LS → Out Fl := (sSeq (sEx (eCall m_check_order (aCons (eVar 0) aNil)))
  (sRet (eCall m_relative_of (aCons (eVar 0) aNil))))
def m_relative : List D → GS → FOut := runF 1 1 d_relative
theorem mn_relative : MnF m_relative := mn_run (sa := d_relative) (mn_sSeq (mn_sEx (mn_eCall mn_check_order (mn_aCons mn_eVar mn_aNil))) (mn_sRet (mn_eCall mn_relative_of (mn_aCons mn_eVar mn_aNil))))
def x_relative : List D → GS → FOut := fastF fRel m_relative
theorem x_relative_eq : x_relative = m_relative := fastF_eq (m := m_relative) ok_rel
theorem f_relative (T : Tx Γ) {f : Addr} {fd : FuncData} (F : Fun Γ.K "relative" "relative" st_relative f fd) (hm : Γ.mg "relative" = some (.ref f)) (hb : Binds Γ.K fd ["order"] []) (F_relative_of : FnT Pg wd base Γ 1 "relative_of" m_relative_of) (F_check_order : FnT Pg wd base Γ 3 "check_order" m_check_order) : FnT Pg wd base Γ 4 "relative" m_relative :=
  fn_data (N := N_relative) F hm hb sc_relative fun cdv A outer s H E H0 ad0 B hr => by
    have tk : L2N.Takes (cxOf (L2N.CX Pg wd) Pg wd Γ.K Γ.mg base N_relative "relative" (defScope st_relative) f cdv A outer s H E) (fun c d _ H => E c d H) := L2N.takes_of rfl rfl rfl rfl
    exact (dss_cons (ds_ex (de_call F_check_order rfl rfl (hr.mono (by decide)) tk rfl (da_cons (de_var 0) da_nil)))
  (dss_one (ds_ret (de_call F_relative_of rfl rfl (hr.mono (by decide)) tk rfl (da_cons (de_var 0) da_nil)))))
abbrev st_order_of : Stmt := topS 12
abbrev N_order_of : List Str := ["ranks", "found", "rank", "other"]
theorem sc_order_of : FnScope N_order_of ["ranks"] (defScope st_order_of) := ⟨rfl, rfl, rfl, by decide +kernel, rfl, by decide +kernel, by decide +kernel⟩
def d_order_of : LS → Out Fl := (sSeq (sSet 1 (eLst aNil))
  (sSeq (sFor (iSeq (eVar 0)) (gN 2) (sSet 1 (eOp sAdd (eLc (iSeq (eVar 1)) (gN 3) tYe (eIf (tV (eOp sGe (eVar 3) (eVar 2))) (eOp sAdd (eVar 3) (eC (.int 1))) (eVar 3)) [3]) (eLst (aCons (eVar 2) aNil)))))
  (sRet (eB (arg1 sTuple) (aCons (eVar 1) aNil)))))
def m_order_of : List D → GS → FOut := runF 1 4 d_order_of
theorem mn_order_of : MnF m_order_of := mn_run (sa := d_order_of) (mn_sSeq (mn_sSet (mn_eLst mn_aNil)) (mn_sSeq (mn_sFor (mn_iSeq mn_eVar) (mn_sSet (mn_eOp mn_sAdd (mn_eLc (mn_iSeq mn_eVar) mn_tYe (mn_eIf (mn_tV (mn_eOp mn_sGe mn_eVar mn_eVar)) (mn_eOp mn_sAdd mn_eVar mn_eC) mn_eVar)) (mn_eLst (mn_aCons mn_eVar mn_aNil))))) (mn_sRet (mn_eB (mn_arg1 mn_sTuple) (mn_aCons mn_eVar mn_aNil)))))
def x_order_of : List D → GS → FOut := fastF fOrdOf m_order_of
theorem x_order_of_eq : x_order_of = m_order_of := fastF_eq (m := m_order_of) ok_ordOf
theorem f_order_of (T : Tx Γ) {f : Addr} {fd : FuncData} (F : Fun Γ.K "order_of" "order_of" st_order_of f fd) (hm : Γ.mg "order_of" = some (.ref f)) (hb : Binds Γ.K fd ["ranks"] []) : FnT Pg wd base Γ 1 "order_of" m_order_of :=
  fn_data (N := N_order_of) F hm hb sc_order_of fun cdv A outer s H E H0 ad0 B hr => by
    have tk : L2N.Takes (cxOf (L2N.CX Pg wd) Pg wd Γ.K Γ.mg base N_order_of "order_of" (defScope st_order_of) f cdv A outer s H E) (fun c d _ H => E c d H) := L2N.takes_of rfl rfl rfl rfl
    exact (dss_cons (ds_set (i := 1) sc_order_of.nd rfl (Or.inl rfl) (de_lst da_nil))
  (dss_cons (ds_for (g := (gName 2)) (t := (gN 2)) (passes_of rfl) rfl (di_seq (de_var 0) rfl) (pg_name (i := 2) sc_order_of.nd rfl (Or.inr rfl)) (tg_name (vs := [2]) (by decide)) (dss_one (ds_set (i := 1) sc_order_of.nd rfl (Or.inl rfl) (de_bin or_add os_add (de_lc (own := [("other", 3)]) (g := (gName 3)) (t := (gN 3)) rfl sc_order_of.nd (di_seq (de_var 1) rfl) (blkOk_by (N := N_order_of) (sc := defScope st_order_of) (by decide +kernel)) (fun _ _ _ _ _ => (pg_name (i := 3) sc_order_of.nd rfl (Or.inl rfl))) (fun _ => (tg_name (by decide))) (fun _ _ _ _ _ => dts_nil) (fun _ _ _ _ _ => PE.ex fun _ _ _ => (de_if (dt_cmp op_ge os_ge (de_var 3) (de_var 2) (nomark _)) (de_bin or_add os_add (de_var 3) de_int) (de_var 3)))) (de_lst (da_cons (de_var 2) da_nil))))))
  (dss_one (ds_ret (de_callTy call_tuple_of cs_tuple rfl T.b_tuple (by decide +kernel) (da_cons (de_var 1) da_nil))))))
abbrev st_from_relative : Stmt := topS 13
abbrev N_from_relative : List Str := ["value", "place", "rank"]
theorem sc_from_relative : FnScope N_from_relative ["value"] (defScope st_from_relative) := ⟨rfl, rfl, rfl, by decide +kernel, rfl, by decide +kernel, by decide +kernel⟩
def d_from_relative : LS → Out Fl := (sSeq (sIf (tOu (tNo (tV (eUn (sIsi .tuple) (eVar 0)))) (tNo (tV (eCh sLe sLe (eC (.int 1)) (eB (arg1 sLen) (aCons (eVar 0) aNil)) (eC (.int 10)))))) (sRaise "InvalidRanks") sNx)
  (sSeq (sIf (tNo (tV (eB (arg1 sAll) (aCons (eLc (iEnum (eVar 0)) (gT2 1 2) tYe (eCall m_is_integer (aCons (eVar 2) (aCons (eC (.int 1)) (aCons (eOp sAdd (eVar 1) (eC (.int 1))) aNil)))) [1, 2]) aNil)))) (sRaise "InvalidRanks") sNx)
  (sRet (eCall m_order_of (aCons (eVar 0) aNil)))))
def m_from_relative : List D → GS → FOut := runF 1 3 d_from_relative
theorem mn_from_relative : MnF m_from_relative := mn_run (sa := d_from_relative) (mn_sSeq (mn_sIf (mn_tOu (mn_tNo (mn_tV (mn_eUn mn_sIsi mn_eVar))) (mn_tNo (mn_tV (mn_eCh mn_sLe mn_sLe mn_eC (mn_eB (mn_arg1 mn_sLen) (mn_aCons mn_eVar mn_aNil)) mn_eC)))) mn_sRaise mn_sNx) (mn_sSeq (mn_sIf (mn_tNo (mn_tV (mn_eB (mn_arg1 mn_sAll) (mn_aCons (mn_eLc (mn_iEnum mn_eVar) mn_tYe (mn_eCall mn_is_integer (mn_aCons mn_eVar (mn_aCons mn_eC (mn_aCons (mn_eOp mn_sAdd mn_eVar mn_eC) mn_aNil))))) mn_aNil)))) mn_sRaise mn_sNx) (mn_sRet (mn_eCall mn_order_of (mn_aCons mn_eVar mn_aNil)))))
def x_from_relative : List D → GS → FOut := fastF fFrom m_from_relative
theorem x_from_relative_eq : x_from_relative = m_from_relative := fastF_eq (m := m_from_relative) ok_from
theorem f_from_relative (T : Tx Γ) {f : Addr} {fd : FuncData} (F : Fun Γ.K "from_relative" "from_relative" st_from_relative f fd) (hm : Γ.mg "from_relative" = some (.ref f)) (hb : Binds Γ.K fd ["value"] []) (F_order_of : FnT Pg wd base Γ 1 "order_of" m_order_of) (F_is_integer : FnT Pg wd base Γ 1 "is_integer" m_is_integer) : FnT Pg wd base Γ 2 "from_relative" m_from_relative :=
  fn_data (N := N_from_relative) F hm hb sc_from_relative fun cdv A outer s H E H0 ad0 B hr => by
    have tk : L2N.Takes (cxOf (L2N.CX Pg wd) Pg wd Γ.K Γ.mg base N_from_relative "from_relative" (defScope st_from_relative) f cdv A outer s H E) (fun c d _ H => E c d H) := L2N.takes_of rfl rfl rfl rfl
    exact (dss_cons (ds_if (dt_w (dw_or (dt_not (dt_val (de_isi .tuple (de_var 0) rfl rfl T.b_isinstance rfl T.b_tuple (by decide +kernel)))) (dw_or1 (dt_not (dt_chain op_le op_le os_le os_le de_int (de_callB crr_len cs_len rfl T.b_len PySem.boot_len (da_cons (de_var 0) da_nil)) (de_glob (v := .int 10) rfl T.c_MOST.choose_spec ⟨_, rfl⟩ (fun _ _ _ => .int _))))))) (dss_one (ds_raise rfl tk (T.e_InvalidRanks.choose_spec).xC rfl (T.e_InvalidRanks.choose_spec).gC (T.e_InvalidRanks.choose_spec).kC (raises_own (T.e_InvalidRanks.choose_spec).bC (T.e_InvalidRanks.choose_spec).tC) rfl)) dss_nil)
  (dss_cons (ds_if (dt_not (dt_val (de_callB (cr_all rfl) cs_all rfl T.b_all (by decide +kernel) (da_cons (de_lc (own := [("place", 1), ("rank", 2)]) (g := (gTup Γ.K 2 (gCons (gName 1) (gCons (gName 2) gNil)))) (t := (gT2 1 2)) rfl sc_from_relative.nd (di_enum rfl T.b_enumerate (de_var 0) rfl) (blkOk_by (N := N_from_relative) (sc := defScope st_from_relative) (by decide +kernel)) (fun _ _ _ _ _ => (pg_tup rfl (pgs_cons (pg_name (i := 1) sc_from_relative.nd rfl (Or.inl rfl)) (pgs_cons (pg_name (i := 2) sc_from_relative.nd rfl (Or.inl rfl)) pgs_nil)))) (fun _ => (tg_tup2 (by decide) (by decide))) (fun _ _ _ _ _ => dts_nil) (fun _ _ _ _ _ => PE.ex fun _ _ _ => (de_call F_is_integer rfl rfl (hr.mono (by decide)) takesN rfl (da_cons (de_var 2) (da_cons de_int (da_cons (de_bin or_add os_add (de_var 1) de_int) da_nil)))))) da_nil)))) (dss_one (ds_raise rfl tk (T.e_InvalidRanks.choose_spec).xC rfl (T.e_InvalidRanks.choose_spec).gC (T.e_InvalidRanks.choose_spec).kC (raises_own (T.e_InvalidRanks.choose_spec).bC (T.e_InvalidRanks.choose_spec).tC) rfl)) dss_nil)
  (dss_one (ds_ret (de_call F_order_of rfl rfl (hr.mono (by decide)) tk rfl (da_cons (de_var 0) da_nil))))))
abbrev st_records : Stmt := topS 14
abbrev N_records : List Str := ["order", "place", "rank"]
theorem sc_records : FnScope N_records ["order"] (defScope st_records) := ⟨rfl, rfl, rfl, by decide +kernel, rfl, by decide +kernel, by decide +kernel⟩
def d_records : LS → Out Fl := (sSeq (sEx (eCall m_check_order (aCons (eVar 0) aNil)))
  (sRet (eLc (iEnum (eCall m_relative_of (aCons (eVar 0) aNil))) (gT2 1 2) (tV (eOp sEq (eVar 2) (eC (.int 1)))) (eOp sAdd (eVar 1) (eC (.int 1))) [1, 2])))
def m_records : List D → GS → FOut := runF 1 3 d_records
theorem mn_records : MnF m_records := mn_run (sa := d_records) (mn_sSeq (mn_sEx (mn_eCall mn_check_order (mn_aCons mn_eVar mn_aNil))) (mn_sRet (mn_eLc (mn_iEnum (mn_eCall mn_relative_of (mn_aCons mn_eVar mn_aNil))) (mn_tV (mn_eOp mn_sEq mn_eVar mn_eC)) (mn_eOp mn_sAdd mn_eVar mn_eC))))
def x_records : List D → GS → FOut := fastF fRec m_records
theorem x_records_eq : x_records = m_records := fastF_eq (m := m_records) ok_rec
theorem f_records (T : Tx Γ) {f : Addr} {fd : FuncData} (F : Fun Γ.K "records" "records" st_records f fd) (hm : Γ.mg "records" = some (.ref f)) (hb : Binds Γ.K fd ["order"] []) (F_relative_of : FnT Pg wd base Γ 1 "relative_of" m_relative_of) (F_check_order : FnT Pg wd base Γ 3 "check_order" m_check_order) : FnT Pg wd base Γ 4 "records" m_records :=
  fn_data (N := N_records) F hm hb sc_records fun cdv A outer s H E H0 ad0 B hr => by
    have tk : L2N.Takes (cxOf (L2N.CX Pg wd) Pg wd Γ.K Γ.mg base N_records "records" (defScope st_records) f cdv A outer s H E) (fun c d _ H => E c d H) := L2N.takes_of rfl rfl rfl rfl
    exact (dss_cons (ds_ex (de_call F_check_order rfl rfl (hr.mono (by decide)) tk rfl (da_cons (de_var 0) da_nil)))
  (dss_one (ds_ret (de_lc (own := [("place", 1), ("rank", 2)]) (g := (gTup Γ.K 2 (gCons (gName 1) (gCons (gName 2) gNil)))) (t := (gT2 1 2)) rfl sc_records.nd (di_enum rfl T.b_enumerate (de_call F_relative_of rfl rfl (hr.mono (by decide)) tk rfl (da_cons (de_var 0) da_nil)) rfl) (blkOk_by (N := N_records) (sc := defScope st_records) (by decide +kernel)) (fun _ _ _ _ _ => (pg_tup rfl (pgs_cons (pg_name (i := 1) sc_records.nd rfl (Or.inl rfl)) (pgs_cons (pg_name (i := 2) sc_records.nd rfl (Or.inl rfl)) pgs_nil)))) (fun _ => (tg_tup2 (by decide) (by decide))) (fun _ _ _ _ _ => dts_one (PT.ex fun _ _ _ => (dt_cmp (op_eqD (hr.units)) os_eq (de_var 2) de_int (nomark _)))) (fun _ _ _ _ _ => PE.ex fun _ _ _ => (de_bin or_add os_add (de_var 1) de_int))))))
abbrev st__law_cell_at : Stmt := topS 16
abbrev N__law_cell_at : List Str := ["script", "k", "spare", "again"]
theorem sc__law_cell_at : FnScope N__law_cell_at ["script", "k"] (defScope st__law_cell_at) := ⟨rfl, rfl, rfl, by decide +kernel, rfl, by decide +kernel, by decide +kernel⟩
def d__law_cell_at : LS → Out Fl := (sSeq (sIf (tV (eOp sLt (eVar 1) (eB (arg1 sLen) (aCons (eVar 0) aNil)))) (sRet (eOp sIx (eVar 0) (eVar 1))) sNx)
  (sSeq (sIf (tV (eOp sEq (eVar 0) (eLst aNil))) (sRet (eC (.int 0))) sNx)
  (sSeq (sSet 2 (eOp sIx (eVar 0) (eOp sMod (eVar 1) (eB (arg1 sLen) (aCons (eVar 0) aNil)))))
  (sSeq (sFor (iRng rng1 (aCons (eB (arg2 sMin2) (aCons (eOp sFdiv (eVar 1) (eB (arg1 sLen) (aCons (eVar 0) aNil))) (aCons (eC (.int 60)) aNil))) aNil)) (gN 3) (sSet 2 (eOp sFdiv (eVar 2) (eC (.int 1000003)))))
  (sRet (eOp sAdd (eOp sAdd (eOp sMul (eOp sIx (eVar 0) (eOp sMod (eVar 1) (eB (arg1 sLen) (aCons (eVar 0) aNil)))) (eC (.int 31))) (eVar 1)) (eOp sMul (eVar 2) (eC (.int 101)))))))))
def m__law_cell_at : List D → GS → FOut := runF 2 4 d__law_cell_at
theorem mn__law_cell_at : MnF m__law_cell_at := mn_run (sa := d__law_cell_at) (mn_sSeq (mn_sIf (mn_tV (mn_eOp mn_sLt mn_eVar (mn_eB (mn_arg1 mn_sLen) (mn_aCons mn_eVar mn_aNil)))) (mn_sRet (mn_eOp mn_sIx mn_eVar mn_eVar)) mn_sNx) (mn_sSeq (mn_sIf (mn_tV (mn_eOp mn_sEq mn_eVar (mn_eLst mn_aNil))) (mn_sRet mn_eC) mn_sNx) (mn_sSeq (mn_sSet (mn_eOp mn_sIx mn_eVar (mn_eOp mn_sMod mn_eVar (mn_eB (mn_arg1 mn_sLen) (mn_aCons mn_eVar mn_aNil))))) (mn_sSeq (mn_sFor (mn_iRng mn_rng1 (mn_aCons (mn_eB (mn_arg2 mn_sMin2) (mn_aCons (mn_eOp mn_sFdiv mn_eVar (mn_eB (mn_arg1 mn_sLen) (mn_aCons mn_eVar mn_aNil))) (mn_aCons mn_eC mn_aNil))) mn_aNil)) (mn_sSet (mn_eOp mn_sFdiv mn_eVar mn_eC))) (mn_sRet (mn_eOp mn_sAdd (mn_eOp mn_sAdd (mn_eOp mn_sMul (mn_eOp mn_sIx mn_eVar (mn_eOp mn_sMod mn_eVar (mn_eB (mn_arg1 mn_sLen) (mn_aCons mn_eVar mn_aNil)))) mn_eC) mn_eVar) (mn_eOp mn_sMul mn_eVar mn_eC)))))))
theorem f__law_cell_at (T : Tx Γ) {f : Addr} {fd : FuncData} (F : Fun Γ.K "_law_cell_at" "_law_cell_at" st__law_cell_at f fd) (hm : Γ.mg "_law_cell_at" = some (.ref f)) (hb : Binds Γ.K fd ["script", "k"] []) : FnT Pg wd base Γ 1 "_law_cell_at" m__law_cell_at :=
  fn_data (N := N__law_cell_at) F hm hb sc__law_cell_at fun cdv A outer s H E H0 ad0 B hr => by
    have tk : L2N.Takes (cxOf (L2N.CX Pg wd) Pg wd Γ.K Γ.mg base N__law_cell_at "_law_cell_at" (defScope st__law_cell_at) f cdv A outer s H E) (fun c d _ H => E c d H) := L2N.takes_of rfl rfl rfl rfl
    exact (dss_cons (ds_if (dt_cmp op_lt os_lt (de_var 1) (de_callB crr_len cs_len rfl T.b_len PySem.boot_len (da_cons (de_var 0) da_nil)) (nomark _)) (dss_one (ds_ret (de_ix (de_var 0) (de_var 1)))) dss_nil)
  (dss_cons (ds_if (dt_cmp (op_eqD (hr.units)) os_eq (de_var 0) (de_lst da_nil) (nomark _)) (dss_one (ds_ret de_int)) dss_nil)
  (dss_cons (ds_set (i := 2) sc__law_cell_at.nd rfl (Or.inl rfl) (de_ix (de_var 0) (de_bin op_mod os_mod (de_var 1) (de_callB crr_len cs_len rfl T.b_len PySem.boot_len (da_cons (de_var 0) da_nil)))))
  (dss_cons (ds_for (g := (gName 3)) (t := (gN 3)) (passes_of rfl) rfl (di_rng1 rfl T.b_range (da_cons (de_callB (call_min2 rfl) cs_min2 rfl T.b_min (by decide +kernel) (da_cons (de_bin op_fdivW os_fdiv (de_var 1) (de_callB crr_len cs_len rfl T.b_len PySem.boot_len (da_cons (de_var 0) da_nil))) (da_cons de_int da_nil))) da_nil)) (pg_name (i := 3) sc__law_cell_at.nd rfl (Or.inl rfl)) (tg_name (vs := [3]) (by decide)) (dss_one (ds_set (i := 2) sc__law_cell_at.nd rfl (Or.inl rfl) (de_bin op_fdivW os_fdiv (de_var 2) de_int))))
  (dss_one (ds_ret (de_bin or_add os_add (de_bin or_add os_add (de_bin or_mul os_mul (de_ix (de_var 0) (de_bin op_mod os_mod (de_var 1) (de_callB crr_len cs_len rfl T.b_len PySem.boot_len (da_cons (de_var 0) da_nil)))) de_int) (de_var 1)) (de_bin or_mul os_mul (de_var 2) de_int))))))))
abbrev st__law_mixed : Stmt := topS 17
abbrev N__law_mixed : List Str := ["script", "k", "many", "spun"]
theorem sc__law_mixed : FnScope N__law_mixed ["script", "k", "many"] (defScope st__law_mixed) := ⟨rfl, rfl, rfl, by decide +kernel, rfl, by decide +kernel, by decide +kernel⟩
def d__law_mixed : LS → Out Fl := (sSeq (sSet 3 (eOp sMod (eOp sAdd (eOp sAdd (eOp sMul (eCall m__law_cell_at (aCons (eVar 0) (aCons (eVar 1) aNil))) (eC (.int 1103515245))) (eOp sMul (eC (.int 7919)) (eVar 1))) (eC (.int 12345))) (eC (.int 2147483647))))
  (sRet (eOp sMod (eOp sMod (eOp sMod (eOp sPow (eVar 3) (eC (.int 5))) (eC (.int 2147483647))) (eC (.int 999983))) (eVar 2))))
def m__law_mixed : List D → GS → FOut := runF 3 4 d__law_mixed
theorem mn__law_mixed : MnF m__law_mixed := mn_run (sa := d__law_mixed) (mn_sSeq (mn_sSet (mn_eOp mn_sMod (mn_eOp mn_sAdd (mn_eOp mn_sAdd (mn_eOp mn_sMul (mn_eCall mn__law_cell_at (mn_aCons mn_eVar (mn_aCons mn_eVar mn_aNil))) mn_eC) (mn_eOp mn_sMul mn_eC mn_eVar)) mn_eC) mn_eC)) (mn_sRet (mn_eOp mn_sMod (mn_eOp mn_sMod (mn_eOp mn_sMod (mn_eOp mn_sPow mn_eVar mn_eC) mn_eC) mn_eC) mn_eVar)))
theorem f__law_mixed (T : Tx Γ) {f : Addr} {fd : FuncData} (F : Fun Γ.K "_law_mixed" "_law_mixed" st__law_mixed f fd) (hm : Γ.mg "_law_mixed" = some (.ref f)) (hb : Binds Γ.K fd ["script", "k", "many"] []) (F__law_cell_at : FnT Pg wd base Γ 1 "_law_cell_at" m__law_cell_at) : FnT Pg wd base Γ 2 "_law_mixed" m__law_mixed :=
  fn_data (N := N__law_mixed) F hm hb sc__law_mixed fun cdv A outer s H E H0 ad0 B hr => by
    have tk : L2N.Takes (cxOf (L2N.CX Pg wd) Pg wd Γ.K Γ.mg base N__law_mixed "_law_mixed" (defScope st__law_mixed) f cdv A outer s H E) (fun c d _ H => E c d H) := L2N.takes_of rfl rfl rfl rfl
    exact (dss_cons (ds_set (i := 3) sc__law_mixed.nd rfl (Or.inl rfl) (de_bin op_mod os_mod (de_bin or_add os_add (de_bin or_add os_add (de_bin or_mul os_mul (de_call F__law_cell_at rfl rfl (hr.mono (by decide)) tk rfl (da_cons (de_var 0) (da_cons (de_var 1) da_nil))) de_int) (de_bin or_mul os_mul de_int (de_var 1))) de_int) de_int))
  (dss_one (ds_ret (de_bin op_mod os_mod (de_bin op_mod os_mod (de_bin op_mod os_mod (de_bin op_pow os_pow (de_var 3) de_int) de_int) de_int) (de_var 2)))))
abbrev st__law_draw : Stmt := topS 18
abbrev N__law_draw : List Str := ["script", "town", "many"]
theorem sc__law_draw : FnScope N__law_draw ["script", "town", "many"] (defScope st__law_draw) := ⟨rfl, rfl, rfl, by decide +kernel, rfl, by decide +kernel, by decide +kernel⟩
def d__law_draw : LS → Out Fl := (sSeq (sTown 1)
  (sRet (eCall m__law_mixed (aCons (eVar 0) (aCons (eB (arg1 sLen) (aCons (eVar 1) aNil)) (aCons (eVar 2) aNil))))))
def m__law_draw : List D → GS → FOut := runF 3 3 d__law_draw
theorem f__law_draw (T : Tx Γ) {f : Addr} {fd : FuncData} (F : Fun Γ.K "_law_draw" "_law_draw" st__law_draw f fd) (hm : Γ.mg "_law_draw" = some (.ref f)) (hb : Binds Γ.K fd ["script", "town", "many"] []) (F__law_mixed : FnT Pg wd base Γ 2 "_law_mixed" m__law_mixed) : FnT Pg wd base Γ 3 "_law_draw" m__law_draw :=
  fn_data (N := N__law_draw) F hm hb sc__law_draw fun cdv A outer s H E H0 ad0 B hr => by
    have tk : L2N.Takes (cxOf (L2N.CX Pg wd) Pg wd Γ.K Γ.mg base N__law_draw "_law_draw" (defScope st__law_draw) f cdv A outer s H E) (fun c d _ H => E c d H) := L2N.takes_of rfl rfl rfl rfl
    exact (dss_cons (ds_town (i := 1) rfl)
  (dss_one (ds_ret (de_call F__law_mixed rfl rfl (hr.mono (by decide)) tk rfl (da_cons (de_var 0) (da_cons (de_callB crr_len cs_len rfl T.b_len PySem.boot_len (da_cons (de_var 1) da_nil)) (da_cons (de_var 2) da_nil)))))))
abbrev st__law_all_orders : Stmt := topS 19
abbrev N__law_all_orders : List Str := ["n", "some", "again", "longer", "own", "rank"]
theorem sc__law_all_orders : FnScope N__law_all_orders ["n"] (defScope st__law_all_orders) := ⟨rfl, rfl, rfl, by decide +kernel, rfl, by decide +kernel, by decide +kernel⟩
def d__law_all_orders : LS → Out Fl := (sSeq (sSet 1 (eLst (aCons (eTup aNil) aNil)))
  (sSeq (sFor (iRng rng1 (aCons (eVar 0) aNil)) (gN 2) (sSeq (sSet 3 (eLstO aNil))
  (sSeq (sFor (iSeq (eVar 1)) (gN 4) (sMut mExt 3 (eLc (iRng rng2 (aCons (eC (.int 1)) (aCons (eOp sAdd (eVar 0) (eC (.int 1))) aNil))) (gN 5) (tV (eOp sNotIn (eVar 5) (eVar 4))) (eOp sAdd (eVar 4) (eTup (aCons (eVar 5) aNil))) [5])))
  (sSet 1 (eVar 3)))))
  (sRet (eVar 1))))
def m__law_all_orders : List D → GS → FOut := runF 1 6 d__law_all_orders
theorem mn__law_all_orders : MnF m__law_all_orders := mn_run (sa := d__law_all_orders) (mn_sSeq (mn_sSet (mn_eLst (mn_aCons (mn_eTup mn_aNil) mn_aNil))) (mn_sSeq (mn_sFor (mn_iRng mn_rng1 (mn_aCons mn_eVar mn_aNil)) (mn_sSeq (mn_sSet (mn_eLstO mn_aNil)) (mn_sSeq (mn_sFor (mn_iSeq mn_eVar) (mn_sMut (mn_eLc (mn_iRng mn_rng2 (mn_aCons mn_eC (mn_aCons (mn_eOp mn_sAdd mn_eVar mn_eC) mn_aNil))) (mn_tV (mn_eOp mn_sNotIn mn_eVar mn_eVar)) (mn_eOp mn_sAdd mn_eVar (mn_eTup (mn_aCons mn_eVar mn_aNil)))))) (mn_sSet mn_eVar)))) (mn_sRet mn_eVar)))
def x__law_all_orders : List D → GS → FOut := fastT fAll m__law_all_orders
theorem x__law_all_orders_eq : x__law_all_orders = m__law_all_orders := fastT_eq mn__law_all_orders (ok_all (by decide +kernel) (by decide +kernel) (by decide +kernel) (by decide +kernel) (by decide +kernel))
theorem f__law_all_orders (T : Tx Γ) {f : Addr} {fd : FuncData} (F : Fun Γ.K "_law_all_orders" "_law_all_orders" st__law_all_orders f fd) (hm : Γ.mg "_law_all_orders" = some (.ref f)) (hb : Binds Γ.K fd ["n"] []) : FnT Pg wd base Γ 1 "_law_all_orders" m__law_all_orders :=
  fn_data (N := N__law_all_orders) F hm hb sc__law_all_orders fun cdv A outer s H E H0 ad0 B hr => by
    have tk : L2N.Takes (cxOf (L2N.CX Pg wd) Pg wd Γ.K Γ.mg base N__law_all_orders "_law_all_orders" (defScope st__law_all_orders) f cdv A outer s H E) (fun c d _ H => E c d H) := L2N.takes_of rfl rfl rfl rfl
    exact (dss_cons (ds_set (i := 1) sc__law_all_orders.nd rfl (Or.inl rfl) (de_lst (da_cons (de_tup da_nil) da_nil)))
  (dss_cons (ds_for (g := (gName 2)) (t := (gN 2)) (passes_of rfl) rfl (di_rng1 rfl T.b_range (da_cons (de_var 0) da_nil)) (pg_name (i := 2) sc__law_all_orders.nd rfl (Or.inl rfl)) (tg_name (vs := [2]) (by decide)) (dss_cons (ds_set (i := 3) sc__law_all_orders.nd rfl (Or.inl rfl) (de_lstO da_nil))
  (dss_cons (ds_for (g := (gName 4)) (t := (gN 4)) (passes_of rfl) rfl (di_seq (de_var 1) rfl) (pg_name (i := 4) sc__law_all_orders.nd rfl (Or.inr rfl)) (tg_name (vs := [4]) (by decide)) (dss_one (ds_mut (i := 3) ms_ext PySem.F.plainAttrs_list PySem.F.slot_list_extend PySem.F.type_list_extend mt_extend (de_lc (own := [("rank", 5)]) (g := (gName 5)) (t := (gN 5)) rfl sc__law_all_orders.nd (di_rng2 rfl T.b_range (da_cons de_int (da_cons (de_bin or_add os_add (de_var 0) de_int) da_nil))) (blkOk_by (N := N__law_all_orders) (sc := defScope st__law_all_orders) (by decide +kernel)) (fun _ _ _ _ _ => (pg_name (i := 5) sc__law_all_orders.nd rfl (Or.inl rfl))) (fun _ => (tg_name (by decide))) (fun _ _ _ _ _ => dts_one (PT.ex fun _ _ _ => (dt_cmp or_notIn os_notIn (de_var 5) (de_var 4) (by with_unfolding_all rfl)))) (fun _ _ _ _ _ => PE.ex fun _ _ _ => (de_bin or_add os_add (de_var 4) (de_tup (da_cons (de_var 5) da_nil))))) rfl)))
  (dss_one (ds_set (i := 1) sc__law_all_orders.nd rfl (Or.inl rfl) (de_var 3))))))
  (dss_one (ds_ret (de_var 1)))))
abbrev st_law : Stmt := topS 20
abbrev N_law : List Str := ["script", "town", "n", "i", "j", "own", "some", "place", "first", "a", "b", "orders_here", "count", "seen", "ranks", "longer", "rank"]
theorem sc_law : FnScope N_law ["script"] (defScope st_law) := ⟨rfl, rfl, rfl, by decide +kernel, rfl, by decide +kernel, by decide +kernel⟩
def c_law_0 : LS → Out Fl := (sSet 1 eTown)
def c_law_1 : LS → Out Fl := (sSet 2 (eOp sAdd (eC (.int 2)) (eCall m__law_draw (aCons (eVar 0) (aCons (eVar 1) (aCons (eC (.int 4)) aNil))))))
def c_law_2 : LS → Out Fl := (sSet 3 (eOp sAdd (eC (.int 1)) (eCall m__law_draw (aCons (eVar 0) (aCons (eVar 1) (aCons (eOp sSub (eVar 2) (eC (.int 1))) aNil))))))
def c_law_3 : LS → Out Fl := (sSet 4 (eOp sAdd (eOp sAdd (eVar 3) (eC (.int 1))) (eCall m__law_draw (aCons (eVar 0) (aCons (eVar 1) (aCons (eOp sSub (eVar 2) (eVar 3)) aNil))))))
def c_law_4 : LS → Out Fl := (sAsg (gT2 9 10) (eTup (aCons (eOp sAdd (eC (.int 1)) (eCall m__law_draw (aCons (eVar 0) (aCons (eVar 1) (aCons (eVar 3) aNil))))) (aCons (eOp sAdd (eC (.int 1)) (eCall m__law_draw (aCons (eVar 0) (aCons (eVar 1) (aCons (eVar 4) aNil))))) aNil))))
def c_law_5 : LS → Out Fl := (sPar3 11 12 13 (aCons (eCall m__law_all_orders (aCons (eVar 2) aNil)) (aCons (eC (.int 0)) (aCons (eLstO aNil) aNil))))
theorem mn_c_law_5 : Mn c_law_5 := (mn_sPar3 (mn_aCons (mn_eCall mn__law_all_orders (mn_aCons mn_eVar mn_aNil)) (mn_aCons mn_eC (mn_aCons (mn_eLstO mn_aNil) mn_aNil))))
def cx_law_5 : LS → Out Fl := (sPar3 11 12 13 (aCons (eCall x__law_all_orders (aCons (eVar 2) aNil)) (aCons (eC (.int 0)) (aCons (eLstO aNil) aNil))))
theorem cx_law_5_eq : cx_law_5 = c_law_5 := by simp only [cx_law_5, c_law_5, x__law_all_orders_eq]
def c_law_6 : LS → Out Fl := (sFor (iSeq (eVar 11)) (gN 5) (sSeq (sSet 14 (eCall m_relative (aCons (eVar 5) aNil)))
  (sSeq (sMut mApp 13 (eVar 14))
  (sSeq (sIf (tAn (tV (eOp sEq (eOp sIx (eVar 14) (eOp sSub (eVar 3) (eC (.int 1)))) (eVar 9))) (tV (eOp sEq (eOp sIx (eVar 14) (eOp sSub (eVar 4) (eC (.int 1)))) (eVar 10)))) (sAug 12 (eC (.int 1))) sNx)
  (sIf (tOu (tV (eOp sNe (eCall m_from_relative (aCons (eVar 14) aNil)) (eVar 5))) (tV (eOp sNe (eB (arg1 sLen) (aCons (eCall m_records (aCons (eVar 5) aNil)) aNil)) (eB (arg1 sLen) (aCons (eLc (iSeq (eVar 14)) (gN 16) (tV (eOp sEq (eVar 16) (eC (.int 1)))) (eC (.int 1)) [16]) aNil))))) (sRet (eC (.bl false))) sNx)))))
theorem mn_c_law_6 : Mn c_law_6 := (mn_sFor (mn_iSeq mn_eVar) (mn_sSeq (mn_sSet (mn_eCall mn_relative (mn_aCons mn_eVar mn_aNil))) (mn_sSeq (mn_sMut mn_eVar) (mn_sSeq (mn_sIf (mn_tAn (mn_tV (mn_eOp mn_sEq (mn_eOp mn_sIx mn_eVar (mn_eOp mn_sSub mn_eVar mn_eC)) mn_eVar)) (mn_tV (mn_eOp mn_sEq (mn_eOp mn_sIx mn_eVar (mn_eOp mn_sSub mn_eVar mn_eC)) mn_eVar))) (mn_sAug mn_eC) mn_sNx) (mn_sIf (mn_tOu (mn_tV (mn_eOp mn_sNe (mn_eCall mn_from_relative (mn_aCons mn_eVar mn_aNil)) mn_eVar)) (mn_tV (mn_eOp mn_sNe (mn_eB (mn_arg1 mn_sLen) (mn_aCons (mn_eCall mn_records (mn_aCons mn_eVar mn_aNil)) mn_aNil)) (mn_eB (mn_arg1 mn_sLen) (mn_aCons (mn_eLc (mn_iSeq mn_eVar) (mn_tV (mn_eOp mn_sEq mn_eVar mn_eC)) mn_eC) mn_aNil))))) (mn_sRet mn_eC) mn_sNx)))))
def cx_law_6 : LS → Out Fl := (sFor (iSeq (eVar 11)) (gN 5) (sSeq (sSet 14 (eCall x_relative (aCons (eVar 5) aNil)))
  (sSeq (sMut mApp 13 (eVar 14))
  (sSeq (sIf (tAn (tV (eOp sEq (eOp sIx (eVar 14) (eOp sSub (eVar 3) (eC (.int 1)))) (eVar 9))) (tV (eOp sEq (eOp sIx (eVar 14) (eOp sSub (eVar 4) (eC (.int 1)))) (eVar 10)))) (sAug 12 (eC (.int 1))) sNx)
  (sIf (tOu (tV (eOp sNe (eCall x_from_relative (aCons (eVar 14) aNil)) (eVar 5))) (tV (eOp sNe (eB (arg1 sLen) (aCons (eCall x_records (aCons (eVar 5) aNil)) aNil)) (eB (arg1 sLen) (aCons (eLc (iSeq (eVar 14)) (gN 16) (tV (eOp sEq (eVar 16) (eC (.int 1)))) (eC (.int 1)) [16]) aNil))))) (sRet (eC (.bl false))) sNx)))))
theorem cx_law_6_eq : cx_law_6 = c_law_6 := by simp only [cx_law_6, c_law_6, x_relative_eq, x_from_relative_eq, x_records_eq]
def c_law_7 : LS → Out Fl := (sIf (tOu (tV (eOp sNe (eOp sMul (eOp sMul (eVar 12) (eVar 3)) (eVar 4)) (eB (arg1 sLen) (aCons (eVar 11) aNil)))) (tV (eOp sNe (eUn sLsT (eVar 13)) (eB (arg1 sLen) (aCons (eVar 13) aNil))))) (sRet (eC (.bl false))) sNx)
theorem mn_c_law_7 : Mn c_law_7 := (mn_sIf (mn_tOu (mn_tV (mn_eOp mn_sNe (mn_eOp mn_sMul (mn_eOp mn_sMul mn_eVar mn_eVar) mn_eVar) (mn_eB (mn_arg1 mn_sLen) (mn_aCons mn_eVar mn_aNil)))) (mn_tV (mn_eOp mn_sNe (mn_eUn mn_sLsT mn_eVar) (mn_eB (mn_arg1 mn_sLen) (mn_aCons mn_eVar mn_aNil))))) (mn_sRet mn_eC) mn_sNx)
def c_law_8 : LS → Out Fl := (sSet 6 (eLst (aCons (eTup aNil) aNil)))
theorem mn_c_law_8 : Mn c_law_8 := (mn_sSet (mn_eLst (mn_aCons (mn_eTup mn_aNil) mn_aNil)))
def c_law_9 : LS → Out Fl := (sFor (iRng rng2 (aCons (eC (.int 1)) (aCons (eOp sAdd (eVar 2) (eC (.int 1))) aNil))) (gN 7) (sSeq (sSet 15 (eLstO aNil))
  (sSeq (sFor (iSeq (eVar 6)) (gN 14) (sMut mExt 15 (eLc (iRng rng2 (aCons (eC (.int 1)) (aCons (eOp sAdd (eVar 7) (eC (.int 1))) aNil))) (gN 16) tYe (eOp sAdd (eVar 14) (eTup (aCons (eVar 16) aNil))) [16])))
  (sSet 6 (eVar 15)))))
theorem mn_c_law_9 : Mn c_law_9 := (mn_sFor (mn_iRng mn_rng2 (mn_aCons mn_eC (mn_aCons (mn_eOp mn_sAdd mn_eVar mn_eC) mn_aNil))) (mn_sSeq (mn_sSet (mn_eLstO mn_aNil)) (mn_sSeq (mn_sFor (mn_iSeq mn_eVar) (mn_sMut (mn_eLc (mn_iRng mn_rng2 (mn_aCons mn_eC (mn_aCons (mn_eOp mn_sAdd mn_eVar mn_eC) mn_aNil))) mn_tYe (mn_eOp mn_sAdd mn_eVar (mn_eTup (mn_aCons mn_eVar mn_aNil)))))) (mn_sSet mn_eVar))))
def c_law_10 : LS → Out Fl := (sIf (tOu (tV (eOp sNe (eB (arg1 sSortM) (aCons (eVar 13) aNil)) (eVar 6))) (tV (eOp sNe (eB (arg1 sSortM) (aCons (eLc (iSeq (eVar 6)) (gN 14) tYe (eCall m_from_relative (aCons (eVar 14) aNil)) [14]) aNil)) (eVar 11)))) (sRet (eC (.bl false))) sNx)
theorem mn_c_law_10 : Mn c_law_10 := (mn_sIf (mn_tOu (mn_tV (mn_eOp mn_sNe (mn_eB (mn_arg1 mn_sSortM) (mn_aCons mn_eVar mn_aNil)) mn_eVar)) (mn_tV (mn_eOp mn_sNe (mn_eB (mn_arg1 mn_sSortM) (mn_aCons (mn_eLc (mn_iSeq mn_eVar) mn_tYe (mn_eCall mn_from_relative (mn_aCons mn_eVar mn_aNil))) mn_aNil)) mn_eVar))) (mn_sRet mn_eC) mn_sNx)
def cx_law_10 : LS → Out Fl := (sIf (tOu (tV (eOp sNe (eB (arg1 sSortM) (aCons (eVar 13) aNil)) (eVar 6))) (tV (eOp sNe (eB (arg1 sSortM) (aCons (eLc (iSeq (eVar 6)) (gN 14) tYe (eCall x_from_relative (aCons (eVar 14) aNil)) [14]) aNil)) (eVar 11)))) (sRet (eC (.bl false))) sNx)
theorem cx_law_10_eq : cx_law_10 = c_law_10 := by simp only [cx_law_10, c_law_10, x_from_relative_eq]
def c_law_11 : LS → Out Fl := (sSet 8 (eIf (tV (eOp sLe (eVar 9) (eVar 2))) (eLc (iSeq (eVar 11)) (gN 5) (tV (eOp sEq (eOp sIx (eVar 5) (eC (.int 0))) (eVar 9))) (eVar 5) [5]) (eLst aNil)))
theorem mn_c_law_11 : Mn c_law_11 := (mn_sSet (mn_eIf (mn_tV (mn_eOp mn_sLe mn_eVar mn_eVar)) (mn_eLc (mn_iSeq mn_eVar) (mn_tV (mn_eOp mn_sEq (mn_eOp mn_sIx mn_eVar mn_eC) mn_eVar)) mn_eVar) (mn_eLst mn_aNil)))
def c_law_12 : LS → Out Fl := (sRet (eAn (eOp sIs (eCall m_is_order (aCons (eOp sIx (eVar 11) (eUn sNeg (eC (.int 1)))) aNil)) (eC (.bl true))) (eOp sEq (eOp sMul (eB (arg1 sLen) (aCons (eVar 8) aNil)) (eVar 2)) (eB (arg1 sLen) (aCons (eVar 11) aNil)))))
theorem mn_c_law_12 : Mn c_law_12 := (mn_sRet (mn_eAn (mn_eOp mn_sIs (mn_eCall mn_is_order (mn_aCons (mn_eOp mn_sIx mn_eVar (mn_eUn mn_sNeg mn_eC)) mn_aNil)) mn_eC) (mn_eOp mn_sEq (mn_eOp mn_sMul (mn_eB (mn_arg1 mn_sLen) (mn_aCons mn_eVar mn_aNil)) mn_eVar) (mn_eB (mn_arg1 mn_sLen) (mn_aCons mn_eVar mn_aNil)))))
def cx_law_12 : LS → Out Fl := (sRet (eAn (eOp sIs (eCall x_is_order (aCons (eOp sIx (eVar 11) (eUn sNeg (eC (.int 1)))) aNil)) (eC (.bl true))) (eOp sEq (eOp sMul (eB (arg1 sLen) (aCons (eVar 8) aNil)) (eVar 2)) (eB (arg1 sLen) (aCons (eVar 11) aNil)))))
theorem cx_law_12_eq : cx_law_12 = c_law_12 := by simp only [cx_law_12, c_law_12, x_is_order_eq]
def d_law : LS → Out Fl := (sSeq c_law_0 (sSeq c_law_1 (sSeq c_law_2 (sSeq c_law_3 (sSeq c_law_4 (sSeq c_law_5 (sSeq c_law_6 (sSeq c_law_7 (sSeq c_law_8 (sSeq c_law_9 (sSeq c_law_10 (sSeq c_law_11 c_law_12))))))))))))
def m_law : List D → GS → FOut := runF 1 17 d_law
theorem f_law (T : Tx Γ) {f : Addr} {fd : FuncData} (F : Fun Γ.K "law" "law" st_law f fd) (F__law_draw : FnT Pg wd base Γ 3 "_law_draw" m__law_draw) (F__law_all_orders : FnT Pg wd base Γ 1 "_law_all_orders" m__law_all_orders) (F_records : FnT Pg wd base Γ 4 "records" m_records) (F_from_relative : FnT Pg wd base Γ 2 "from_relative" m_from_relative) (F_relative : FnT Pg wd base Γ 4 "relative" m_relative) (F_is_order : FnT Pg wd base Γ 2 "is_order" m_is_order) : FnOk Pg wd Γ.K Γ.mg base (L2N.CX Pg wd) 5 f fd ["script"] (spF Γ m_law) :=
  fn_ok (N := N_law) F sc_law fun cdv A outer s H E H0 ad0 B hr => by
    have tk : L2N.Takes (cxOf (L2N.CX Pg wd) Pg wd Γ.K Γ.mg base N_law "law" (defScope st_law) f cdv A outer s H E) (fun c d _ H => E c d H) := L2N.takes_of rfl rfl rfl rfl
    exact (dss_cons (ds_set (i := 1) sc_law.nd rfl (Or.inl rfl) de_town)
  (dss_cons (ds_set (i := 2) sc_law.nd rfl (Or.inl rfl) (de_bin or_add os_add de_int (de_call F__law_draw rfl rfl (hr.mono (by decide)) tk rfl (da_cons (de_var 0) (da_cons (de_var 1) (da_cons de_int da_nil))))))
  (dss_cons (ds_set (i := 3) sc_law.nd rfl (Or.inl rfl) (de_bin or_add os_add de_int (de_call F__law_draw rfl rfl (hr.mono (by decide)) tk rfl (da_cons (de_var 0) (da_cons (de_var 1) (da_cons (de_bin op_sub os_sub (de_var 2) de_int) da_nil))))))
  (dss_cons (ds_set (i := 4) sc_law.nd rfl (Or.inl rfl) (de_bin or_add os_add (de_bin or_add os_add (de_var 3) de_int) (de_call F__law_draw rfl rfl (hr.mono (by decide)) tk rfl (da_cons (de_var 0) (da_cons (de_var 1) (da_cons (de_bin op_sub os_sub (de_var 2) (de_var 3)) da_nil))))))
  (dss_cons (ds_asg (g := (gTup Γ.K 2 (gCons (gName 9) (gCons (gName 10) gNil)))) (t := (gT2 9 10)) (de_tup (da_cons (de_bin or_add os_add de_int (de_call F__law_draw rfl rfl (hr.mono (by decide)) tk rfl (da_cons (de_var 0) (da_cons (de_var 1) (da_cons (de_var 3) da_nil))))) (da_cons (de_bin or_add os_add de_int (de_call F__law_draw rfl rfl (hr.mono (by decide)) tk rfl (da_cons (de_var 0) (da_cons (de_var 1) (da_cons (de_var 4) da_nil))))) da_nil))) (pg_tup rfl (pgs_cons (pg_name (i := 9) sc_law.nd rfl (Or.inr rfl)) (pgs_cons (pg_name (i := 10) sc_law.nd rfl (Or.inl rfl)) pgs_nil))) (tg_tup2 (vs := [9, 10]) (by decide) (by decide)))
  (dss_cons (ds_par3 (i := 11) (j := 12) (l := 13) rfl sc_law.nd rfl rfl rfl (by decide) (by decide) (by decide) rfl rfl rfl (da_cons (de_call F__law_all_orders rfl rfl (hr.mono (by decide)) tk rfl (da_cons (de_var 2) da_nil)) (da_cons de_int (da_cons (de_lstO da_nil) da_nil))) rfl)
  (dss_cons (ds_for (g := (gName 5)) (t := (gN 5)) (passes_of rfl) rfl (di_seq (de_var 11) rfl) (pg_name (i := 5) sc_law.nd rfl (Or.inl rfl)) (tg_name (vs := [5]) (by decide)) (dss_cons (ds_set (i := 14) sc_law.nd rfl (Or.inr rfl) (de_call F_relative rfl rfl (hr.mono (by decide)) tk rfl (da_cons (de_var 5) da_nil)))
  (dss_cons (ds_mut (i := 13) ms_app PySem.F.plainAttrs_list PySem.F.slot_list_append PySem.F.type_list_append mt_append (de_var 14) rfl)
  (dss_cons (ds_if (dt_w (dw_and (dt_cmp (op_eqD (hr.units)) os_eq (de_ix (de_var 14) (de_bin op_sub os_sub (de_var 3) de_int)) (de_var 9) (nomark _)) (dw_and1 (dt_cmp (op_eqD (hr.units)) os_eq (de_ix (de_var 14) (de_bin op_sub os_sub (de_var 4) de_int)) (de_var 10) (nomark _))))) (dss_one (ds_aug (i := 12) sc_law.nd rfl (Or.inl rfl) de_int)) dss_nil)
  (dss_one (ds_if (dt_w (dw_or (dt_cmp (op_neD (hr.units)) os_ne (de_call F_from_relative rfl rfl (hr.mono (by decide)) tk rfl (da_cons (de_var 14) da_nil)) (de_var 5) (nomark _)) (dw_or1 (dt_cmp (op_neD (hr.units)) os_ne (de_callB crr_len cs_len rfl T.b_len PySem.boot_len (da_cons (de_call F_records rfl rfl (hr.mono (by decide)) tk rfl (da_cons (de_var 5) da_nil)) da_nil)) (de_callB crr_len cs_len rfl T.b_len PySem.boot_len (da_cons (de_lc (own := [("rank", 16)]) (g := (gName 16)) (t := (gN 16)) rfl sc_law.nd (di_seq (de_var 14) rfl) (blkOk_by (N := N_law) (sc := defScope st_law) (by decide +kernel)) (fun _ _ _ _ _ => (pg_name (i := 16) sc_law.nd rfl (Or.inl rfl))) (fun _ => (tg_name (by decide))) (fun _ _ _ _ _ => dts_one (PT.ex fun _ _ _ => (dt_cmp (op_eqD (hr.units)) os_eq (de_var 16) de_int (nomark _)))) (fun _ _ _ _ _ => PE.ex fun _ _ _ => de_int)) da_nil)) (nomark _))))) (dss_one (ds_ret de_bl)) dss_nil))))))
  (dss_cons (ds_if (dt_w (dw_or (dt_cmp (op_neD (hr.units)) os_ne (de_bin or_mul os_mul (de_bin or_mul os_mul (de_var 12) (de_var 3)) (de_var 4)) (de_callB crr_len cs_len rfl T.b_len PySem.boot_len (da_cons (de_var 11) da_nil)) (nomark _)) (dw_or1 (dt_cmp (op_neD (hr.units)) os_ne (de_lenSetT rfl (room65 hr) rfl T.b_len rfl T.b_set (de_var 13)) (de_callB crr_len cs_len rfl T.b_len PySem.boot_len (da_cons (de_var 13) da_nil)) (nomark _))))) (dss_one (ds_ret de_bl)) dss_nil)
  (dss_cons (ds_set (i := 6) sc_law.nd rfl (Or.inl rfl) (de_lst (da_cons (de_tup da_nil) da_nil)))
  (dss_cons (ds_for (g := (gName 7)) (t := (gN 7)) (passes_of rfl) rfl (di_rng2 rfl T.b_range (da_cons de_int (da_cons (de_bin or_add os_add (de_var 2) de_int) da_nil))) (pg_name (i := 7) sc_law.nd rfl (Or.inl rfl)) (tg_name (vs := [7]) (by decide)) (dss_cons (ds_set (i := 15) sc_law.nd rfl (Or.inl rfl) (de_lstO da_nil))
  (dss_cons (ds_for (g := (gName 14)) (t := (gN 14)) (passes_of rfl) rfl (di_seq (de_var 6) rfl) (pg_name (i := 14) sc_law.nd rfl (Or.inr rfl)) (tg_name (vs := [14]) (by decide)) (dss_one (ds_mut (i := 15) ms_ext PySem.F.plainAttrs_list PySem.F.slot_list_extend PySem.F.type_list_extend mt_extend (de_lc (own := [("rank", 16)]) (g := (gName 16)) (t := (gN 16)) rfl sc_law.nd (di_rng2 rfl T.b_range (da_cons de_int (da_cons (de_bin or_add os_add (de_var 7) de_int) da_nil))) (blkOk_by (N := N_law) (sc := defScope st_law) (by decide +kernel)) (fun _ _ _ _ _ => (pg_name (i := 16) sc_law.nd rfl (Or.inl rfl))) (fun _ => (tg_name (by decide))) (fun _ _ _ _ _ => dts_nil) (fun _ _ _ _ _ => PE.ex fun _ _ _ => (de_bin or_add os_add (de_var 14) (de_tup (da_cons (de_var 16) da_nil))))) rfl)))
  (dss_one (ds_set (i := 6) sc_law.nd rfl (Or.inl rfl) (de_var 15))))))
  (dss_cons (ds_if (dt_w (dw_or (dt_cmp (op_neD (hr.units)) os_ne (de_callB (cr_sortM (room65 hr)) cs_sortM rfl T.b_sorted (by decide +kernel) (da_cons (de_var 13) da_nil)) (de_var 6) (nomark _)) (dw_or1 (dt_cmp (op_neD (hr.units)) os_ne (de_callB (cr_sortM (room65 hr)) cs_sortM rfl T.b_sorted (by decide +kernel) (da_cons (de_lc (own := [("ranks", 14)]) (g := (gName 14)) (t := (gN 14)) rfl sc_law.nd (di_seq (de_var 6) rfl) (blkOk_by (N := N_law) (sc := defScope st_law) (by decide +kernel)) (fun _ _ _ _ _ => (pg_name (i := 14) sc_law.nd rfl (Or.inl rfl))) (fun _ => (tg_name (by decide))) (fun _ _ _ _ _ => dts_nil) (fun _ _ _ _ _ => PE.ex fun _ _ _ => (de_call F_from_relative rfl rfl (hr.mono (by decide)) takesN rfl (da_cons (de_var 14) da_nil)))) da_nil)) (de_var 11) (nomark _))))) (dss_one (ds_ret de_bl)) dss_nil)
  (dss_cons (ds_set (i := 8) sc_law.nd rfl (Or.inl rfl) (de_if (dt_cmp op_le os_le (de_var 9) (de_var 2) (nomark _)) (de_lc (own := [("own", 5)]) (g := (gName 5)) (t := (gN 5)) rfl sc_law.nd (di_seq (de_var 11) rfl) (blkOk_by (N := N_law) (sc := defScope st_law) (by decide +kernel)) (fun _ _ _ _ _ => (pg_name (i := 5) sc_law.nd rfl (Or.inl rfl))) (fun _ => (tg_name (by decide))) (fun _ _ _ _ _ => dts_one (PT.ex fun _ _ _ => (dt_cmp (op_eqD (hr.units)) os_eq (de_ix (de_var 5) de_int) (de_var 9) (nomark _)))) (fun _ _ _ _ _ => PE.ex fun _ _ _ => (de_var 5))) (de_lst da_nil)))
  (dss_one (ds_ret (de_and (de_cmp or_is os_is (de_call F_is_order rfl rfl (hr.mono (by decide)) tk rfl (da_cons (de_ix (de_var 11) (de_neg de_int)) da_nil)) de_bl (nomark _)) (de_one (de_cmp (op_eqD (hr.units)) os_eq (de_bin or_mul os_mul (de_callB crr_len cs_len rfl T.b_len PySem.boot_len (da_cons (de_var 8) da_nil)) (de_var 2)) (de_callB crr_len cs_len rfl T.b_len PySem.boot_len (da_cons (de_var 11) da_nil)) (nomark _))))))))))))))))))
/-! ### all orders, all relative ranks -/
def OS (n : Nat) : List (List Int) := allO n n
def relS (n : Nat) : List (List Int) := (OS n).map relL
def ext (p : Nat) (ks : List (List Int)) : List (List Int) := ks.flatMap fun k => (upto p).map fun x => k ++ [x]
def SM : Nat → List (List Int)
  | 0 => [[]]
  | m + 1 => ext (m + 1) (SM m)
def hits (rs : List (List Int)) (i j : Nat) (a b : Int) : Nat := (rs.filter fun r => decide (r[i]? = some a) && decide (r[j]? = some b)).length
def hitsOk (rs : List (List Int)) (n : Nat) : Bool := (List.range n).all fun i => (List.range n).all fun j => decide (j ≤ i) || ((List.range (i + 1)).all fun a => (List.range (j + 1)).all fun b => hits rs i j ((a : Nat) + 1) ((b : Nat) + 1) * (i + 1) * (j + 1) == rs.length)
def okSM (n : Nat) : Bool := (SM n).all fun k => (placeB 1 0 k).all id && decide (k.length = n)
theorem leI_trans (a b c : List Int) (h1 : leI a b = true) (h2 : leI b c = true) : leI a c = true := decide_eq_true (List.le_trans (of_decide_eq_true h1) (of_decide_eq_true h2))
theorem leI_total (a b : List Int) : (leI a b || leI b a) = true := by
  rw [Bool.or_eq_true]
  exact (List.le_total a b).imp (fun z => decide_eq_true z) fun z => decide_eq_true z
theorem sort_is {l m : List (List Int)} (p : l.isPerm m = true) (s : m.Pairwise (fun x y => leI x y = true)) : l.mergeSort leI = m := by
  refine List.Perm.eq_of_pairwise (le := fun x y => leI x y = true) (fun a b _ _ h1 h2 => List.le_antisymm (of_decide_eq_true h1) (of_decide_eq_true h2)) (List.pairwise_mergeSort leI_trans leI_total l) s ((List.mergeSort_perm l leI).trans (List.isPerm_iff.mp p))
structure Fs (n : Nat) : Prop where
  perm : ((OS n).all fun xs => xs.isPerm (upto n)) = true
  nod : ((relS n).map th).Nodup
  hit : hitsOk (relS n) n = true
  first : ((upto n).all fun a => ((OS n).filter fun xs => decide (xs[0]? = some a)).length * n == (OS n).length) = true
  p1 : (relS n).isPerm (SM n) = true
  s1 : (SM n).Pairwise (fun x y => leI x y = true)
  p2 : ((SM n).map (ordGo [])).isPerm (OS n) = true
  s2 : (OS n).Pairwise (fun x y => leI x y = true)
  ok : okSM n = true
  few : ((OS n).length ≤ 120 ∧ (SM n).length ≤ 120) ∧ OS n ≠ []
theorem fs2 : Fs 2 := ⟨by decide +kernel, by decide +kernel, by decide +kernel, by decide +kernel, by decide +kernel, by decide +kernel, by decide +kernel, by decide +kernel, by decide +kernel, by decide +kernel⟩
theorem fs3 : Fs 3 := ⟨by decide +kernel, by decide +kernel, by decide +kernel, by decide +kernel, by decide +kernel, by decide +kernel, by decide +kernel, by decide +kernel, by decide +kernel, by decide +kernel⟩
theorem fs4 : Fs 4 := ⟨by decide +kernel, by decide +kernel, by decide +kernel, by decide +kernel, by decide +kernel, by decide +kernel, by decide +kernel, by decide +kernel, by decide +kernel, by decide +kernel⟩
theorem h5_1 : ((OS 5).all fun xs => xs.isPerm (upto 5)) = true := by decide +kernel
theorem h5_2 : ((relS 5).map th).Nodup := by decide +kernel
theorem h5_3 : hitsOk (relS 5) 5 = true := by decide +kernel
theorem h5_4 : ((upto 5).all fun a => ((OS 5).filter fun xs => decide (xs[0]? = some a)).length * 5 == (OS 5).length) = true := by decide +kernel
theorem h5_5 : (relS 5).isPerm (SM 5) = true := by decide +kernel
theorem h5_6 : (SM 5).Pairwise (fun x y => leI x y = true) := by decide +kernel
theorem h5_7 : ((SM 5).map (ordGo [])).isPerm (OS 5) = true := by decide +kernel
theorem h5_8 : (OS 5).Pairwise (fun x y => leI x y = true) := by decide +kernel
theorem h5_9 : okSM 5 = true := by decide +kernel
theorem h5_10 : ((OS 5).length ≤ 120 ∧ (SM 5).length ≤ 120) ∧ OS 5 ≠ [] := by decide +kernel
theorem fs5 : Fs 5 := ⟨h5_1, h5_2, h5_3, h5_4, h5_5, h5_6, h5_7, h5_8, h5_9, h5_10⟩
theorem fs_at {n : Nat} (n1 : 2 ≤ n) (n2 : n ≤ 5) : Fs n := by
  match n, n1, n2 with
  | 2, _, _ => exact fs2
  | 3, _, _ => exact fs3
  | 4, _, _ => exact fs4
  | 5, _, _ => exact fs5
section
variable {n : Nat} (F : Fs n)
include F
theorem os_perm {xs : List Int} (h : xs ∈ OS n) : xs.Perm (upto n) := List.isPerm_iff.mp (List.all_eq_true.mp F.perm xs h)
theorem hit_at {i j a b : Nat} (hi : 1 ≤ i) (hij : i < j) (hj : j ≤ n) (ha : 1 ≤ a ∧ a ≤ i) (hb : 1 ≤ b ∧ b ≤ j) : hits (relS n) (i - 1) (j - 1) ((a : Nat) : Int) ((b : Nat) : Int) * i * j = (relS n).length := by
  have h := F.hit
  unfold hitsOk at h
  have h := List.all_eq_true.mp h (i - 1) (List.mem_range.mpr (by omega))
  have h := List.all_eq_true.mp h (j - 1) (List.mem_range.mpr (by omega))
  rw [decide_eq_false (by omega), Bool.false_or] at h
  have h := List.all_eq_true.mp h (a - 1) (List.mem_range.mpr (by omega))
  have h := List.all_eq_true.mp h (b - 1) (List.mem_range.mpr (by omega))
  have h := beq_iff_eq.mp h
  rw [show (((a - 1 : Nat) : Int) + 1) = ((a : Nat) : Int) by omega, show (((b - 1 : Nat) : Int) + 1) = ((b : Nat) : Int) by omega, show i - 1 + 1 = i by omega, show j - 1 + 1 = j by omega] at h
  exact h
theorem first_at {a : Nat} (h1 : 1 ≤ a) (h2 : a ≤ n) : ((OS n).filter fun xs => decide (xs[0]? = some ((a : Nat) : Int))).length * n = (OS n).length :=
  beq_iff_eq.mp (List.all_eq_true.mp F.first ((a : Nat) : Int) (List.mem_map.mpr ⟨a - 1, List.mem_range.mpr (by omega), by omega⟩))
theorem sm_ok {k : List Int} (h : k ∈ SM n) : (placeB 1 0 k).all id = true ∧ k.length = n := by
  have := List.all_eq_true.mp F.ok k h
  rw [Bool.and_eq_true] at this
  exact ⟨this.1, of_decide_eq_true this.2⟩
end
/-! ### steps -/
abbrev rows (ks : List (List Int)) : List D := ks.map fun k => .tup (k.map D.int)
theorem rowsD_rows : ∀ ks : List (List Int), rowsD (rows ks) = some ks
  | [] => rfl
  | k :: r => by
    have ih := rowsD_rows r
    have e : intsD (k.map D.int) = some k := intsD_ofI k
    show (match intsD (k.map D.int), rowsD (rows r) with | some ns, some rs => some (ns :: rs) | _, _ => none) = _
    rw [e, ih]
def pyRows (ks : List (List Int)) : List PyData := ks.map fun k => .tuple (k.map .int)
theorem toPys_rows : ∀ ks : List (List Int), toPys (rows ks) = some (pyRows ks)
  | [] => rfl
  | k :: r => by
    have e : toPy (.tup (k.map D.int)) = some (.tuple (k.map PyData.int)) := by simp only [toPy, toPys_ints]; rfl
    show (match toPy (.tup (k.map D.int)), toPys (rows r) with | some p, some ps => some (p :: ps) | _, _ => none) = _
    rw [e, toPys_rows r]
    rfl
theorem lay_rows : ∀ ks : List (List Int), PyData.canLayAll0 (pyRows ks) = true
  | [] => by rw [pyRows, List.map_nil, PyData.canLayAll0]
  | k :: r => by
    have := lay_rows r
    unfold pyRows at this ⊢
    simp [PyData.canLayAll0, PyData.canLay0, lay_ints, this]
theorem deep_rows : ∀ ks : List (List Int), PyData.depthAll (pyRows ks) ≤ 1
  | [] => by rw [pyRows, List.map_nil, PyData.depthAll]; omega
  | k :: r => by
    have := deep_rows r
    unfold pyRows at this ⊢
    simp only [List.map_cons, PyData.depthAll, PyData.depth, deep_ints]
    omega
theorem eqG_rows (g : GS) (ks : List (List Int)) : eqG g (.lst (rows ks)) (.lst (rows ks)) = some true := by
  have e : toPyG g (.lst (rows ks)) = some (.list (pyRows ks)) := by
    show toPy (.lst (rows ks)) = _
    simp only [toPy, toPys_rows]
    rfl
  have lay : (PyData.list (pyRows ks)).canLay0 = true := by
    rw [PyData.canLay0]
    exact lay_rows ks
  have sh : SeqAt.shaped (.list (pyRows ks)) = true := by
    have := deep_rows ks
    unfold SeqAt.shaped
    rw [lay, decide_eq_true (show (PyData.list (pyRows ks)).depth ≤ 64 by rw [PyData.depth]; omega)]
    rfl
  unfold eqG
  rw [e]
  show (match SeqAt.shaped (.list (pyRows ks)) && SeqAt.shaped (.list (pyRows ks)) with | true => some (PyData.eqv (.list (pyRows ks)) (.list (pyRows ks))) | false => none) = _
  rw [sh]
  show some (PyData.eqv (.list (pyRows ks)) (.list (pyRows ks))) = _
  rw [SeqAt.eqv_refl _ lay]
section
variable {fa fb : LS → Out Lv} {s s1 : LS} {xs ys : List Int}
theorem ne_tupI (ha : fa s = okD (.tup (ofI xs)) s) (hb : fb s = okD (.tup (ofI ys)) s) : eOp sNe fa fb s = okD (.bl (!decide (xs = ys))) s := by
  rw [eOp_d ha hb]
  show onO (eqG s.g (.tup (ofI xs)) (.tup (ofI ys))) _ = _
  rw [eqG_tup]
  rfl
theorem lenL {ds : List D} (ha : fa s = okD (.lst ds) s) : eB (arg1 sLen) (aCons fa aNil) s = okD (.int ds.length) s := by
  rw [eB1_d ha]
  rfl
theorem tOu_n {ta tb : LS → Out Bool} (ha : ta s = .ok false s1) : tOu ta tb s = tb s1 := by
  unfold tOu
  rw [ha]
  rfl
theorem tV_n {f : LS → Out Lv} {x : Bool} (ha : f s = okD (.bl x) s1) : tV f s = .ok x s1 := by
  unfold tV
  rw [ha]
  rfl
theorem tAn_no {ta tb : LS → Out Bool} (ha : ta s = .ok false s) : tAn ta tb s = .ok false s := by
  unfold tAn
  rw [ha]
  rfl
theorem eB1_s {sem : D → LS → Out Lv} {d : D} (ha : fa s = okD d s1) : eB (arg1 sem) (aCons fa aNil) s = sem d s1 := by
  unfold eB
  rw [aCons_d ha aNil_d]
  rfl
theorem mul_small {x y : Int} (ha : fa s = okD (.int x) s) (hb : fb s = okD (.int y) s) (h : -(2 ^ 64) < y ∧ y < 2 ^ 64) : eOp sMul fa fb s = okD (.int (x * y)) s := (eOp_d ha hb).trans (mul_r h)
/-- an own list as an argument -/
theorem own_arg {sem : D → LS → Out Lv} {k : Nat} {ds : List D} (ha : fa s = .ok (.own k) s) (ho : s.own[k]? = some (some (.l ds))) : eB (arg1 sem) (aCons fa aNil) s = sem (.lst ds) s := by
  unfold eB
  rw [aCons_d ha aNil_d]
  show onO (match borrow s (.own k), some ([] : List D) with | some one, some more => some (one :: more) | _, _ => none) _ = _
  have b : borrow s (.own k) = some (.lst ds) := by
    show (match s.own[k]? with | some (some (.l ds)) => some (D.lst ds) | _ => none) = _
    rw [ho]
  rw [b]
  rfl
theorem own_un {sem : D → LS → Out Lv} {k : Nat} {ds : List D} (ha : fa s = .ok (.own k) s) (ho : s.own[k]? = some (some (.l ds))) : eUn sem fa s = sem (.lst ds) s := by
  unfold eUn
  rw [ha]
  show onO (borrow s (.own k)) _ = _
  have b : borrow s (.own k) = some (.lst ds) := by
    show (match s.own[k]? with | some (some (.l ds)) => some (D.lst ds) | _ => none) = _
    rw [ho]
  rw [b]
  rfl
theorem own_rhs {sem : D → D → LS → Out Lv} {k : Nat} {d : D} {ds : List D} (ha : fa s = okD d s) (hb : fb s = .ok (.own k) s) (ho : s.own[k]? = some (some (.l ds))) : eOp sem fa fb s = sem d (.lst ds) s := by
  unfold eOp
  rw [ha]
  show Out.bind (fb s) _ = _
  rw [hb]
  show onO (borrow s (.own k)) _ = _
  have b : borrow s (.own k) = some (.lst ds) := by
    show (match s.own[k]? with | some (some (.l ds)) => some (D.lst ds) | _ => none) = _
    rw [ho]
  rw [b]
  rfl
theorem mut_any {sem : List D → D → Option (List D)} {i k : Nat} {ds ds' : List D} {d : D} (hl : s.loc[i]? = some (some (.own k))) (ho : s.own[k]? = some (some (.l ds))) (hf : fa s = okD d s) (hs : sem ds d = some ds') : sMut sem i fa s = .ok .nx { s with own := s.own.set k (some (.l ds')) } := by
  have a : ownAt i s = some k := by
    unfold ownAt
    rw [hl]
    show (match s.own[k]? with | some (some (.l _)) => some k | _ => none) = _
    rw [ho]
  have b : ownL k s = some ds := by
    unfold ownL
    rw [ho]
  unfold sMut
  rw [a]
  show Out.bind (fa s) _ = _
  rw [hf]
  show onO (ownL k s) _ = _
  rw [b]
  show onO (sem ds d) _ = _
  rw [hs]
  rfl
end
theorem at_lastD {l : List D} {x : D} : atI (l ++ [x]) (-1) = some x := by
  unfold atI ixN
  rw [List.length_append, List.length_cons, List.length_nil, if_neg (by omega), if_pos (by omega), Option.bind_some, show ((-1 : Int) + ((l.length + (0 + 1) : Nat) : Int)).toNat = l.length by omega, List.getElem?_append_right (Nat.le_refl _), Nat.sub_self]
  rfl
theorem place_ok {lo : Int} : ∀ (xs : List Int) (k : Nat), (∀ (i : Nat) x, xs[i]? = some x → lo ≤ x ∧ x ≤ ((k + i : Nat) : Int) + 1) → (placeB lo k xs).all id = true
  | [], _, _ => rfl
  | y :: r, k, h => by
    have h0 := h 0 y rfl
    have ih := place_ok (lo := lo) r (k + 1) fun i x e => by
      have := h (i + 1) x (by simpa using e)
      omega
    unfold placeB
    rw [List.all_cons, ih, decide_eq_true h0.1, decide_eq_true (show y ≤ ((k : Nat) : Int) + 1 by simpa using h0.2)]
    rfl
def oneF : D → Option D
  | .int x => if x = 1 then some (.int 1) else none
  | _ => none
theorem one_count : ∀ (qs : List Int) (k : Nat), ((ofI qs).filterMap oneF).length = (ones k qs).length
  | [], _ => rfl
  | q :: r, k => by
    have ih := one_count r (k + 1)
    show ((D.int q :: ofI r).filterMap oneF).length = (ones k (q :: r)).length
    rw [List.filterMap_cons]
    unfold ones
    by_cases c : q = 1
    · simp only [oneF, if_pos c, List.length_cons, ih]
    · simp only [oneF, if_neg c, ih]
/-! ### the law -/
abbrev I (n : Nat) : Option Lv := some (.d (.int ((n : Nat) : Int)))
abbrev DD (x : D) : Option Lv := some (.d x)
abbrev S (own : List (Option OO)) (g : GS) (n i j a b : Nat) (ow some_ place first ords count seen ranks longer : Option Lv) : LS := ⟨[some (.d .scr), some (.d .town), I n, I i, I j, ow, some_, place, first, I a, I b, ords, count, seen, ranks, longer, none], own, g⟩
def ONE : LS → Out Lv := eLc (iSeq (eVar 14)) (gN 16) (tV (eOp sEq (eVar 16) (eC (.int 1)))) (eC (.int 1)) [16]
def b1 : LS → Out Fl := sSet 14 (eCall m_relative (aCons (eVar 5) aNil))
def b2 : LS → Out Fl := sMut mApp 13 (eVar 14)
def b3 : LS → Out Fl := sIf (tAn (tV (eOp sEq (eOp sIx (eVar 14) (eOp sSub (eVar 3) (eC (.int 1)))) (eVar 9))) (tV (eOp sEq (eOp sIx (eVar 14) (eOp sSub (eVar 4) (eC (.int 1)))) (eVar 10)))) (sAug 12 (eC (.int 1))) sNx
def b4 : LS → Out Fl := sIf (tOu (tV (eOp sNe (eCall m_from_relative (aCons (eVar 14) aNil)) (eVar 5))) (tV (eOp sNe (eB (arg1 sLen) (aCons (eCall m_records (aCons (eVar 5) aNil)) aNil)) (eB (arg1 sLen) (aCons ONE aNil))))) (sRet (eC (.bl false))) sNx
def body6 : LS → Out Fl := sSeq b1 (sSeq b2 (sSeq b3 b4))
abbrev R (rs : List (List Int)) : List (Option OO) := [some (.l (rows rs))]
section
variable {g : GS} {n i j a b : Nat} {xs : List Int} {rs : List (List Int)} {c : Nat} {some_ place first ords ranks longer : Option Lv}
theorem st1 (n1 : 1 ≤ n) (n2 : n ≤ 10) (p : xs.Perm (upto n)) {own : List (Option OO)} {count seen : Option Lv} : b1 (S own g n i j a b (DD (.tup (ofI xs))) some_ place first ords count seen ranks longer) = .ok .nx (S own g n i j a b (DD (.tup (ofI xs))) some_ place first ords count seen (DD (.tup (ofI (relL xs)))) longer) := by
  let s := S own g n i j a b (DD (.tup (ofI xs))) some_ place first ords count seen ranks longer
  exact (sSet_d (eCall1 (s := s) (m := m_relative) (fa := eVar 5) (d := .tup (ofI xs)) rfl (relative_at (upto_ord n1 n2 p).1 g))).trans rfl
theorem st2 (few : rs.length ≤ 1000) {ow count : Option Lv} {q : List Int} : b2 (S (R rs) g n i j a b ow some_ place first ords count (some (.own 0)) (DD (.tup (ofI q))) longer) = .ok .nx (S (R (rs ++ [q])) g n i j a b ow some_ place first ords count (some (.own 0)) (DD (.tup (ofI q))) longer) := by
  let s := S (R rs) g n i j a b ow some_ place first ords count (some (.own 0)) (DD (.tup (ofI q))) longer
  have m := mut_any (s := s) (sem := mApp) (i := 13) (k := 0) (fa := eVar 14) (ds := rows rs) (ds' := rows rs ++ [.tup (ofI q)]) (d := .tup (ofI q)) rfl rfl rfl (by unfold mApp; rw [if_pos (by rw [List.length_map]; omega)])
  show b2 s = _
  unfold b2
  rw [m]
  show Out.ok Fl.nx (⟨s.loc, [some (.l (rows rs ++ [D.tup (ofI q)]))], g⟩ : LS) = _
  rw [show rows rs ++ [D.tup (ofI q)] = rows (rs ++ [q]) by rw [rows, rows, List.map_append]; rfl]
def hit1 (q : List Int) (i j : Nat) (a b : Int) : Bool := decide (q[i]? = some a) && decide (q[j]? = some b)
theorem hits_snoc (rs : List (List Int)) (q : List Int) (i j : Nat) (a b : Int) : hits (rs ++ [q]) i j a b = hits rs i j a b + (if hit1 q i j a b = true then 1 else 0) := by
  unfold hits
  rw [List.filter_append, List.length_append]
  congr 1
  show (List.filter _ [q]).length = _
  unfold hit1
  by_cases c : (decide (q[i]? = some a) && decide (q[j]? = some b)) = true
  · rw [if_pos c, List.filter_cons_of_pos (by exact c)]
    rfl
  · rw [if_neg c, List.filter_cons_of_neg (by exact c)]
    rfl
theorem st3 {own : List (Option OO)} {ow seen : Option Lv} {q : List Int} (hi : 1 ≤ i) (hj : 1 ≤ j) (li : i ≤ q.length) (lj : j ≤ q.length) : b3 (S own g n i j a b ow some_ place first ords (I c) seen (DD (.tup (ofI q))) longer) = .ok .nx (S own g n i j a b ow some_ place first ords (I (c + (if hit1 q (i - 1) (j - 1) ((a : Nat) : Int) ((b : Nat) : Int) = true then 1 else 0))) seen (DD (.tup (ofI q))) longer) := by
  let s := S own g n i j a b ow some_ place first ords (I c) seen (DD (.tup (ofI q))) longer
  obtain ⟨u, hu⟩ : ∃ u, q[i - 1]? = some u := ⟨_, List.getElem?_eq_getElem (by omega)⟩
  obtain ⟨v, hv⟩ : ∃ v, q[j - 1]? = some v := ⟨_, List.getElem?_eq_getElem (by omega)⟩
  have sub1 : eOp sSub (eVar 3) (eC (.int 1)) s = okD (.int ((i - 1 : Nat) : Int)) s := by
    have := sub_d (s := s) (fa := eVar 3) (fb := eC (.int 1)) (i := ((i : Nat) : Int)) (j := 1) rfl rfl
    rw [this, show ((i : Nat) : Int) - 1 = ((i - 1 : Nat) : Int) by omega]
  have sub2 : eOp sSub (eVar 4) (eC (.int 1)) s = okD (.int ((j - 1 : Nat) : Int)) s := by
    have := sub_d (s := s) (fa := eVar 4) (fb := eC (.int 1)) (i := ((j : Nat) : Int)) (j := 1) rfl rfl
    rw [this, show ((j : Nat) : Int) - 1 = ((j - 1 : Nat) : Int) by omega]
  have t1 := tV_d (eq_intD (ix_tupD (s := s) (fa := eVar 14) (xs := q) rfl sub1 (at_nat q hu)) (show eVar 9 s = okD (.int ((a : Nat) : Int)) s from rfl))
  have t2 := tV_d (eq_intD (ix_tupD (s := s) (fa := eVar 14) (xs := q) rfl sub2 (at_nat q hv)) (show eVar 10 s = okD (.int ((b : Nat) : Int)) s from rfl))
  have t := tAn_d t1 t2
  have e : (decide (u = ((a : Nat) : Int)) && decide (v = ((b : Nat) : Int))) = hit1 q (i - 1) (j - 1) ((a : Nat) : Int) ((b : Nat) : Int) := by
    unfold hit1
    rw [hu, hv]
    congr 1 <;> exact decide_eq_decide.mpr ⟨fun z => by rw [z], fun z => Option.some.inj z⟩
  rw [e] at t
  show b3 s = _
  unfold b3
  cases h : hit1 q (i - 1) (j - 1) ((a : Nat) : Int) ((b : Nat) : Int) with
  | true =>
    rw [h] at t
    rw [sIf_t t]
    show Out.ok Fl.nx (S own g n i j a b ow some_ place first ords (some (.d (.int (((c : Nat) : Int) + 1)))) seen (DD (.tup (ofI q))) longer) = _
    rw [if_pos rfl, show (((c : Nat) : Int) + 1) = ((c + 1 : Nat) : Int) by omega]
  | false =>
    rw [h] at t
    rw [sIf_f t, if_neg (by decide)]
    rfl
theorem ONE_at {own : List (Option OO)} {ow count seen : Option Lv} {q : List Int} (few : q.length ≤ 1000) : ONE (S own g n i j a b ow some_ place first ords count seen (DD (.tup (ofI q))) longer) = okD (.lst ((ofI q).filterMap oneF)) (S own g n i j a b ow some_ place first ords count seen (DD (.tup (ofI q))) longer) := by
  let s := S own g n i j a b ow some_ place first ords count seen (DD (.tup (ofI q))) longer
  have each : ∀ d ∈ ofI q, lcTurn (gN 16) (tV (eOp sEq (eVar 16) (eC (.int 1)))) (eC (.int 1)) (Br.seen s.loc [16]) d s.g = some (oneF d, s.g) := by
    intro d hd
    obtain ⟨x, hx, rfl⟩ := List.mem_map.mp hd
    let u : LS := ⟨[some (.d .scr), some (.d .town), I n, I i, I j, dataOnly ow, dataOnly some_, dataOnly place, dataOnly first, I a, I b, dataOnly ords, dataOnly count, dataOnly seen, DD (.tup (ofI q)), dataOnly longer, some (.d (.int x))], [], g⟩
    have t := tV_d (eq_intD (s := u) (fa := eVar 16) (fb := eC (.int 1)) (a := x) (c := 1) rfl rfl)
    show (match tV (eOp sEq (eVar 16) (eC (.int 1))) u with | .ok true s1 => (match eC (.int 1) s1 with | .ok (.d y) s2 => some (some y, s2.g) | _ => none) | .ok false s1 => some (none, s1.g) | _ => none) = some (if x = 1 then some (D.int 1) else none, g)
    rw [t]
    by_cases h : x = 1
    · simp only [decide_eq_true h, if_pos h]; rfl
    · simp only [decide_eq_false h, if_neg h]; rfl
  exact eLc_ok (fi := iSeq (eVar 14)) (vs := [16]) (s := s) (s1 := s) (ds := ofI q) rfl (by rw [len_ofI]; omega) each
theorem st4 (n1 : 1 ≤ n) (n2 : n ≤ 10) (p : xs.Perm (upto n)) {own : List (Option OO)} {count seen : Option Lv} : b4 (S own g n i j a b (DD (.tup (ofI xs))) some_ place first ords count seen (DD (.tup (ofI (relL xs)))) longer) = .ok .nx (S own g n i j a b (DD (.tup (ofI xs))) some_ place first ords count seen (DD (.tup (ofI (relL xs)))) longer) := by
  let s := S own g n i j a b (DD (.tup (ofI xs))) some_ place first ords count seen (DD (.tup (ofI (relL xs)))) longer
  have o := (upto_ord n1 n2 p).1
  have len := perm_len p
  have lr := relL_len xs
  have f := from_at (qs := relL xs) (by omega) (by omega) (place_ok (relL xs) 0 fun i x e => by have := okR_rel p i x e; omega) g
  rw [ord_back p] at f
  have c1 : eCall m_from_relative (aCons (eVar 14) aNil) s = okD (.tup (ofI xs)) s := eCall1 (s := s) (m := m_from_relative) (fa := eVar 14) (d := .tup (ofI (relL xs))) rfl f
  have t1 := tV_d (ne_tupI c1 (show eVar 5 s = okD (.tup (ofI xs)) s from rfl))
  rw [decide_eq_true rfl] at t1
  have c2 : eCall m_records (aCons (eVar 5) aNil) s = okD (.lst (ofI (recL xs))) s := eCall1 (s := s) (m := m_records) (fa := eVar 5) (d := .tup (ofI xs)) rfl (records_at o g)
  have t2 := tV_d (ne_intD (lenL c2) (lenL (ONE_at (g := g) (q := relL xs) (by omega))))
  rw [one_count (relL xs) 0, len_ofI, show ones 0 (relL xs) = recL xs from rfl, decide_eq_true rfl] at t2
  show b4 s = _
  unfold b4
  rw [sIf_f (tOu_d t1 t2)]
  rfl
theorem turn6 (n1 : 1 ≤ n) (n2 : n ≤ 10) (p : xs.Perm (upto n)) (hi : 1 ≤ i) (hj : 1 ≤ j) (li : i ≤ n) (lj : j ≤ n) (few : rs.length ≤ 1000) : body6 (S (R rs) g n i j a b (DD (.tup (ofI xs))) some_ place first ords (I (hits rs (i - 1) (j - 1) ((a : Nat) : Int) ((b : Nat) : Int))) (some (.own 0)) ranks longer) = .ok .nx (S (R (rs ++ [relL xs])) g n i j a b (DD (.tup (ofI xs))) some_ place first ords (I (hits (rs ++ [relL xs]) (i - 1) (j - 1) ((a : Nat) : Int) ((b : Nat) : Int))) (some (.own 0)) (DD (.tup (ofI (relL xs)))) longer) := by
  have len := perm_len p
  have lr := relL_len xs
  unfold body6
  rw [sSeq_nx (st1 n1 n2 p), sSeq_nx (st2 few), sSeq_nx (st3 hi hj (by omega) (by omega)), hits_snoc]
  exact st4 n1 n2 p
end
theorem loop6 {g : GS} {n i j a b : Nat} {some_ place first ords longer : Option Lv} (n1 : 1 ≤ n) (n2 : n ≤ 10) (hi : 1 ≤ i) (hj : 1 ≤ j) (li : i ≤ n) (lj : j ≤ n) : ∀ (rest : List (List Int)) (rs : List (List Int)) (ow ranks : Option Lv), rest ≠ [] → (∀ xs ∈ rest, xs.Perm (upto n)) → rs.length + rest.length ≤ 1000 → ∃ xo r, forL (gN 5) body6 (rows rest) (S (R rs) g n i j a b ow some_ place first ords (I (hits rs (i - 1) (j - 1) ((a : Nat) : Int) ((b : Nat) : Int))) (some (.own 0)) ranks longer) = .ok .nx (S (R (rs ++ rest.map relL)) g n i j a b (DD xo) some_ place first ords (I (hits (rs ++ rest.map relL) (i - 1) (j - 1) ((a : Nat) : Int) ((b : Nat) : Int))) (some (.own 0)) (DD r) longer)
  | [], rs, ow, ranks, ne, _, _ => absurd rfl ne
  | xs :: rest, rs, ow, ranks, _, all, few => by
    rw [List.length_cons] at few
    have t := turn6 (g := g) (i := i) (j := j) (a := a) (b := b) (rs := rs) (some_ := some_) (place := place) (first := first) (ords := ords) (ranks := ranks) (longer := longer) n1 n2 (all xs List.mem_cons_self) hi hj li lj (by omega)
    have go := forL_cons (t := gN 5) (body := body6) (d := .tup (xs.map D.int)) (r := rows rest) (s := S (R rs) g n i j a b ow some_ place first ords (I (hits rs (i - 1) (j - 1) ((a : Nat) : Int) ((b : Nat) : Int))) (some (.own 0)) ranks longer) (loc' := (S (R rs) g n i j a b (DD (.tup (ofI xs))) some_ place first ords (I (hits rs (i - 1) (j - 1) ((a : Nat) : Int) ((b : Nat) : Int))) (some (.own 0)) ranks longer).loc) rfl t
    have e : rs ++ (xs :: rest).map relL = (rs ++ [relL xs]) ++ rest.map relL := by rw [List.map_cons, List.append_assoc]; rfl
    rw [e]
    by_cases c : rest = []
    · subst c
      refine ⟨.tup (ofI xs), .tup (ofI (relL xs)), ?_⟩
      rw [List.map_nil, List.append_nil]
      exact go.trans rfl
    · obtain ⟨xo, r, l⟩ := loop6 (some_ := some_) (place := place) (first := first) (ords := ords) (longer := longer) n1 n2 hi hj li lj rest (rs ++ [relL xs]) (DD (.tup (ofI xs))) (DD (.tup (ofI (relL xs)))) c (fun y hy => all y (List.mem_cons_of_mem _ hy)) (by rw [List.length_append]; simp only [List.length_cons, List.length_nil]; omega)
      exact ⟨xo, r, go.trans l⟩
/-! ### all tuples -/
def COMP : LS → Out Lv := eLc (iRng rng2 (aCons (eC (.int 1)) (aCons (eOp sAdd (eVar 7) (eC (.int 1))) aNil))) (gN 16) tYe (eOp sAdd (eVar 14) (eTup (aCons (eVar 16) aNil))) [16]
def bodyI : LS → Out Fl := sMut mExt 15 COMP
def body9 : LS → Out Fl := sSeq (sSet 15 (eLstO aNil)) (sSeq (sFor (iSeq (eVar 6)) (gN 14) bodyI) (sSet 6 (eVar 15)))
def longF (k : List Int) : D → Option D
  | .int x => some (.tup ((k ++ [x]).map D.int))
  | _ => none
theorem long_list (k : List Int) (p : Nat) : (ofI (upto p)).filterMap (longF k) = rows ((upto p).map fun x => k ++ [x]) := by
  rw [filterMap_ofI]
  generalize upto p = l
  induction l with
  | nil => rfl
  | cons x r ih =>
    rw [List.filterMap_cons]
    show D.tup ((k ++ [x]).map D.int) :: r.filterMap _ = _
    rw [ih]
    rfl
section
variable {g : GS} {n i j a b p : Nat} {own : List (Option OO)} {ow some_ first ords count seen ranks longer : Option Lv}
theorem COMP_at {k : List Int} (hp : p ≤ 100) (few : k.length ≤ 100) : COMP (S own g n i j a b ow some_ (I p) first ords count seen (DD (.tup (ofI k))) longer) = okD (.lst (rows ((upto p).map fun x => k ++ [x]))) (S own g n i j a b ow some_ (I p) first ords count seen (DD (.tup (ofI k))) longer) := by
  let s := S own g n i j a b ow some_ (I p) first ords count seen (DD (.tup (ofI k))) longer
  have up : eOp sAdd (eVar 7) (eC (.int 1)) s = .ok (.d (.int (((p : Nat) : Int) + 1))) s := add_d (s := s) (fa := eVar 7) (fb := eC (.int 1)) (i := ((p : Nat) : Int)) (j := 1) rfl rfl
  have it : iRng rng2 (aCons (eC (.int 1)) (aCons (eOp sAdd (eVar 7) (eC (.int 1))) aNil)) s = .ok (ofI (upto p)) s := by
    rw [iRng_d (aCons_d (show eC (.int 1) s = .ok (.d (.int 1)) s from rfl) (aCons_d up aNil_d)) (is := [1, ((p : Nat) : Int) + 1]) rfl]
    dsimp only [rng2]
    have sm : (small 1 && small (((p : Nat) : Int) + 1)) = true := by rw [small_medium (by omega), small_medium (by omega)]; rfl
    have up : rgD 1 ((((p : Nat) : Int) + 1) - 1).toNat = ofI (upto p) := by rw [show ((((p : Nat) : Int) + 1) - 1).toNat = p by omega]; exact upto_ofI p
    rw [sm, up]
    rfl
  have each : ∀ d ∈ ofI (upto p), lcTurn (gN 16) tYe (eOp sAdd (eVar 14) (eTup (aCons (eVar 16) aNil))) (Br.seen s.loc [16]) d s.g = some (longF k d, s.g) := by
    intro d hd
    obtain ⟨x, hx, rfl⟩ := List.mem_map.mp hd
    let u : LS := ⟨[some (.d .scr), some (.d .town), I n, I i, I j, dataOnly ow, dataOnly some_, I p, dataOnly first, I a, I b, dataOnly ords, dataOnly count, dataOnly seen, DD (.tup (ofI k)), dataOnly longer, some (.d (.int x))], [], g⟩
    have c := add_tupD (s := u) (fa := eVar 14) (fb := eTup (aCons (eVar 16) aNil)) (xs := k) (ys := [x]) rfl rfl (by simp only [List.length_cons, List.length_nil]; omega)
    show (match eOp sAdd (eVar 14) (eTup (aCons (eVar 16) aNil)) u with | .ok (.d y) s2 => some (some y, s2.g) | _ => none) = _
    rw [c]
    rfl
  have comp := eLc_ok (fi := iRng rng2 (aCons (eC (.int 1)) (aCons (eOp sAdd (eVar 7) (eC (.int 1))) aNil))) (vs := [16]) (s := s) (s1 := s) (ds := ofI (upto p)) it (by rw [len_ofI, upto, List.length_map, List.length_range]; omega) each
  rw [long_list] at comp
  exact comp
end
theorem last_own {A : Option OO} {q : List (Option OO)} {x : Option OO} : (A :: (q ++ [x]))[q.length + 1]? = some x := by
  rw [List.getElem?_cons_succ, List.getElem?_append_right (Nat.le_refl _), Nat.sub_self]
  rfl
theorem set_own {A : Option OO} {q : List (Option OO)} {x y : Option OO} : (A :: (q ++ [x])).set (q.length + 1) y = A :: (q ++ [y]) := by
  rw [List.set_cons_succ, List.set_append_right _ _ (Nat.le_refl _), Nat.sub_self]
  rfl
theorem loopI {g : GS} {n i j a b p : Nat} {A : Option OO} {q : List (Option OO)} {ow some_ first ords count seen : Option Lv} (hp : p ≤ 100) : ∀ (ks acc : List (List Int)) (ranks : Option Lv), (∀ k ∈ ks, k.length ≤ 100) → acc.length + p * ks.length ≤ 10000 → ks ≠ [] → ∃ r, forL (gN 14) bodyI (rows ks) (S (A :: (q ++ [some (.l (rows acc))])) g n i j a b ow some_ (I p) first ords count seen ranks (some (.own (q.length + 1)))) = .ok .nx (S (A :: (q ++ [some (.l (rows (acc ++ ext p ks)))])) g n i j a b ow some_ (I p) first ords count seen (DD r) (some (.own (q.length + 1))))
  | [], acc, ranks, _, _, ne => absurd rfl ne
  | k :: ks, acc, ranks, all, few, _ => by
    have ll : ((upto p).map fun x => k ++ [x]).length = p := by rw [List.length_map, upto, List.length_map, List.length_range]
    have mul : p * (k :: ks).length = p + p * ks.length := by rw [List.length_cons, Nat.mul_succ]; omega
    let s1 := S (A :: (q ++ [some (.l (rows acc))])) g n i j a b ow some_ (I p) first ords count seen (DD (.tup (ofI k))) (some (.own (q.length + 1)))
    have c := COMP_at (own := A :: (q ++ [some (.l (rows acc))])) (g := g) (n := n) (i := i) (j := j) (a := a) (b := b) (ow := ow) (some_ := some_) (first := first) (ords := ords) (count := count) (seen := seen) (longer := some (.own (q.length + 1))) hp (all k List.mem_cons_self)
    have m := mut_any (s := s1) (sem := mExt) (i := 15) (k := q.length + 1) (ds := rows acc) (ds' := rows acc ++ rows ((upto p).map fun x => k ++ [x])) rfl last_own c (by
      show (if (rows acc).length + (rows ((upto p).map fun x => k ++ [x])).length ≤ 100000 then some _ else none) = _
      rw [if_pos (by rw [List.length_map, List.length_map, ll]; omega)])
    have t : bodyI s1 = .ok .nx (S (A :: (q ++ [some (.l (rows (acc ++ (upto p).map fun x => k ++ [x])))])) g n i j a b ow some_ (I p) first ords count seen (DD (.tup (ofI k))) (some (.own (q.length + 1)))) := by
      show sMut mExt 15 COMP s1 = _
      rw [m]
      show Out.ok Fl.nx (⟨s1.loc, (A :: (q ++ [some (.l (rows acc))])).set (q.length + 1) (some (.l (rows acc ++ rows ((upto p).map fun x => k ++ [x])))), g⟩ : LS) = _
      rw [set_own, ← List.map_append]
    have go := forL_cons (t := gN 14) (body := bodyI) (d := .tup (k.map D.int)) (r := rows ks) (s := S (A :: (q ++ [some (.l (rows acc))])) g n i j a b ow some_ (I p) first ords count seen ranks (some (.own (q.length + 1)))) (loc' := s1.loc) rfl t
    have e : acc ++ ext p (k :: ks) = (acc ++ (upto p).map fun x => k ++ [x]) ++ ext p ks := by
      unfold ext
      rw [List.flatMap_cons, List.append_assoc]
    rw [e]
    by_cases cc : ks = []
    · subst cc
      refine ⟨.tup (ofI k), ?_⟩
      rw [show ext p [] = [] from rfl, List.append_nil]
      exact go.trans rfl
    · obtain ⟨r, l⟩ := loopI (A := A) (q := q) hp ks (acc ++ (upto p).map fun x => k ++ [x]) (DD (.tup (ofI k))) (fun y hy => all y (List.mem_cons_of_mem _ hy)) (by rw [List.length_append, ll]; omega) cc
      exact ⟨r, go.trans l⟩
section
variable {g : GS} {n i j a b p : Nat} {xo r0 od co : D} {rs ks : List (List Int)}
/-- a turn that finds `some` as data -/
theorem turn9a {x15 : Option Lv} (h15 : dataOnly x15 = x15) (hp : p ≤ 100) (all : ∀ k ∈ ks, k.length ≤ 100) (few : p * ks.length ≤ 10000) (ne : ks ≠ []) : ∃ r, body9 (S (R rs) g n i j a b (DD xo) (DD (.lst (rows ks))) (I p) none (DD od) (DD co) (some (.own 0)) (DD r0) x15) = .ok .nx (S (some (.l (rows rs)) :: ([] ++ [some (.l (rows (ext p ks)))])) g n i j a b (DD xo) (some (.own 1)) (I p) none (DD od) (DD co) (some (.own 0)) (DD r) (some (.own 1))) := by
  obtain ⟨r, l⟩ := loopI (g := g) (n := n) (i := i) (j := j) (a := a) (b := b) (A := some (.l (rows rs))) (q := []) (ow := DD xo) (some_ := DD (.lst (rows ks))) (first := none) (ords := DD od) (count := DD co) (seen := some (.own 0)) hp ks [] (DD r0) all (by simpa using few) ne
  rw [List.nil_append] at l
  refine ⟨r, ?_⟩
  let s := S (R rs) g n i j a b (DD xo) (DD (.lst (rows ks))) (I p) none (DD od) (DD co) (some (.own 0)) (DD r0) x15
  let s1 := S (some (.l (rows rs)) :: ([] ++ [some (.l (rows []))])) g n i j a b (DD xo) (DD (.lst (rows ks))) (I p) none (DD od) (DD co) (some (.own 0)) (DD r0) (some (.own 1))
  have a1 : sSet 15 (eLstO aNil) s = .ok .nx s1 := rfl
  have it : iSeq (eVar 6) s1 = .ok (rows ks) s1 := rfl
  show body9 s = _
  unfold body9
  rw [sSeq_nx a1]
  have f : sFor (iSeq (eVar 6)) (gN 14) bodyI s1 = .ok .nx (S (some (.l (rows rs)) :: ([] ++ [some (.l (rows (ext p ks)))])) g n i j a b (DD xo) (DD (.lst (rows ks))) (I p) none (DD od) (DD co) (some (.own 0)) (DD r) (some (.own 1))) := by
    unfold sFor
    rw [it]
    exact l
  rw [sSeq_nx f]
  rfl
/-- a turn that finds `some` as the list made last -/
theorem turn9b {q : List (Option OO)} (hp : p ≤ 100) (all : ∀ k ∈ ks, k.length ≤ 100) (few : p * ks.length ≤ 10000) (ne : ks ≠ []) : ∃ r, body9 (S (some (.l (rows rs)) :: (q ++ [some (.l (rows ks))])) g n i j a b (DD xo) (some (.own (q.length + 1))) (I p) none (DD od) (DD co) (some (.own 0)) (DD r0) (some (.own (q.length + 1)))) = .ok .nx (S (some (.l (rows rs)) :: ((q ++ [none]) ++ [some (.l (rows (ext p ks)))])) g n i j a b (DD xo) (some (.own ((q ++ [none]).length + 1))) (I p) none (DD od) (DD co) (some (.own 0)) (DD r) (some (.own ((q ++ [none]).length + 1)))) := by
  obtain ⟨r, l⟩ := loopI (g := g) (n := n) (i := i) (j := j) (a := a) (b := b) (A := some (.l (rows rs))) (q := q ++ [none]) (ow := DD xo) (some_ := DD (.lst (rows ks))) (first := none) (ords := DD od) (count := DD co) (seen := some (.own 0)) hp ks [] (DD r0) all (by simpa using few) ne
  rw [List.nil_append] at l
  refine ⟨r, ?_⟩
  have l1 : (q ++ [none]).length = q.length + 1 := by rw [List.length_append]; rfl
  let s := S (some (.l (rows rs)) :: (q ++ [some (.l (rows ks))])) g n i j a b (DD xo) (some (.own (q.length + 1))) (I p) none (DD od) (DD co) (some (.own 0)) (DD r0) (some (.own (q.length + 1)))
  let s1 := S (some (.l (rows rs)) :: ((q ++ [some (.l (rows ks))]) ++ [some (.l (rows []))])) g n i j a b (DD xo) (some (.own (q.length + 1))) (I p) none (DD od) (DD co) (some (.own 0)) (DD r0) (some (.own ((q ++ [none]).length + 1)))
  have a1 : sSet 15 (eLstO aNil) s = .ok .nx s1 := by
    show Out.ok Fl.nx (S ((some (.l (rows rs)) :: (q ++ [some (.l (rows ks))])) ++ [some (.l [])]) g n i j a b (DD xo) (some (.own (q.length + 1))) (I p) none (DD od) (DD co) (some (.own 0)) (DD r0) (some (.own (some (OO.l (rows rs)) :: (q ++ [some (OO.l (rows ks))])).length))) = _
    rw [show (some (OO.l (rows rs)) :: (q ++ [some (OO.l (rows ks))])).length = (q ++ [none]).length + 1 by simp]
    rfl
  let s2 := S (some (.l (rows rs)) :: ((q ++ [none]) ++ [some (.l (rows []))])) g n i j a b (DD xo) (DD (.lst (rows ks))) (I p) none (DD od) (DD co) (some (.own 0)) (DD r0) (some (.own ((q ++ [none]).length + 1)))
  have it : iSeq (eVar 6) s1 = .ok (rows ks) s2 := by
    have got : s1.own[q.length + 1]? = some (some (.l (rows ks))) := by
      show (some (OO.l (rows rs)) :: ((q ++ [some (OO.l (rows ks))]) ++ [some (OO.l (rows []))]))[q.length + 1]? = _
      rw [List.getElem?_cons_succ, List.getElem?_append_left (by simp), List.getElem?_append_right (Nat.le_refl _), Nat.sub_self]
      rfl
    have fz : freeze (.own (q.length + 1)) s1 = .ok (.lst (rows ks)) s2 := by
      show (match s1.own[q.length + 1]? with | some (some (.l ds)) => Out.ok (D.lst ds) { s1 with loc := s1.loc.map (thaw (q.length + 1) (.lst ds)), own := s1.own.set (q.length + 1) none } | _ => .bad) = _
      rw [got]
      show Out.ok (D.lst (rows ks)) ({ s1 with loc := s1.loc.map (thaw (q.length + 1) (.lst (rows ks))), own := s1.own.set (q.length + 1) none } : LS) = _
      have own2 : s1.own.set (q.length + 1) none = some (OO.l (rows rs)) :: ((q ++ [none]) ++ [some (OO.l (rows []))]) := by
        show (some (OO.l (rows rs)) :: ((q ++ [some (OO.l (rows ks))]) ++ [some (OO.l (rows []))])).set (q.length + 1) none = _
        rw [List.set_cons_succ, List.set_append_left _ _ (by simp), List.set_append_right _ _ (Nat.le_refl _), Nat.sub_self]
        rfl
      have loc2 : s1.loc.map (thaw (q.length + 1) (.lst (rows ks))) = s2.loc := by
        have t6 : thaw (q.length + 1) (.lst (rows ks)) (some (.own (q.length + 1))) = DD (.lst (rows ks)) := if_pos rfl
        have t13 : thaw (q.length + 1) (.lst (rows ks)) (some (.own 0)) = some (.own 0) := by simp [thaw]
        have t15 : thaw (q.length + 1) (.lst (rows ks)) (some (.own ((q ++ [none]).length + 1))) = some (.own ((q ++ [none]).length + 1)) := by rw [l1]; simp [thaw]
        show [some (.d .scr), some (.d .town), I n, I i, I j, DD xo, thaw (q.length + 1) (.lst (rows ks)) (some (.own (q.length + 1))), I p, none, I a, I b, DD od, DD co, thaw (q.length + 1) (.lst (rows ks)) (some (.own 0)), DD r0, thaw (q.length + 1) (.lst (rows ks)) (some (.own ((q ++ [none]).length + 1))), none] = _
        rw [t6, t13, t15]
      rw [own2, loc2]
    unfold iSeq
    show Out.bind (freeze (.own (q.length + 1)) s1) _ = _
    rw [fz]
    rfl
  show body9 s = _
  unfold body9
  rw [sSeq_nx a1]
  have f : sFor (iSeq (eVar 6)) (gN 14) bodyI s1 = .ok .nx (S (some (.l (rows rs)) :: ((q ++ [none]) ++ [some (.l (rows (ext p ks)))])) g n i j a b (DD xo) (DD (.lst (rows ks))) (I p) none (DD od) (DD co) (some (.own 0)) (DD r) (some (.own ((q ++ [none]).length + 1)))) := by
    unfold sFor
    rw [it]
    exact l
  rw [sSeq_nx f]
  rfl
end
theorem sm_all : ((List.range 6).all fun m => ((SM m).all fun k => decide (k.length ≤ 100)) && (decide ((SM m).length ≤ 120) && !(SM m).isEmpty)) = true := by decide +kernel
theorem sm_at {m : Nat} (h : m ≤ 5) : (∀ k ∈ SM m, k.length ≤ 100) ∧ (SM m).length ≤ 120 ∧ SM m ≠ [] := by
  have z := List.all_eq_true.mp sm_all m (List.mem_range.mpr (by omega))
  simp only [Bool.and_eq_true, decide_eq_true_eq, List.all_eq_true] at z
  exact ⟨z.1, z.2.1, fun e => by rw [e] at z; exact absurd z.2.2 (by decide)⟩
theorem loop9 {g : GS} {n i j a b : Nat} {xo od co : D} {rs : List (List Int)} : ∀ (left m : Nat) (q : List (Option OO)) (r0 : D) (pl : Option Lv), (∀ k d, thaw k d pl = pl) → m + left ≤ 5 → ∃ q' r pl', (∀ k d, thaw k d pl' = pl') ∧ forL (gN 7) body9 (rgD (((m + 1 : Nat)) : Int) left) (S (some (.l (rows rs)) :: (q ++ [some (.l (rows (SM m)))])) g n i j a b (DD xo) (some (.own (q.length + 1))) pl none (DD od) (DD co) (some (.own 0)) (DD r0) (some (.own (q.length + 1)))) = .ok .nx (S (some (.l (rows rs)) :: (q' ++ [some (.l (rows (SM (m + left))))])) g n i j a b (DD xo) (some (.own (q'.length + 1))) pl' none (DD od) (DD co) (some (.own 0)) (DD r) (some (.own (q'.length + 1))))
  | 0, m, q, r0, pl, hp, _ => ⟨q, r0, pl, hp, rfl⟩
  | left + 1, m, q, r0, pl, _, few => by
    obtain ⟨s1, s2, s3⟩ := sm_at (m := m) (by omega)
    obtain ⟨r, t⟩ := turn9b (g := g) (n := n) (i := i) (j := j) (a := a) (b := b) (p := m + 1) (xo := xo) (r0 := r0) (od := od) (co := co) (rs := rs) (ks := SM m) (q := q) (by omega) s1 (by have : (m + 1) * (SM m).length ≤ 5 * 120 := Nat.mul_le_mul (by omega) s2; omega) s3
    have go := forL_cons (t := gN 7) (body := body9) (d := .int (((m + 1 : Nat)) : Int)) (r := rgD ((((m + 1 : Nat)) : Int) + 1) left) (s := S (some (.l (rows rs)) :: (q ++ [some (.l (rows (SM m)))])) g n i j a b (DD xo) (some (.own (q.length + 1))) pl none (DD od) (DD co) (some (.own 0)) (DD r0) (some (.own (q.length + 1)))) (loc' := (S (some (.l (rows rs)) :: (q ++ [some (.l (rows (SM m)))])) g n i j a b (DD xo) (some (.own (q.length + 1))) (I (m + 1)) none (DD od) (DD co) (some (.own 0)) (DD r0) (some (.own (q.length + 1)))).loc) rfl t
    obtain ⟨q', r', pl', hp', l⟩ := loop9 (g := g) (n := n) (i := i) (j := j) (a := a) (b := b) (xo := xo) (od := od) (co := co) (rs := rs) left (m + 1) (q ++ [none]) r (I (m + 1)) (fun _ _ => rfl) (by omega)
    rw [show m + 1 + left = m + (left + 1) by omega, show (((m + 1 + 1 : Nat)) : Int) = (((m + 1 : Nat)) : Int) + 1 by omega] at l
    exact ⟨q', r', pl', hp', go.trans l⟩
theorem ne_all : ([2, 3, 4, 5].all fun n => ((relS n).all fun k => !k.isEmpty) && (((SM n).map (ordGo [])).all fun k => !k.isEmpty)) = true := by decide +kernel
theorem ne_at {n : Nat} (n1 : 2 ≤ n) (n2 : n ≤ 5) : ((relS n).all fun k => !k.isEmpty) = true ∧ (((SM n).map (ordGo [])).all fun k => !k.isEmpty) = true := by
  have z := List.all_eq_true.mp ne_all n (by
    simp only [List.mem_cons, List.not_mem_nil, or_false]
    omega)
  rw [Bool.and_eq_true] at z
  exact z
theorem sortM_at {ks : List (List Int)} {s : LS} (few : ks.length ≤ 1000) (ne : (ks.all fun k => !k.isEmpty) = true) : sSortM (.lst (rows ks)) s = okD (.lst (rows (ks.mergeSort leI))) s := by
  show onO (rowsD (rows ks)) _ = _
  rw [rowsD_rows]
  show gd (decide (ks.length ≤ 1000) && ks.all (fun k => !k.isEmpty)) _ = _
  rw [decide_eq_true few, ne]
  rfl
def fromF : D → Option D
  | .tup ds => (intsD ds).map fun k => .tup ((ordGo [] k).map D.int)
  | _ => none
theorem from_rows : ∀ ks : List (List Int), (rows ks).filterMap fromF = rows (ks.map (ordGo []))
  | [] => rfl
  | k :: r => by
    have e : fromF (.tup (k.map D.int)) = some (.tup ((ordGo [] k).map D.int)) := by
      show (intsD (k.map D.int)).map _ = _
      rw [show intsD (k.map D.int) = some k from intsD_ofI k]
      rfl
    show (D.tup (k.map D.int) :: rows r).filterMap fromF = _
    rw [List.filterMap_cons, e]
    simp only [from_rows r]
    rfl
def firstF (a : Int) : D → Option D
  | .tup ds => match intsD ds with
    | some k => if k[0]? = some a then some (.tup (k.map D.int)) else none
    | none => none
  | _ => none
theorem first_rows (a : Int) : ∀ ks : List (List Int), (rows ks).filterMap (firstF a) = rows (ks.filter fun xs => decide (xs[0]? = some a))
  | [] => rfl
  | k :: r => by
    have e : firstF a (.tup (k.map D.int)) = if k[0]? = some a then some (.tup (k.map D.int)) else none := by
      show (match intsD (k.map D.int) with | some k => if k[0]? = some a then some (D.tup (k.map D.int)) else none | none => none) = _
      rw [show intsD (k.map D.int) = some k from intsD_ofI k]
    show (D.tup (k.map D.int) :: rows r).filterMap (firstF a) = _
    rw [List.filterMap_cons, e]
    by_cases c : k[0]? = some a
    · rw [if_pos c, List.filter_cons_of_pos (by simpa using c)]
      simp only [first_rows a r]
      rfl
    · rw [if_neg c, List.filter_cons_of_neg (by simpa using c)]
      simp only [first_rows a r]
section
variable {g : GS} {n i j a b : Nat} (F : Fs n) (n1 : 2 ≤ n) (n2 : n ≤ 5)
include F n1 n2
theorem run6 (hi : 1 ≤ i) (hj : 1 ≤ j) (li : i ≤ n) (lj : j ≤ n) : ∃ xo r, c_law_6 (S (R []) g n i j a b none none none none (DD (.lst (rows (OS n)))) (I 0) (some (.own 0)) none none) = .ok .nx (S (R (relS n)) g n i j a b (DD xo) none none none (DD (.lst (rows (OS n)))) (I (hits (relS n) (i - 1) (j - 1) ((a : Nat) : Int) ((b : Nat) : Int))) (some (.own 0)) (DD r) none) := by
  obtain ⟨xo, r, l⟩ := loop6 (g := g) (n := n) (i := i) (j := j) (a := a) (b := b) (some_ := none) (place := none) (first := none) (ords := DD (.lst (rows (OS n)))) (longer := none) (by omega) (by omega) hi hj li lj (OS n) [] none none F.few.2 (fun xs h => os_perm F h) (by have := F.few.1.1; simp only [List.length_nil]; omega)
  exact ⟨xo, r, l⟩
theorem run7 (hi : 1 ≤ i) (hij : i < j) (lj : j ≤ n) (ha : 1 ≤ a ∧ a ≤ i) (hb : 1 ≤ b ∧ b ≤ j) {ow ranks : Option Lv} : c_law_7 (S (R (relS n)) g n i j a b ow none none none (DD (.lst (rows (OS n)))) (I (hits (relS n) (i - 1) (j - 1) ((a : Nat) : Int) ((b : Nat) : Int))) (some (.own 0)) ranks none) = .ok .nx (S (R (relS n)) g n i j a b ow none none none (DD (.lst (rows (OS n)))) (I (hits (relS n) (i - 1) (j - 1) ((a : Nat) : Int) ((b : Nat) : Int))) (some (.own 0)) ranks none) := by
  let h := hits (relS n) (i - 1) (j - 1) ((a : Nat) : Int) ((b : Nat) : Int)
  let s := S (R (relS n)) g n i j a b ow none none none (DD (.lst (rows (OS n)))) (I h) (some (.own 0)) ranks none
  have rl : (relS n).length = (OS n).length := List.length_map ..
  have few := F.few.1.1
  have m1 := mul_small (s := s) (fa := eVar 12) (fb := eVar 3) (x := ((h : Nat) : Int)) (y := ((i : Nat) : Int)) rfl rfl (by omega)
  have m2 := mul_small (s := s) (fb := eVar 4) (y := ((j : Nat) : Int)) m1 rfl (by omega)
  have t1 := tV_d (ne_intD m2 (lenL (s := s) (fa := eVar 11) (ds := rows (OS n)) rfl))
  have e : ((h : Nat) : Int) * ((i : Nat) : Int) * ((j : Nat) : Int) = (((rows (OS n)).length : Nat) : Int) := by
    have := hit_at F (i := i) (j := j) (a := a) (b := b) hi hij lj ha hb
    rw [List.length_map, ← rl, ← this]
    simp [h]
  rw [decide_eq_true e] at t1
  have c1 : eUn sLsT (eVar 13) s = okD (.int ((relS n).length : Nat)) s := by
    rw [own_un (s := s) (fa := eVar 13) (k := 0) (ds := rows (relS n)) rfl rfl]
    show onO (rowsD (rows (relS n))) _ = _
    rw [rowsD_rows]
    show gd (apart (relS n)) _ = _
    rw [apart_of F.nod (by omega)]
    rfl
  have c2 : eB (arg1 sLen) (aCons (eVar 13) aNil) s = okD (.int ((relS n).length : Nat)) s := by
    rw [own_arg (s := s) (fa := eVar 13) (k := 0) (ds := rows (relS n)) rfl rfl]
    show okD (.int ((rows (relS n)).length : Nat)) s = _
    rw [List.length_map]
  have t2 := tV_d (ne_intD c1 c2)
  rw [decide_eq_true rfl] at t2
  show c_law_7 s = _
  unfold c_law_7
  rw [sIf_f (tOu_d t1 t2)]
  rfl
theorem run9 {xo r0 co : D} : ∃ q r pl, (∀ k d, thaw k d pl = pl) ∧ c_law_9 (S (R (relS n)) g n i j a b (DD xo) (DD (.lst [.tup []])) none none (DD (.lst (rows (OS n)))) (DD co) (some (.own 0)) (DD r0) none) = .ok .nx (S (some (.l (rows (relS n))) :: (q ++ [some (.l (rows (SM n)))])) g n i j a b (DD xo) (some (.own (q.length + 1))) pl none (DD (.lst (rows (OS n)))) (DD co) (some (.own 0)) (DD r) (some (.own (q.length + 1)))) := by
  let s := S (R (relS n)) g n i j a b (DD xo) (DD (.lst (rows (SM 0)))) none none (DD (.lst (rows (OS n)))) (DD co) (some (.own 0)) (DD r0) none
  obtain ⟨s1, s2, s3⟩ := sm_at (m := 0) (by omega)
  obtain ⟨r, t⟩ := turn9a (g := g) (n := n) (i := i) (j := j) (a := a) (b := b) (p := 1) (xo := xo) (r0 := r0) (od := .lst (rows (OS n))) (co := co) (rs := relS n) (ks := SM 0) (x15 := none) rfl (by omega) s1 (by omega) s3
  obtain ⟨q', r', pl', hp', l⟩ := loop9 (g := g) (n := n) (i := i) (j := j) (a := a) (b := b) (xo := xo) (od := .lst (rows (OS n))) (co := co) (rs := relS n) (n - 1) 1 [] r (I 1) (fun _ _ => rfl) (by omega)
  rw [show 1 + (n - 1) = n by omega] at l
  refine ⟨q', r', pl', hp', ?_⟩
  have up : eOp sAdd (eVar 2) (eC (.int 1)) s = .ok (.d (.int (((n : Nat) : Int) + 1))) s := add_d (s := s) (fa := eVar 2) (fb := eC (.int 1)) (i := ((n : Nat) : Int)) (j := 1) rfl rfl
  have it : iRng rng2 (aCons (eC (.int 1)) (aCons (eOp sAdd (eVar 2) (eC (.int 1))) aNil)) s = .ok (.int 1 :: rgD 2 (n - 1)) s := by
    rw [iRng_d (aCons_d (show eC (.int 1) s = .ok (.d (.int 1)) s from rfl) (aCons_d up aNil_d)) (is := [1, ((n : Nat) : Int) + 1]) rfl]
    dsimp only [rng2]
    have sm : (small 1 && small (((n : Nat) : Int) + 1)) = true := by rw [small_medium (by omega), small_medium (by omega)]; rfl
    have e : ((((n : Nat) : Int) + 1) - 1).toNat = (n - 1) + 1 := by omega
    rw [sm, e]
    rfl
  have ed : c_law_9 = sFor (iRng rng2 (aCons (eC (.int 1)) (aCons (eOp sAdd (eVar 2) (eC (.int 1))) aNil))) (gN 7) body9 := rfl
  show c_law_9 s = _
  rw [ed]
  unfold sFor
  rw [it]
  show forL (gN 7) body9 (.int 1 :: rgD 2 (n - 1)) s = _
  exact (forL_cons (loc' := (S (R (relS n)) g n i j a b (DD xo) (DD (.lst (rows (SM 0)))) (I 1) none (DD (.lst (rows (OS n)))) (DD co) (some (.own 0)) (DD r0) none).loc) rfl t).trans l
theorem run10 {q : List (Option OO)} {xo r co : D} {pl : Option Lv} (hpl : ∀ k d, thaw k d pl = pl) : c_law_10 (S (some (.l (rows (relS n))) :: (q ++ [some (.l (rows (SM n)))])) g n i j a b (DD xo) (some (.own (q.length + 1))) pl none (DD (.lst (rows (OS n)))) (DD co) (some (.own 0)) (DD r) (some (.own (q.length + 1)))) = .ok .nx (S (some (.l (rows (relS n))) :: (q ++ [none])) g n i j a b (DD xo) (DD (.lst (rows (SM n)))) pl none (DD (.lst (rows (OS n)))) (DD co) (some (.own 0)) (DD r) (DD (.lst (rows (SM n))))) := by
  let s := S (some (.l (rows (relS n))) :: (q ++ [some (.l (rows (SM n)))])) g n i j a b (DD xo) (some (.own (q.length + 1))) pl none (DD (.lst (rows (OS n)))) (DD co) (some (.own 0)) (DD r) (some (.own (q.length + 1)))
  let s' := S (some (.l (rows (relS n))) :: (q ++ [none])) g n i j a b (DD xo) (DD (.lst (rows (SM n)))) pl none (DD (.lst (rows (OS n)))) (DD co) (some (.own 0)) (DD r) (DD (.lst (rows (SM n))))
  have rl : (relS n).length = (OS n).length := List.length_map ..
  obtain ⟨⟨few, fewM⟩, _⟩ := F.few
  obtain ⟨ne1, ne2⟩ := ne_at n1 n2
  have c1 : eB (arg1 sSortM) (aCons (eVar 13) aNil) s = okD (.lst (rows (SM n))) s := by
    rw [own_arg (s := s) (fa := eVar 13) (k := 0) (ds := rows (relS n)) rfl rfl, sortM_at (by omega) ne1, sort_is F.p1 F.s1]
  have t1 : tV (eOp sNe (eB (arg1 sSortM) (aCons (eVar 13) aNil)) (eVar 6)) s = .ok false s := by
    refine tV_d ?_
    rw [own_rhs (s := s) (fb := eVar 6) (k := q.length + 1) (ds := rows (SM n)) c1 rfl last_own]
    show onO (eqG s.g (.lst (rows (SM n))) (.lst (rows (SM n)))) _ = _
    rw [eqG_rows]
    rfl
  have it : iSeq (eVar 6) s = .ok (rows (SM n)) s' := by
    have fz : freeze (.own (q.length + 1)) s = .ok (.lst (rows (SM n))) s' := by
      show (match s.own[q.length + 1]? with | some (some (.l ds)) => Out.ok (D.lst ds) { s with loc := s.loc.map (thaw (q.length + 1) (.lst ds)), own := s.own.set (q.length + 1) none } | _ => .bad) = _
      rw [show s.own[q.length + 1]? = some (some (.l (rows (SM n)))) from last_own]
      show Out.ok (D.lst (rows (SM n))) ({ s with loc := s.loc.map (thaw (q.length + 1) (.lst (rows (SM n)))), own := s.own.set (q.length + 1) none } : LS) = _
      have own2 : s.own.set (q.length + 1) none = some (OO.l (rows (relS n))) :: (q ++ [none]) := set_own
      have loc2 : s.loc.map (thaw (q.length + 1) (.lst (rows (SM n)))) = s'.loc := by
        have t6 : thaw (q.length + 1) (.lst (rows (SM n))) (some (.own (q.length + 1))) = DD (.lst (rows (SM n))) := if_pos rfl
        have t13 : thaw (q.length + 1) (.lst (rows (SM n))) (some (.own 0)) = some (.own 0) := by simp [thaw]
        show [some (.d .scr), some (.d .town), I n, I i, I j, DD xo, thaw (q.length + 1) (.lst (rows (SM n))) (some (.own (q.length + 1))), thaw (q.length + 1) (.lst (rows (SM n))) pl, none, I a, I b, DD (.lst (rows (OS n))), DD co, thaw (q.length + 1) (.lst (rows (SM n))) (some (.own 0)), DD r, thaw (q.length + 1) (.lst (rows (SM n))) (some (.own (q.length + 1))), none] = _
        rw [t6, t13, hpl]
      rw [own2, loc2]
    unfold iSeq
    show Out.bind (freeze (.own (q.length + 1)) s) _ = _
    rw [fz]
    rfl
  have each : ∀ d ∈ rows (SM n), lcTurn (gN 14) tYe (eCall m_from_relative (aCons (eVar 14) aNil)) (Br.seen s'.loc [14]) d s'.g = some (fromF d, s'.g) := by
    intro d hd
    obtain ⟨k, hk, rfl⟩ := List.mem_map.mp hd
    obtain ⟨ok, lk⟩ := sm_ok F hk
    let u : LS := ⟨[some (.d .scr), some (.d .town), I n, I i, I j, DD xo, DD (.lst (rows (SM n))), dataOnly pl, none, I a, I b, DD (.lst (rows (OS n))), DD co, none, DD (.tup (ofI k)), DD (.lst (rows (SM n))), none], [], g⟩
    have c : eCall m_from_relative (aCons (eVar 14) aNil) u = okD (.tup (ofI (ordGo [] k))) u := eCall1 (s := u) (m := m_from_relative) (fa := eVar 14) (d := .tup (ofI k)) rfl (from_at (by omega) (by omega) ok g)
    show (match eCall m_from_relative (aCons (eVar 14) aNil) u with | .ok (.d y) s2 => some (some y, s2.g) | _ => none) = some ((intsD (k.map D.int)).map fun k => D.tup ((ordGo [] k).map D.int), g)
    rw [c, show intsD (k.map D.int) = some k from intsD_ofI k]
    rfl
  have comp := eLc_ok (fi := iSeq (eVar 6)) (vs := [14]) (s := s) (s1 := s') (ds := rows (SM n)) it (by rw [List.length_map]; omega) each
  rw [from_rows] at comp
  have c2 : eB (arg1 sSortM) (aCons (eLc (iSeq (eVar 6)) (gN 14) tYe (eCall m_from_relative (aCons (eVar 14) aNil)) [14]) aNil) s = okD (.lst (rows (OS n))) s' := by
    rw [eB1_s comp, sortM_at (by rw [List.length_map]; omega) ne2, sort_is F.p2 F.s2]
  have t2 : tV (eOp sNe (eB (arg1 sSortM) (aCons (eLc (iSeq (eVar 6)) (gN 14) tYe (eCall m_from_relative (aCons (eVar 14) aNil)) [14]) aNil)) (eVar 11)) s = .ok false s' := by
    refine tV_n ?_
    rw [eOp_l c2 (show eVar 11 s' = okD (.lst (rows (OS n))) s' from rfl)]
    show onO (eqG s'.g (.lst (rows (OS n))) (.lst (rows (OS n)))) _ = _
    rw [eqG_rows]
    rfl
  show c_law_10 s = _
  unfold c_law_10
  rw [sIf_f ((tOu_n t1).trans t2)]
  rfl
theorem run11 {own : List (Option OO)} {xo : D} {some_ pl first count seen ranks longer : Option Lv} (ha : a ≤ n) : c_law_11 (S own g n i j a b (DD xo) some_ pl first (DD (.lst (rows (OS n)))) count seen ranks longer) = .ok .nx (S own g n i j a b (DD xo) some_ pl (DD (.lst (rows ((OS n).filter fun xs => decide (xs[0]? = some ((a : Nat) : Int)))))) (DD (.lst (rows (OS n)))) count seen ranks longer) := by
  let s := S own g n i j a b (DD xo) some_ pl first (DD (.lst (rows (OS n)))) count seen ranks longer
  have t1 : tV (eOp sLe (eVar 9) (eVar 2)) s = .ok (decide (((a : Nat) : Int) ≤ ((n : Nat) : Int))) s := tV_d (eOp_d (show eVar 9 s = okD (.int ((a : Nat) : Int)) s from rfl) (show eVar 2 s = okD (.int ((n : Nat) : Int)) s from rfl))
  rw [decide_eq_true (by omega)] at t1
  have few := F.few.1.1
  have each : ∀ d ∈ rows (OS n), lcTurn (gN 5) (tV (eOp sEq (eOp sIx (eVar 5) (eC (.int 0))) (eVar 9))) (eVar 5) (Br.seen s.loc [5]) d s.g = some (firstF ((a : Nat) : Int) d, s.g) := by
    intro d hd
    obtain ⟨k, hk, rfl⟩ := List.mem_map.mp hd
    have lk := perm_len (os_perm F hk)
    obtain ⟨v, hv⟩ : ∃ v, k[0]? = some v := ⟨_, List.getElem?_eq_getElem (by omega)⟩
    let u : LS := ⟨[some (.d .scr), some (.d .town), I n, I i, I j, DD (.tup (ofI k)), dataOnly some_, dataOnly pl, dataOnly first, I a, I b, DD (.lst (rows (OS n))), dataOnly count, dataOnly seen, dataOnly ranks, dataOnly longer, none], [], g⟩
    have t := tV_d (eq_intD (ix_tupD (s := u) (fa := eVar 5) (fb := eC (.int 0)) (xs := k) (a := 0) rfl rfl (at_nat k (k := 0) hv)) (show eVar 9 u = okD (.int ((a : Nat) : Int)) u from rfl))
    show (match tV (eOp sEq (eOp sIx (eVar 5) (eC (.int 0))) (eVar 9)) u with | .ok true s1 => (match eVar 5 s1 with | .ok (.d y) s2 => some (some y, s2.g) | _ => none) | .ok false s1 => some (none, s1.g) | _ => none) = some (match intsD (k.map D.int) with | some k => if k[0]? = some ((a : Nat) : Int) then some (D.tup (k.map D.int)) else none | none => none, g)
    rw [t, show intsD (k.map D.int) = some k from intsD_ofI k]
    show _ = some (if k[0]? = some ((a : Nat) : Int) then some (D.tup (k.map D.int)) else none, g)
    rw [hv]
    by_cases h : v = ((a : Nat) : Int)
    · rw [decide_eq_true h, if_pos (by rw [h])]
      rfl
    · rw [decide_eq_false h, if_neg (fun z => h (Option.some.inj z))]
  have comp := eLc_ok (fi := iSeq (eVar 11)) (vs := [5]) (s := s) (s1 := s) (ds := rows (OS n)) rfl (by rw [List.length_map]; omega) each
  rw [first_rows] at comp
  have c : eIf (tV (eOp sLe (eVar 9) (eVar 2))) (eLc (iSeq (eVar 11)) (gN 5) (tV (eOp sEq (eOp sIx (eVar 5) (eC (.int 0))) (eVar 9))) (eVar 5) [5]) (eLst aNil) s = okD (.lst (rows ((OS n).filter fun xs => decide (xs[0]? = some ((a : Nat) : Int))))) s := by
    unfold eIf
    rw [t1]
    exact comp
  exact (sSet_d c).trans rfl
theorem run12 {own : List (Option OO)} {ow some_ pl count seen ranks longer : Option Lv} (h1 : 1 ≤ a) (h2 : a ≤ n) : c_law_12 (S own g n i j a b ow some_ pl (DD (.lst (rows ((OS n).filter fun xs => decide (xs[0]? = some ((a : Nat) : Int)))))) (DD (.lst (rows (OS n)))) count seen ranks longer) = .ok (.ret (.bl true)) (S own g n i j a b ow some_ pl (DD (.lst (rows ((OS n).filter fun xs => decide (xs[0]? = some ((a : Nat) : Int)))))) (DD (.lst (rows (OS n)))) count seen ranks longer) := by
  let fl := (OS n).filter fun xs => decide (xs[0]? = some ((a : Nat) : Int))
  let s := S own g n i j a b ow some_ pl (DD (.lst (rows fl))) (DD (.lst (rows (OS n)))) count seen ranks longer
  obtain ⟨init, xs, e⟩ : ∃ init xs, OS n = init ++ [xs] := ⟨_, _, (List.dropLast_concat_getLast F.few.2).symm⟩
  have px := os_perm F (xs := xs) (by rw [e]; simp)
  have ix : eOp sIx (eVar 11) (eUn sNeg (eC (.int 1))) s = okD (.tup (ofI xs)) s := by
    rw [eOp_d (show eVar 11 s = okD (.lst (rows (OS n))) s from rfl) (show eUn sNeg (eC (.int 1)) s = okD (.int (-1)) s from rfl)]
    show onO (atI (rows (OS n)) (-1)) _ = _
    rw [show rows (OS n) = rows init ++ [D.tup (ofI xs)] by rw [e, rows, rows, List.map_append]; rfl, at_lastD]
    rfl
  have c1 : eCall m_is_order (aCons (eOp sIx (eVar 11) (eUn sNeg (eC (.int 1)))) aNil) s = okD (.bl true) s := eCall1 (s := s) (m := m_is_order) ix (order_at (upto_ord (by omega) (by omega) px).1 g)
  have a1 : eOp sIs (eCall m_is_order (aCons (eOp sIx (eVar 11) (eUn sNeg (eC (.int 1)))) aNil)) (eC (.bl true)) s = okD (.bl true) s := (eOp_d c1 (show eC (.bl true) s = okD (.bl true) s from rfl)).trans rfl
  have m1 := mul_small (lenL (s := s) (fa := eVar 8) (ds := rows fl) rfl) (show eVar 2 s = okD (.int ((n : Nat) : Int)) s from rfl) (by omega)
  have a2 := eq_intD m1 (lenL (s := s) (fa := eVar 11) (ds := rows (OS n)) rfl)
  have q := first_at F h1 h2
  rw [decide_eq_true (show (((rows fl).length : Nat) : Int) * ((n : Nat) : Int) = (((rows (OS n)).length : Nat) : Int) by rw [List.length_map, List.length_map, ← q]; simp [fl])] at a2
  show c_law_12 s = _
  unfold c_law_12
  exact sRet_d ((eAn_t a1).trans a2)
end
theorem all_at {n : Nat} (n1 : 2 ≤ n) (n2 : n ≤ 5) (ns : List Int) (t : Option Nat) : m__law_all_orders [.int ((n : Nat) : Int)] ⟨ns, t, []⟩ = .ok (.lst (rows (OS n))) ⟨ns, t, []⟩ := by
  rw [← x__law_all_orders_eq]
  show (match (if 1 ≤ n ∧ n ≤ 5 then some (D.lst ((allO n n).map fun xs => .tup (ofI xs))) else none) with | some d => FOut.ok d ⟨ns, t, []⟩ | none => m__law_all_orders [.int ((n : Nat) : Int)] ⟨ns, t, []⟩) = _
  rw [if_pos (by omega)]
  rfl
theorem draw_d {ns : List Int} {t : Nat} {loc : Loc0} {own : List (Option OO)} {fm : LS → Out Lv} {many off : Nat} (hl : ns.length ≤ 63) (ht : t < 100000) (v0 : loc[0]? = some (some (.d .scr))) (v1 : loc[1]? = some (some (.d .town))) (hm : fm ⟨loc, own, ⟨ns, some t, []⟩⟩ = okD (.int ((many : Nat) : Int)) ⟨loc, own, ⟨ns, some t, []⟩⟩) (pos : 0 < many) {fo : LS → Out Lv} (ho : fo ⟨loc, own, ⟨ns, some t, []⟩⟩ = okD (.int ((off : Nat) : Int)) ⟨loc, own, ⟨ns, some t, []⟩⟩) : ∃ x : Nat, x < many ∧ eOp sAdd fo (eCall m__law_draw (aCons (eVar 0) (aCons (eVar 1) (aCons fm aNil)))) ⟨loc, own, ⟨ns, some t, []⟩⟩ = okD (.int ((off + x : Nat) : Int)) ⟨loc, own, ⟨ns, some (t + 1), []⟩⟩ := by
  obtain ⟨x, x0, x1, e⟩ := draw_ok ns hl t ht [] ((many : Nat) : Int) (by omega)
  let s : LS := ⟨loc, own, ⟨ns, some t, []⟩⟩
  have e0 : eVar 0 s = okD .scr s := by unfold eVar; rw [show s.loc[0]? = some (some (.d .scr)) from v0]
  have e1 : eVar 1 s = okD .town s := by unfold eVar; rw [show s.loc[1]? = some (some (.d .town)) from v1]
  have c := eCall3 (s := s) (m := m__law_draw) (d := .scr) (e := .town) (q := .int ((many : Nat) : Int)) e0 e1 hm e
  refine ⟨x.toNat, by omega, ?_⟩
  rw [eOp_s (sem := sAdd) ho c]
  show okD (.int (((off : Nat) : Int) + x)) _ = _
  rw [show ((off : Nat) : Int) + x = ((off + x.toNat : Nat) : Int) by omega]
theorem law_true : ∀ ns : List Int, ns.length ≤ 63 → ∃ g', m_law [.scr] ⟨ns, none, []⟩ = .ok (.bl true) g' := by
  intro ns hl
  let G (t : Nat) : GS := ⟨ns, some t, []⟩
  let L (n i j a b : Option Lv) : Loc0 := [some (.d .scr), some (.d .town), n, i, j, none, none, none, none, a, b, none, none, none, none, none, none]
  have first : c_law_0 ⟨[some (.d .scr), none, none, none, none, none, none, none, none, none, none, none, none, none, none, none, none], [], ⟨ns, none, []⟩⟩ = .ok .nx ⟨L none none none none none, [], G 0⟩ := rfl
  obtain ⟨x, hx, d1⟩ := draw_d (loc := L none none none none none) (own := []) (fm := eC (.int 4)) (fo := eC (.int 2)) (many := 4) (off := 2) hl (t := 0) (by omega) rfl rfl rfl (by omega) rfl
  have e1 : c_law_1 ⟨L none none none none none, [], G 0⟩ = .ok .nx ⟨L (I (2 + x)) none none none none, [], G 1⟩ := (sSet_d d1).trans rfl
  generalize hn : 2 + x = n at e1
  have n1 : 2 ≤ n := by omega
  have n2 : n ≤ 5 := by omega
  have F := fs_at n1 n2
  have sub1 : eOp sSub (eVar 2) (eC (.int 1)) ⟨L (I n) none none none none, [], G 1⟩ = okD (.int ((n - 1 : Nat) : Int)) ⟨L (I n) none none none none, [], G 1⟩ := by
    rw [sub_d (s := ⟨L (I n) none none none none, [], G 1⟩) (fa := eVar 2) (fb := eC (.int 1)) (i := ((n : Nat) : Int)) (j := 1) rfl rfl, show ((n : Nat) : Int) - 1 = ((n - 1 : Nat) : Int) by omega]
  obtain ⟨y, hy, d2⟩ := draw_d (loc := L (I n) none none none none) (own := []) (fo := eC (.int 1)) (many := n - 1) (off := 1) hl (t := 1) (by omega) rfl rfl sub1 (by omega) rfl
  have e2 : c_law_2 ⟨L (I n) none none none none, [], G 1⟩ = .ok .nx ⟨L (I n) (I (1 + y)) none none none, [], G 2⟩ := (sSet_d d2).trans rfl
  generalize hi : 1 + y = i at e2
  have sub2 : eOp sSub (eVar 2) (eVar 3) ⟨L (I n) (I i) none none none, [], G 2⟩ = okD (.int ((n - i : Nat) : Int)) ⟨L (I n) (I i) none none none, [], G 2⟩ := by
    rw [sub_d (s := ⟨L (I n) (I i) none none none, [], G 2⟩) (fa := eVar 2) (fb := eVar 3) (i := ((n : Nat) : Int)) (j := ((i : Nat) : Int)) rfl rfl, show ((n : Nat) : Int) - ((i : Nat) : Int) = ((n - i : Nat) : Int) by omega]
  have add2 : eOp sAdd (eVar 3) (eC (.int 1)) ⟨L (I n) (I i) none none none, [], G 2⟩ = okD (.int ((i + 1 : Nat) : Int)) ⟨L (I n) (I i) none none none, [], G 2⟩ := by
    rw [add_d (s := ⟨L (I n) (I i) none none none, [], G 2⟩) (fa := eVar 3) (fb := eC (.int 1)) (i := ((i : Nat) : Int)) (j := 1) rfl rfl, show ((i : Nat) : Int) + 1 = ((i + 1 : Nat) : Int) by omega]
  obtain ⟨z, hz, d3⟩ := draw_d (loc := L (I n) (I i) none none none) (own := []) (many := n - i) (off := i + 1) hl (t := 2) (by omega) rfl rfl sub2 (by omega) add2
  have e3 : c_law_3 ⟨L (I n) (I i) none none none, [], G 2⟩ = .ok .nx ⟨L (I n) (I i) (I (i + 1 + z)) none none, [], G 3⟩ := (sSet_d d3).trans rfl
  generalize hj : i + 1 + z = j at e3
  obtain ⟨u, hu, d4⟩ := draw_d (loc := L (I n) (I i) (I j) none none) (own := []) (fm := eVar 3) (fo := eC (.int 1)) (many := i) (off := 1) hl (t := 3) (by omega) rfl rfl rfl (by omega) rfl
  obtain ⟨v, hv, d5⟩ := draw_d (loc := L (I n) (I i) (I j) none none) (own := []) (fm := eVar 4) (fo := eC (.int 1)) (many := j) (off := 1) hl (t := 4) (by omega) rfl rfl rfl (by omega) rfl
  have e4 : c_law_4 ⟨L (I n) (I i) (I j) none none, [], G 3⟩ = .ok .nx ⟨L (I n) (I i) (I j) (I (1 + u)) (I (1 + v)), [], G 5⟩ := by
    unfold c_law_4 sAsg eTup
    rw [aCons_d d4 (aCons_d d5 aNil_d)]
    rfl
  generalize ha : 1 + u = a at e4
  generalize hb : 1 + v = b at e4
  have e5 : c_law_5 ⟨L (I n) (I i) (I j) (I a) (I b), [], G 5⟩ = .ok .nx (S (R []) (G 5) n i j a b none none none none (DD (.lst (rows (OS n)))) (I 0) (some (.own 0)) none none) := by
    have c : eCall m__law_all_orders (aCons (eVar 2) aNil) ⟨L (I n) (I i) (I j) (I a) (I b), [], G 5⟩ = okD (.lst (rows (OS n))) ⟨L (I n) (I i) (I j) (I a) (I b), [], G 5⟩ := eCall1 (s := ⟨L (I n) (I i) (I j) (I a) (I b), [], G 5⟩) (m := m__law_all_orders) (fa := eVar 2) (d := .int ((n : Nat) : Int)) rfl (all_at n1 n2 ns (some 5))
    unfold c_law_5 sPar3
    show Out.bind (Out.bind (eCall m__law_all_orders (aCons (eVar 2) aNil) ⟨L (I n) (I i) (I j) (I a) (I b), [], G 5⟩) _) _ = _
    rw [c]
    rfl
  obtain ⟨xo, r, e6⟩ := run6 (g := G 5) (i := i) (j := j) (a := a) (b := b) F n1 n2 (by omega) (by omega) (by omega) (by omega)
  have e7 := run7 (g := G 5) (i := i) (j := j) (a := a) (b := b) (ow := DD xo) (ranks := DD r) F n1 n2 (by omega) (by omega) (by omega) (by omega) (by omega)
  let co : D := .int ((hits (relS n) (i - 1) (j - 1) ((a : Nat) : Int) ((b : Nat) : Int) : Nat) : Int)
  have e8 : c_law_8 (S (R (relS n)) (G 5) n i j a b (DD xo) none none none (DD (.lst (rows (OS n)))) (DD co) (some (.own 0)) (DD r) none) = .ok .nx (S (R (relS n)) (G 5) n i j a b (DD xo) (DD (.lst [.tup []])) none none (DD (.lst (rows (OS n)))) (DD co) (some (.own 0)) (DD r) none) := rfl
  obtain ⟨q, r', pl, hpl, e9⟩ := run9 (g := G 5) (i := i) (j := j) (a := a) (b := b) (xo := xo) (r0 := r) (co := co) F n1 n2
  refine ⟨G 5, ?_⟩
  show fin (d_law ⟨[some (.d .scr), none, none, none, none, none, none, none, none, none, none, none, none, none, none, none, none], [], ⟨ns, none, []⟩⟩) = _
  unfold d_law
  rw [sSeq_nx first, sSeq_nx e1, sSeq_nx e2, sSeq_nx e3, sSeq_nx e4, sSeq_nx e5, sSeq_nx e6, sSeq_nx e7, sSeq_nx e8, sSeq_nx e9, sSeq_nx (run10 F n1 n2 hpl), sSeq_nx (run11 F n1 n2 (by omega)), run12 F n1 n2 (by omega) (by omega)]
  rfl
theorem all_mk {w : World} {K : PySem.W.Frag} {h : Heap} {mg : Str → Option Value} {fa : Addr} (X : K.In h) (G : h.Ns mainGlobals mg) (hfa : mg "law" = some (.ref fa))
    {fa_is_integer : Addr} {oc_is_integer kV_is_integer dc_is_integer pm_is_integer cd_is_integer ct_is_integer : Value} {od_is_integer an_is_integer : Option Addr} {sl_is_integer : Array (Option Value)}
    {fa_is_order : Addr} {oc_is_order kV_is_order dc_is_order pm_is_order cd_is_order ct_is_order : Value} {od_is_order an_is_order : Option Addr} {sl_is_order : Array (Option Value)}
    {fa_check_order : Addr} {oc_check_order kV_check_order dc_check_order pm_check_order cd_check_order ct_check_order : Value} {od_check_order an_check_order : Option Addr} {sl_check_order : Array (Option Value)}
    {fa_relative_of : Addr} {oc_relative_of kV_relative_of dc_relative_of pm_relative_of cd_relative_of ct_relative_of : Value} {od_relative_of an_relative_of : Option Addr} {sl_relative_of : Array (Option Value)}
    {fa_relative : Addr} {oc_relative kV_relative dc_relative pm_relative cd_relative ct_relative : Value} {od_relative an_relative : Option Addr} {sl_relative : Array (Option Value)}
    {fa_order_of : Addr} {oc_order_of kV_order_of dc_order_of pm_order_of cd_order_of ct_order_of : Value} {od_order_of an_order_of : Option Addr} {sl_order_of : Array (Option Value)}
    {fa_from_relative : Addr} {oc_from_relative kV_from_relative dc_from_relative pm_from_relative cd_from_relative ct_from_relative : Value} {od_from_relative an_from_relative : Option Addr} {sl_from_relative : Array (Option Value)}
    {fa_records : Addr} {oc_records kV_records dc_records pm_records cd_records ct_records : Value} {od_records an_records : Option Addr} {sl_records : Array (Option Value)}
    {fa_law_cell_at : Addr} {oc_law_cell_at kV_law_cell_at dc_law_cell_at pm_law_cell_at cd_law_cell_at ct_law_cell_at : Value} {od_law_cell_at an_law_cell_at : Option Addr} {sl_law_cell_at : Array (Option Value)}
    {fa_law_mixed : Addr} {oc_law_mixed kV_law_mixed dc_law_mixed pm_law_mixed cd_law_mixed ct_law_mixed : Value} {od_law_mixed an_law_mixed : Option Addr} {sl_law_mixed : Array (Option Value)}
    {fa_law_draw : Addr} {oc_law_draw kV_law_draw dc_law_draw pm_law_draw cd_law_draw ct_law_draw : Value} {od_law_draw an_law_draw : Option Addr} {sl_law_draw : Array (Option Value)}
    {fa_law_all_orders : Addr} {oc_law_all_orders kV_law_all_orders dc_law_all_orders pm_law_all_orders cd_law_all_orders ct_law_all_orders : Value} {od_law_all_orders an_law_all_orders : Option Addr} {sl_law_all_orders : Array (Option Value)}
    {fa_law : Addr} {oc_law kV_law dc_law pm_law cd_law ct_law : Value} {od_law an_law : Option Addr} {sl_law : Array (Option Value)}
    {t_MOST : Tok}
    {C_InvalidOrder : Addr}
    {C_InvalidRanks : Addr}
    (a_is_integer : PySem.W.nsIn K mainGlobals "is_integer" = some (some (.ref fa_is_integer))) (l_is_integer : K.lookup fa_is_integer = some ⟨oc_is_integer, od_is_integer, .func (PySem.W.fnOf "is_integer" "is_integer" (defArgs st_is_integer) (defBody st_is_integer) (defScope st_is_integer) .none kV_is_integer dc_is_integer pm_is_integer an_is_integer cd_is_integer ct_is_integer), sl_is_integer⟩) (c_is_integer : PySem.W.codeIn K cd_is_integer "is_integer" = true) (k_is_integer : PySem.W.keepIn K (.ref fa_is_integer) = true)
    (a_is_order : PySem.W.nsIn K mainGlobals "is_order" = some (some (.ref fa_is_order))) (l_is_order : K.lookup fa_is_order = some ⟨oc_is_order, od_is_order, .func (PySem.W.fnOf "is_order" "is_order" (defArgs st_is_order) (defBody st_is_order) (defScope st_is_order) .none kV_is_order dc_is_order pm_is_order an_is_order cd_is_order ct_is_order), sl_is_order⟩) (c_is_order : PySem.W.codeIn K cd_is_order "is_order" = true) (k_is_order : PySem.W.keepIn K (.ref fa_is_order) = true)
    (a_check_order : PySem.W.nsIn K mainGlobals "check_order" = some (some (.ref fa_check_order))) (l_check_order : K.lookup fa_check_order = some ⟨oc_check_order, od_check_order, .func (PySem.W.fnOf "check_order" "check_order" (defArgs st_check_order) (defBody st_check_order) (defScope st_check_order) .none kV_check_order dc_check_order pm_check_order an_check_order cd_check_order ct_check_order), sl_check_order⟩) (c_check_order : PySem.W.codeIn K cd_check_order "check_order" = true) (k_check_order : PySem.W.keepIn K (.ref fa_check_order) = true)
    (a_relative_of : PySem.W.nsIn K mainGlobals "relative_of" = some (some (.ref fa_relative_of))) (l_relative_of : K.lookup fa_relative_of = some ⟨oc_relative_of, od_relative_of, .func (PySem.W.fnOf "relative_of" "relative_of" (defArgs st_relative_of) (defBody st_relative_of) (defScope st_relative_of) .none kV_relative_of dc_relative_of pm_relative_of an_relative_of cd_relative_of ct_relative_of), sl_relative_of⟩) (c_relative_of : PySem.W.codeIn K cd_relative_of "relative_of" = true) (k_relative_of : PySem.W.keepIn K (.ref fa_relative_of) = true)
    (a_relative : PySem.W.nsIn K mainGlobals "relative" = some (some (.ref fa_relative))) (l_relative : K.lookup fa_relative = some ⟨oc_relative, od_relative, .func (PySem.W.fnOf "relative" "relative" (defArgs st_relative) (defBody st_relative) (defScope st_relative) .none kV_relative dc_relative pm_relative an_relative cd_relative ct_relative), sl_relative⟩) (c_relative : PySem.W.codeIn K cd_relative "relative" = true) (k_relative : PySem.W.keepIn K (.ref fa_relative) = true)
    (a_order_of : PySem.W.nsIn K mainGlobals "order_of" = some (some (.ref fa_order_of))) (l_order_of : K.lookup fa_order_of = some ⟨oc_order_of, od_order_of, .func (PySem.W.fnOf "order_of" "order_of" (defArgs st_order_of) (defBody st_order_of) (defScope st_order_of) .none kV_order_of dc_order_of pm_order_of an_order_of cd_order_of ct_order_of), sl_order_of⟩) (c_order_of : PySem.W.codeIn K cd_order_of "order_of" = true) (k_order_of : PySem.W.keepIn K (.ref fa_order_of) = true)
    (a_from_relative : PySem.W.nsIn K mainGlobals "from_relative" = some (some (.ref fa_from_relative))) (l_from_relative : K.lookup fa_from_relative = some ⟨oc_from_relative, od_from_relative, .func (PySem.W.fnOf "from_relative" "from_relative" (defArgs st_from_relative) (defBody st_from_relative) (defScope st_from_relative) .none kV_from_relative dc_from_relative pm_from_relative an_from_relative cd_from_relative ct_from_relative), sl_from_relative⟩) (c_from_relative : PySem.W.codeIn K cd_from_relative "from_relative" = true) (k_from_relative : PySem.W.keepIn K (.ref fa_from_relative) = true)
    (a_records : PySem.W.nsIn K mainGlobals "records" = some (some (.ref fa_records))) (l_records : K.lookup fa_records = some ⟨oc_records, od_records, .func (PySem.W.fnOf "records" "records" (defArgs st_records) (defBody st_records) (defScope st_records) .none kV_records dc_records pm_records an_records cd_records ct_records), sl_records⟩) (c_records : PySem.W.codeIn K cd_records "records" = true) (k_records : PySem.W.keepIn K (.ref fa_records) = true)
    (a_law_cell_at : PySem.W.nsIn K mainGlobals "_law_cell_at" = some (some (.ref fa_law_cell_at))) (l_law_cell_at : K.lookup fa_law_cell_at = some ⟨oc_law_cell_at, od_law_cell_at, .func (PySem.W.fnOf "_law_cell_at" "_law_cell_at" (defArgs st__law_cell_at) (defBody st__law_cell_at) (defScope st__law_cell_at) .none kV_law_cell_at dc_law_cell_at pm_law_cell_at an_law_cell_at cd_law_cell_at ct_law_cell_at), sl_law_cell_at⟩) (c_law_cell_at : PySem.W.codeIn K cd_law_cell_at "_law_cell_at" = true) (k_law_cell_at : PySem.W.keepIn K (.ref fa_law_cell_at) = true)
    (a_law_mixed : PySem.W.nsIn K mainGlobals "_law_mixed" = some (some (.ref fa_law_mixed))) (l_law_mixed : K.lookup fa_law_mixed = some ⟨oc_law_mixed, od_law_mixed, .func (PySem.W.fnOf "_law_mixed" "_law_mixed" (defArgs st__law_mixed) (defBody st__law_mixed) (defScope st__law_mixed) .none kV_law_mixed dc_law_mixed pm_law_mixed an_law_mixed cd_law_mixed ct_law_mixed), sl_law_mixed⟩) (c_law_mixed : PySem.W.codeIn K cd_law_mixed "_law_mixed" = true) (k_law_mixed : PySem.W.keepIn K (.ref fa_law_mixed) = true)
    (a_law_draw : PySem.W.nsIn K mainGlobals "_law_draw" = some (some (.ref fa_law_draw))) (l_law_draw : K.lookup fa_law_draw = some ⟨oc_law_draw, od_law_draw, .func (PySem.W.fnOf "_law_draw" "_law_draw" (defArgs st__law_draw) (defBody st__law_draw) (defScope st__law_draw) .none kV_law_draw dc_law_draw pm_law_draw an_law_draw cd_law_draw ct_law_draw), sl_law_draw⟩) (c_law_draw : PySem.W.codeIn K cd_law_draw "_law_draw" = true) (k_law_draw : PySem.W.keepIn K (.ref fa_law_draw) = true)
    (a_law_all_orders : PySem.W.nsIn K mainGlobals "_law_all_orders" = some (some (.ref fa_law_all_orders))) (l_law_all_orders : K.lookup fa_law_all_orders = some ⟨oc_law_all_orders, od_law_all_orders, .func (PySem.W.fnOf "_law_all_orders" "_law_all_orders" (defArgs st__law_all_orders) (defBody st__law_all_orders) (defScope st__law_all_orders) .none kV_law_all_orders dc_law_all_orders pm_law_all_orders an_law_all_orders cd_law_all_orders ct_law_all_orders), sl_law_all_orders⟩) (c_law_all_orders : PySem.W.codeIn K cd_law_all_orders "_law_all_orders" = true) (k_law_all_orders : PySem.W.keepIn K (.ref fa_law_all_orders) = true)
    (a_law : PySem.W.nsIn K mainGlobals "law" = some (some (.ref fa_law))) (l_law : K.lookup fa_law = some ⟨oc_law, od_law, .func (PySem.W.fnOf "law" "law" (defArgs st_law) (defBody st_law) (defScope st_law) .none kV_law dc_law pm_law an_law cd_law ct_law), sl_law⟩) (c_law : PySem.W.codeIn K cd_law "law" = true) (k_law : PySem.W.keepIn K (.ref fa_law) = true)
    (z_all : PySem.W.nsIn K mainGlobals "all" = some none)
    (z_bool : PySem.W.nsIn K mainGlobals "bool" = some none)
    (z_enumerate : PySem.W.nsIn K mainGlobals "enumerate" = some none)
    (z_int : PySem.W.nsIn K mainGlobals "int" = some none)
    (z_isinstance : PySem.W.nsIn K mainGlobals "isinstance" = some none)
    (z_len : PySem.W.nsIn K mainGlobals "len" = some none)
    (z_min : PySem.W.nsIn K mainGlobals "min" = some none)
    (z_range : PySem.W.nsIn K mainGlobals "range" = some none)
    (z_set : PySem.W.nsIn K mainGlobals "set" = some none)
    (z_sorted : PySem.W.nsIn K mainGlobals "sorted" = some none)
    (z_tuple : PySem.W.nsIn K mainGlobals "tuple" = some none)
    (g_MOST : PySem.W.nsIn K mainGlobals "MOST" = some (some (.int 10 t_MOST)))
    (x1_InvalidOrder : PySem.W.nsIn K mainGlobals "InvalidOrder" = some (some (.ref C_InvalidOrder))) (x2_InvalidOrder : PySem.W.excIn K C_InvalidOrder [.type "ValueError", .type "Exception", .type "BaseException", .type "object"] "ValueError.__new__" = true) (x3_InvalidOrder : PySem.W.keepIn K (.ref C_InvalidOrder) = true) (x4_InvalidOrder : PySem.W.subIn K (.ref C_InvalidOrder) (.type "BaseException") = some true) (x5_InvalidOrder : PySem.W.typeIn K (.ref C_InvalidOrder) = some (.type "type"))
    (x1_InvalidRanks : PySem.W.nsIn K mainGlobals "InvalidRanks" = some (some (.ref C_InvalidRanks))) (x2_InvalidRanks : PySem.W.excIn K C_InvalidRanks [.type "ValueError", .type "Exception", .type "BaseException", .type "object"] "ValueError.__new__" = true) (x3_InvalidRanks : PySem.W.keepIn K (.ref C_InvalidRanks) = true) (x4_InvalidRanks : PySem.W.subIn K (.ref C_InvalidRanks) (.type "BaseException") = some true) (x5_InvalidRanks : PySem.W.typeIn K (.ref C_InvalidRanks) = some (.type "type"))
    : LawFn Pg w 5 K m_law mg fa := by
  have e := hfa.symm.trans (PySem.W.mg_of X G a_law)
  cases e
  have T : Tx ⟨K, mg, 0⟩ := { b_all := PySem.W.mg_none_of X G z_all, b_bool := PySem.W.mg_none_of X G z_bool, b_enumerate := PySem.W.mg_none_of X G z_enumerate, b_int := PySem.W.mg_none_of X G z_int, b_isinstance := PySem.W.mg_none_of X G z_isinstance, b_len := PySem.W.mg_none_of X G z_len, b_min := PySem.W.mg_none_of X G z_min, b_range := PySem.W.mg_none_of X G z_range, b_set := PySem.W.mg_none_of X G z_set, b_sorted := PySem.W.mg_none_of X G z_sorted, b_tuple := PySem.W.mg_none_of X G z_tuple, c_MOST := ⟨_, PySem.W.mg_of X G g_MOST⟩, e_InvalidOrder := ⟨_, PySem.W.mg_of X G x1_InvalidOrder, x2_InvalidOrder, x3_InvalidOrder, x4_InvalidOrder, x5_InvalidOrder⟩, e_InvalidRanks := ⟨_, PySem.W.mg_of X G x1_InvalidRanks, x2_InvalidRanks, x3_InvalidRanks, x4_InvalidRanks, x5_InvalidRanks⟩ }
  have F_is_integer := fun_mk (st := st_is_integer) l_is_integer c_is_integer k_is_integer
  have F_is_order := fun_mk (st := st_is_order) l_is_order c_is_order k_is_order
  have F_check_order := fun_mk (st := st_check_order) l_check_order c_check_order k_check_order
  have F_relative_of := fun_mk (st := st_relative_of) l_relative_of c_relative_of k_relative_of
  have F_relative := fun_mk (st := st_relative) l_relative c_relative k_relative
  have F_order_of := fun_mk (st := st_order_of) l_order_of c_order_of k_order_of
  have F_from_relative := fun_mk (st := st_from_relative) l_from_relative c_from_relative k_from_relative
  have F_records := fun_mk (st := st_records) l_records c_records k_records
  have F_law_cell_at := fun_mk (st := st__law_cell_at) l_law_cell_at c_law_cell_at k_law_cell_at
  have F_law_mixed := fun_mk (st := st__law_mixed) l_law_mixed c_law_mixed k_law_mixed
  have F_law_draw := fun_mk (st := st__law_draw) l_law_draw c_law_draw k_law_draw
  have F_law_all_orders := fun_mk (st := st__law_all_orders) l_law_all_orders c_law_all_orders k_law_all_orders
  have F_law := fun_mk (st := st_law) l_law c_law k_law
  refine ⟨0, PySem.W.fnOf "law" "law" (defArgs st_law) (defBody st_law) (defScope st_law) .none kV_law dc_law pm_law an_law cd_law ct_law, fun s v => .of_eq rfl, fun base _ _ => ?_⟩
  have H_is_integer : FnT Pg w base ⟨K, mg, 0⟩ 1 "is_integer" m_is_integer := f_is_integer T F_is_integer (PySem.W.mg_of X G a_is_integer) (F_is_integer.binds (ps := ["value", "low", "high"]) fun _ _ _ _ _ _ us hl => match us, hl with | [_, _, _], _ => rfl)
  have H_is_order : FnT Pg w base ⟨K, mg, 0⟩ 2 "is_order" m_is_order := f_is_order T F_is_order (PySem.W.mg_of X G a_is_order) (F_is_order.binds (ps := ["value"]) fun _ _ _ _ _ _ us hl => match us, hl with | [_], _ => rfl) H_is_integer
  have H_check_order : FnT Pg w base ⟨K, mg, 0⟩ 3 "check_order" m_check_order := f_check_order T F_check_order (PySem.W.mg_of X G a_check_order) (F_check_order.binds (ps := ["order"]) fun _ _ _ _ _ _ us hl => match us, hl with | [_], _ => rfl) H_is_order
  have H_relative_of : FnT Pg w base ⟨K, mg, 0⟩ 1 "relative_of" m_relative_of := f_relative_of T F_relative_of (PySem.W.mg_of X G a_relative_of) (F_relative_of.binds (ps := ["order"]) fun _ _ _ _ _ _ us hl => match us, hl with | [_], _ => rfl)
  have H_relative : FnT Pg w base ⟨K, mg, 0⟩ 4 "relative" m_relative := f_relative T F_relative (PySem.W.mg_of X G a_relative) (F_relative.binds (ps := ["order"]) fun _ _ _ _ _ _ us hl => match us, hl with | [_], _ => rfl) H_relative_of H_check_order
  have H_order_of : FnT Pg w base ⟨K, mg, 0⟩ 1 "order_of" m_order_of := f_order_of T F_order_of (PySem.W.mg_of X G a_order_of) (F_order_of.binds (ps := ["ranks"]) fun _ _ _ _ _ _ us hl => match us, hl with | [_], _ => rfl)
  have H_from_relative : FnT Pg w base ⟨K, mg, 0⟩ 2 "from_relative" m_from_relative := f_from_relative T F_from_relative (PySem.W.mg_of X G a_from_relative) (F_from_relative.binds (ps := ["value"]) fun _ _ _ _ _ _ us hl => match us, hl with | [_], _ => rfl) H_order_of H_is_integer
  have H_records : FnT Pg w base ⟨K, mg, 0⟩ 4 "records" m_records := f_records T F_records (PySem.W.mg_of X G a_records) (F_records.binds (ps := ["order"]) fun _ _ _ _ _ _ us hl => match us, hl with | [_], _ => rfl) H_relative_of H_check_order
  have H_law_cell_at : FnT Pg w base ⟨K, mg, 0⟩ 1 "_law_cell_at" m__law_cell_at := f__law_cell_at T F_law_cell_at (PySem.W.mg_of X G a_law_cell_at) (F_law_cell_at.binds (ps := ["script", "k"]) fun _ _ _ _ _ _ us hl => match us, hl with | [_, _], _ => rfl)
  have H_law_mixed : FnT Pg w base ⟨K, mg, 0⟩ 2 "_law_mixed" m__law_mixed := f__law_mixed T F_law_mixed (PySem.W.mg_of X G a_law_mixed) (F_law_mixed.binds (ps := ["script", "k", "many"]) fun _ _ _ _ _ _ us hl => match us, hl with | [_, _, _], _ => rfl) H_law_cell_at
  have H_law_draw : FnT Pg w base ⟨K, mg, 0⟩ 3 "_law_draw" m__law_draw := f__law_draw T F_law_draw (PySem.W.mg_of X G a_law_draw) (F_law_draw.binds (ps := ["script", "town", "many"]) fun _ _ _ _ _ _ us hl => match us, hl with | [_, _, _], _ => rfl) H_law_mixed
  have H_law_all_orders : FnT Pg w base ⟨K, mg, 0⟩ 1 "_law_all_orders" m__law_all_orders := f__law_all_orders T F_law_all_orders (PySem.W.mg_of X G a_law_all_orders) (F_law_all_orders.binds (ps := ["n"]) fun _ _ _ _ _ _ us hl => match us, hl with | [_], _ => rfl)
  exact f_law T F_law H_law_draw H_law_all_orders H_records H_from_relative H_relative H_is_order
end
end BrK16
open PySem PySem.W PyProof.Rows
set_option maxRecDepth 100000 in
set_option maxHeartbeats 0 in
theorem PySem.Challenge.cw_bestofrow_k16_whole_independent_ranks_holds : PySem.Challenge.rw_bestofrow_k16_whole_independent_ranks.Holds := by
  w_on; o_law; k_head; (case hw => w_witness2)
  k_fill
  refine Br.walk_data (k := 5) rfl ⟨rfl, by decide, by decide⟩ rfl BrK16.law_true (fun w h Y => PySem.W.kIn_of Y) ?F
  case F =>
    intro w mg fa h KX G hmg
    refine' BrK16.all_mk KX G hmg ?a_is_integer ?l_is_integer ?c_is_integer ?k_is_integer ?a_is_order ?l_is_order ?c_is_order ?k_is_order ?a_check_order ?l_check_order ?c_check_order ?k_check_order ?a_relative_of ?l_relative_of ?c_relative_of ?k_relative_of ?a_relative ?l_relative ?c_relative ?k_relative ?a_order_of ?l_order_of ?c_order_of ?k_order_of ?a_from_relative ?l_from_relative ?c_from_relative ?k_from_relative ?a_records ?l_records ?c_records ?k_records ?a_law_cell_at ?l_law_cell_at ?c_law_cell_at ?k_law_cell_at ?a_law_mixed ?l_law_mixed ?c_law_mixed ?k_law_mixed ?a_law_draw ?l_law_draw ?c_law_draw ?k_law_draw ?a_law_all_orders ?l_law_all_orders ?c_law_all_orders ?k_law_all_orders ?a_law ?l_law ?c_law ?k_law ?z_all ?z_bool ?z_enumerate ?z_int ?z_isinstance ?z_len ?z_min ?z_range ?z_set ?z_sorted ?z_tuple ?g_MOST ?x1_InvalidOrder ?x2_InvalidOrder ?x3_InvalidOrder ?x4_InvalidOrder ?x5_InvalidOrder ?x1_InvalidRanks ?x2_InvalidRanks ?x3_InvalidRanks ?x4_InvalidRanks ?x5_InvalidRanks
    (case a_is_integer => k_is)
    (case l_is_integer => k_is)
    (case c_is_integer => k_is)
    (case k_is_integer => k_is)
    (case a_is_order => k_is)
    (case l_is_order => k_is)
    (case c_is_order => k_is)
    (case k_is_order => k_is)
    (case a_check_order => k_is)
    (case l_check_order => k_is)
    (case c_check_order => k_is)
    (case k_check_order => k_is)
    (case a_relative_of => k_is)
    (case l_relative_of => k_is)
    (case c_relative_of => k_is)
    (case k_relative_of => k_is)
    (case a_relative => k_is)
    (case l_relative => k_is)
    (case c_relative => k_is)
    (case k_relative => k_is)
    (case a_order_of => k_is)
    (case l_order_of => k_is)
    (case c_order_of => k_is)
    (case k_order_of => k_is)
    (case a_from_relative => k_is)
    (case l_from_relative => k_is)
    (case c_from_relative => k_is)
    (case k_from_relative => k_is)
    (case a_records => k_is)
    (case l_records => k_is)
    (case c_records => k_is)
    (case k_records => k_is)
    (case a_law_cell_at => k_is)
    (case l_law_cell_at => k_is)
    (case c_law_cell_at => k_is)
    (case k_law_cell_at => k_is)
    (case a_law_mixed => k_is)
    (case l_law_mixed => k_is)
    (case c_law_mixed => k_is)
    (case k_law_mixed => k_is)
    (case a_law_draw => k_is)
    (case l_law_draw => k_is)
    (case c_law_draw => k_is)
    (case k_law_draw => k_is)
    (case a_law_all_orders => k_is)
    (case l_law_all_orders => k_is)
    (case c_law_all_orders => k_is)
    (case k_law_all_orders => k_is)
    (case a_law => k_is)
    (case l_law => k_is)
    (case c_law => k_is)
    (case k_law => k_is)
    (case z_all => k_is)
    (case z_bool => k_is)
    (case z_enumerate => k_is)
    (case z_int => k_is)
    (case z_isinstance => k_is)
    (case z_len => k_is)
    (case z_min => k_is)
    (case z_range => k_is)
    (case z_set => k_is)
    (case z_sorted => k_is)
    (case z_tuple => k_is)
    (case g_MOST => k_is)
    (case x1_InvalidOrder => k_is)
    (case x2_InvalidOrder => first | k_exc | k_is)
    (case x3_InvalidOrder => k_is)
    (case x4_InvalidOrder => k_is)
    (case x5_InvalidOrder => k_is)
    (case x1_InvalidRanks => k_is)
    (case x2_InvalidRanks => first | k_exc | k_is)
    (case x3_InvalidRanks => k_is)
    (case x4_InvalidRanks => k_is)
    (case x5_InvalidRanks => k_is)

