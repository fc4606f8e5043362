import PyProof.Rows.All
import Wide.All
import OpenK.AllK
import Wide.FinOn
import HandS.ForMost
import HandS.ForExc
import HandS.Nested
import HandS.Wide
import HandS.TupAny
import HandS.TupLe
import HandS.IsInst
import HandS.CallSlots
import HandS.DeepEq
import HandS.Deep
import HandS.DictComp
import HandS.Defaults
import HandS.HeadEnd
import HandS.Style
import HandS.More
import HandS.Head0
import HandS.Head1
import HandS.Head2
import HandS.HeadHook1
import HandS.HeadHook2
import KE.OsArith
import HandS.Iter
import HandS.SortInts
import HandS.Conv
import HandS.Finally
import HandS.Flow
import HandS.ExcOwn
import KE.KRevSl
import HandS.SortKw
import KE.KSortKey
import KE.DataMinMax
import HandS.TupSets
import KE.DataMinKey
import HandS.TryOnly
import HandS.TryMany
import HandS.ExcIs
import HandS.ExcField
import HandS.SetKeys
import HandS.NoneIn
import PyProof.NeKinds
import PyProof.DictMoreH
import HandS.HeadWalk
import HandS.HeadHook4
import PySem.Challenge.RW_groupcall_k62_received
set_option Elab.async false
set_option linter.all false
set_option maxRecDepth 100000
namespace G
open PySem L2

/-- data, as the law sees it: tuples, and lists and dicts that change no more, are values; a thing that may still change is a cell -/
inductive D where
  | non | bl (b : Bool) | int (i : Int) | str (x : Str)
  | tup (xs : List D) | lst (xs : List D) | ro (xs : List D) | dK (kvs : List (Key × D)) | dT (kvs : List (List Key × D))
  | ins (c : Nat) (xs : List D) | ref (n : Nat) | lk (d : D) | raw (a : Nat)
/-- a def made within a def: made here; or handed in, its captured values lent for the call -/
inductive Fv where
  | mk (F : NdefX.NF) | lent (j : Nat) (caps : List D)
/-- a slot's value: a frozen one, or a container that the slot alone has, or a def -/
inductive Sl where
  | v (d : D) | o (d : D) | f (x : Fv)
abbrev DSt := List (Option Sl)
abbrev Store := List D

structure Tbl where
  ad : Nat → Addr
  fl : Nat → List Str
  /-- the tables of the defs that have defs within; the defs within: their statements, names, captured names -/
  tb : List NdefX.NTab := []
  nf : Nat → Stmt := fun _ => .Pass ⟨0, 0, 0, 0⟩
  nq : Nat → Str × Str := fun _ => ("", "")
  fr : Nat → List Str := fun _ => []
abbrev Tbl.mkF (C : Tbl) (j : Nat) (cl : List (Str × Addr)) (c : Addr) : NdefX.NF := NdefX.NF.of (C.nf j) (C.nq j).1 (C.nq j).2 cl c
structure Vw where
  X : Addr → Prop
  H : Hp
  io : List Addr
/-- a list that stands in the fragment, whatever the heap is -/
def KL (K : PySem.W.Frag) (a : Addr) (xs : List V) : Prop := ∀ H : Hp, SqL K H a xs

section
variable (K : PySem.W.Frag) (C : Tbl) (w : Vw)
mutual
inductive RD : V → D → Prop
  | non : RD .non .non
  | bl (b : Bool) : RD (.bl b) (.bl b)
  | int (i : Int) : RD (.int i) (.int i)
  | str (x : Str) : RD (.str x) (.str x)
  | ref {n : Nat} {a : Addr} (h : w.io[n]? = some a) : RD (.ref a) (.ref n)
  | ro {a : Addr} {vs : List V} {ds : List D} (h : (¬ w.X a ∧ Rd w.H a (.lst vs)) ∨ KL K a vs) (r : RL vs ds) : RD (.ref a) (.ro ds)
  | lst {a : Addr} {vs : List V} {ds : List D} (x : ¬ w.X a) (h : w.H a = some (.lst vs)) (r : RL vs ds) : RD (.ref a) (.lst ds)
  | tup {a : Addr} {vs : List V} {ds : List D} (x : ¬ w.X a) (h : w.H a = some (.tup vs)) (r : RL vs ds) : RD (.ref a) (.tup ds)
  | dK {a : Addr} {vs : List (Key × V)} {ds : List (Key × D)} (x : ¬ w.X a) (h : Rd w.H a (.dK vs)) (r : RK vs ds) : RD (.ref a) (.dK ds)
  | dT {a : Addr} {vs : List (List Key × V)} {ds : List (List Key × D)} (x : ¬ w.X a) (h : Rd w.H a (.dT vs)) (r : RT vs ds) : RD (.ref a) (.dT ds)
  | ins {a dx : Addr} {c : Nat} {vs : List V} {ds : List D} (x : ¬ w.X a) (h : w.H a = some (.ins (C.ad c) dx ((C.fl c).zip vs))) (r : RL vs ds) : RD (.ref a) (.ins c ds)
  | raw (a : Addr) : RD (.ref a) (.raw a)
inductive RL : List V → List D → Prop
  | nil : RL [] []
  | cons {v : V} {d : D} {vs : List V} {ds : List D} (h : RD v d) (t : RL vs ds) : RL (v :: vs) (d :: ds)
inductive RK : List (Key × V) → List (Key × D) → Prop
  | nil : RK [] []
  | cons {k : Key} {v : V} {d : D} {vs : List (Key × V)} {ds : List (Key × D)} (h : RD v d) (t : RK vs ds) : RK ((k, v) :: vs) ((k, d) :: ds)
inductive RT : List (List Key × V) → List (List Key × D) → Prop
  | nil : RT [] []
  | cons {k : List Key} {v : V} {d : D} {vs : List (List Key × V)} {ds : List (List Key × D)} (h : RD v d) (t : RT vs ds) : RT ((k, v) :: vs) ((k, d) :: ds)
end
def isDict : HO → Bool
  | .dK _ => true
  | .dT _ => true
  | _ => false
/-- what stands at a cell's or an own container's address -/
inductive RC : HO → D → Prop
  | lst {vs : List V} {ds : List D} (r : RL K C w vs ds) : RC (.lst vs) (.lst ds)
  | dK {vs : List (Key × V)} {ds : List (Key × D)} (r : RK K C w vs ds) : RC (.dK vs) (.dK ds)
  | dT {vs : List (List Key × V)} {ds : List (List Key × D)} (r : RT K C w vs ds) : RC (.dT vs) (.dT ds)
  | ins {dx : Addr} {c : Nat} {vs : List V} {ds : List D} (r : RL K C w vs ds) : RC (.ins (C.ad c) dx ((C.fl c).zip vs)) (.ins c ds)
  | lk {od : Obj} {ho : HO} {d : D} (h : isDict ho = true) (r : RC ho d) : RC (.frz od ho) (.lk d)
end

/-- what is frozen stays, the cells stay -/
structure Grow (w w' : Vw) : Prop where
  x : ∀ a u, ¬ w.X a → w.H a = some u → ¬ w'.X a
  h : ∀ a u, ¬ w.X a → w.H a = some u → w'.H a = some u ∨ ∃ o, isDict u = true ∧ w'.H a = some (.frz o u)
  i : ∃ l, w'.io = w.io ++ l
theorem Grow.refl (w : Vw) : Grow w w := ⟨fun _ _ h _ => h, fun _ _ _ h => .inl h, [], by simp⟩
theorem rd_some {H : Hp} {a : Addr} {u : HO} (h : Rd H a u) : ∃ v, H a = some v := by
  rcases h with h | ⟨o, h⟩ <;> exact ⟨_, h⟩
theorem Grow.rd {w w' : Vw} (g : Grow w w') {a : Addr} {u : HO} (x : ¬ w.X a) (h : Rd w.H a u) (nf : ∀ o v, u ≠ .frz o v := by intro _ _ z; cases z) : Rd w'.H a u := by
  rcases h with h | ⟨o, h⟩
  · rcases g.h a u x h with q | ⟨o, hv, q⟩
    · exact .inl q
    · exact .inr ⟨o, q⟩
  · rcases g.h a _ x h with q | ⟨o', hv, q⟩
    · exact .inr ⟨o, q⟩
    · cases hv
theorem Grow.eq {w w' : Vw} (g : Grow w w') {a : Addr} {u : HO} (x : ¬ w.X a) (h : w.H a = some u) (nd : isDict u = false) (nf : ∀ o v, u ≠ .frz o v) : w'.H a = some u := by
  rcases g.h a u x h with q | ⟨o, hv, q⟩
  · exact q
  · rw [nd] at hv; cases hv
theorem Grow.frz {w w' : Vw} (g : Grow w w') {a : Addr} {o : Obj} {u : HO} (x : ¬ w.X a) (h : w.H a = some (.frz o u)) : w'.H a = some (.frz o u) := by
  rcases g.h a _ x h with q | ⟨o', hv, q⟩
  · exact q
  · cases hv
theorem Grow.trans {w w' w'' : Vw} (g : Grow w w') (g' : Grow w' w'') : Grow w w'' := by
  refine ⟨fun a u x h => ?_, fun a u x h => ?_, ?_⟩
  · rcases g.h a u x h with q | ⟨o, hv, q⟩
    · exact g'.x a u (g.x a u x h) q
    · exact g'.x a _ (g.x a u x h) q
  · rcases g.h a u x h with q | ⟨o, hv, q⟩
    · exact g'.h a u (g.x a u x h) q
    · exact .inr ⟨o, hv, g'.frz (g.x a u x h) q⟩
  · obtain ⟨l, e⟩ := g.i
    obtain ⟨l', e'⟩ := g'.i
    exact ⟨l ++ l', by rw [e', e, List.append_assoc]⟩
section
variable {K : PySem.W.Frag} {C : Tbl} {w w' : Vw}
theorem Grow.get (g : Grow w w') {n : Nat} {a : Addr} (h : w.io[n]? = some a) : w'.io[n]? = some a := by
  obtain ⟨l, e⟩ := g.i
  rw [e, List.getElem?_append_left (List.getElem?_eq_some_iff.mp h).1]
  exact h
theorem RD.grow (g : Grow w w') {v : V} {d : D} (r : RD K C w v d) : RD K C w' v d := by
  refine RD.rec (motive_1 := fun v d _ => RD K C w' v d) (motive_2 := fun vs ds _ => RL K C w' vs ds) (motive_3 := fun vs ds _ => RK K C w' vs ds) (motive_4 := fun vs ds _ => RT K C w' vs ds)
    .non .bl .int .str (fun h => .ref (g.get h)) (fun h _ r => ?_) (fun x h _ r => .lst (g.x _ _ x h) (g.eq x h rfl (by intro _ _ z; cases z)) r) (fun x h _ r => ?_) (fun x h _ r => ?_) (fun x h _ r => ?_) (fun x h _ r => ?_) .raw
    .nil (fun _ _ h t => .cons h t) .nil (fun _ _ h t => .cons h t) .nil (fun _ _ h t => .cons h t) r
  · rcases h with ⟨x, h⟩ | h
    · obtain ⟨u, hu⟩ := rd_some h; exact .ro (.inl ⟨g.x _ _ x hu, g.rd x h⟩) r
    · exact .ro (.inr h) r
  · exact .tup (g.x _ _ x h) (g.eq x h rfl (by intro _ _ z; cases z)) r
  · obtain ⟨u, hu⟩ := rd_some h; exact .dK (g.x _ _ x hu) (g.rd x h) r
  · obtain ⟨u, hu⟩ := rd_some h; exact .dT (g.x _ _ x hu) (g.rd x h) r
  · exact .ins (g.x _ _ x h) (g.eq x h rfl (by intro _ _ z; cases z)) r
theorem RL.grow (g : Grow w w') : ∀ {vs : List V} {ds : List D}, RL K C w vs ds → RL K C w' vs ds
  | _, _, .nil => .nil
  | _, _, .cons h t => .cons (h.grow g) (RL.grow g t)
theorem RK.grow (g : Grow w w') : ∀ {vs : List (Key × V)} {ds : List (Key × D)}, RK K C w vs ds → RK K C w' vs ds
  | _, _, .nil => .nil
  | _, _, .cons h t => .cons (h.grow g) (RK.grow g t)
theorem RT.grow (g : Grow w w') : ∀ {vs : List (List Key × V)} {ds : List (List Key × D)}, RT K C w vs ds → RT K C w' vs ds
  | _, _, .nil => .nil
  | _, _, .cons h t => .cons (h.grow g) (RT.grow g t)
theorem RC.grow (g : Grow w w') {o : HO} {d : D} (r : RC K C w o d) : RC K C w' o d := by
  induction r with
  | lst r => exact .lst (r.grow g)
  | dK r => exact .dK (r.grow g)
  | dT r => exact .dT (r.grow g)
  | ins r => exact .ins (r.grow g)
  | lk h _ ih => exact .lk h ih
theorem RL.length : ∀ {vs : List V} {ds : List D}, RL K C w vs ds → vs.length = ds.length
  | _, _, .nil => rfl
  | _, _, .cons _ t => by simp [RL.length t]
theorem RL.append : ∀ {vs vs' : List V} {ds ds' : List D}, RL K C w vs ds → RL K C w vs' ds' → RL K C w (vs ++ vs') (ds ++ ds')
  | _, _, _, _, .nil, s => s
  | _, _, _, _, .cons h t, s => .cons h (RL.append t s)
theorem RL.get : ∀ {vs : List V} {ds : List D} {i : Nat} {d : D}, RL K C w vs ds → ds[i]? = some d → ∃ v, vs[i]? = some v ∧ RD K C w v d
  | _, _, _, _, .nil, hi => by simp at hi
  | _, _, 0, _, .cons h _, hi => by simp at hi; subst hi; exact ⟨_, rfl, h⟩
  | _, _, i + 1, d, .cons _ t, e => by
    obtain ⟨v, h1, h2⟩ := RL.get (i := i) (d := d) t (by simpa using e)
    exact ⟨v, by simpa using h1, h2⟩
theorem RL.getV : ∀ {vs : List V} {ds : List D} {i : Nat} {v : V}, RL K C w vs ds → vs[i]? = some v → ∃ d, ds[i]? = some d ∧ RD K C w v d
  | _, _, _, _, .nil, hi => by simp at hi
  | _, _, 0, _, .cons h _, hi => by simp at hi; subst hi; exact ⟨_, rfl, h⟩
  | _, _, i + 1, d, .cons _ t, e => by
    obtain ⟨v, h1, h2⟩ := RL.getV (i := i) (v := d) t (by simpa using e)
    exact ⟨v, by simpa using h1, h2⟩
theorem RL.set {v : V} {d : D} (r : RD K C w v d) : ∀ {vs : List V} {ds : List D} (i : Nat), RL K C w vs ds → RL K C w (vs.set i v) (ds.set i d)
  | _, _, _, .nil => .nil
  | _, _, 0, .cons _ rest => .cons r rest
  | _, _, i + 1, .cons q t => .cons q (RL.set r i t)
theorem RL.take : ∀ {vs : List V} {ds : List D} (n : Nat), RL K C w vs ds → RL K C w (vs.take n) (ds.take n)
  | _, _, 0, _ => .nil
  | _, _, _ + 1, .nil => .nil
  | _, _, n + 1, .cons r t => .cons r (RL.take n t)
theorem RL.drop : ∀ {vs : List V} {ds : List D} (n : Nat), RL K C w vs ds → RL K C w (vs.drop n) (ds.drop n)
  | _, _, 0, r => r
  | _, _, _ + 1, .nil => .nil
  | _, _, n + 1, .cons _ t => RL.drop n t
end
end G
namespace G
open PySem L2
/-- nothing is known -/
def kTop : Vw := ⟨fun _ => True, fun _ => none, []⟩
theorem Grow.top (w : Vw) : Grow kTop w := ⟨fun _ _ x => absurd trivial x, fun _ _ x => absurd trivial x, w.io, rfl⟩
structure Gw where
  B : Addr → Prop
  io0 : List Addr
  H0 : Hp
  /-- a view from which all has grown, what was locked there -/
  k : Vw
  kl : List (Addr × Obj × HO)
def vw (g : Gw) (io : List Addr) (O : Addr → Prop) (H : Hp) : Vw := ⟨fun a => g.B a ∨ a ∈ io ∨ O a, H, io⟩
inductive RSl (K : PySem.W.Frag) (C : Tbl) (w : Vw) (O : Addr → Prop) : V → Sl → Prop
  | v {v : V} {d : D} (r : RD K C w v d) : RSl K C w O v (.v d)
  | o {a : Addr} {ho : HO} {d : D} (h : w.H a = some ho) (oa : O a) (nf : ∀ od u, ho ≠ .frz od u) (r : RC K C w ho d) : RSl K C w O (.ref a) (.o d)
/-- the lent cells -/
def cellHO : HO := .ext fun _ => True
/-- the def F's object stands at a -/
def FnIs (w : Vw) (a : Addr) (F : NdefX.NF) : Prop := ¬ w.X a ∧ w.H a = some (NdefX.FnO a F) ∧ ¬ w.X F.c ∧ w.H F.c = some (LamX.CodeO F.c F.qual)
/-- the captured cells are lent: known, and kept -/
structure Lent (K : PySem.W.Frag) (C : Tbl) (w : Vw) (cl : List (Str × Addr)) (fr : List Str) (caps : List D) : Prop where
  inj : ∀ y z b, cl.lookup y = some b → cl.lookup z = some b → y = z
  all : ∀ y c, cl.lookup y = some c → ¬ w.X c ∧ ∃ o v, w.H c = some (.frz o cellHO) ∧ o.data = .cell v
  len : caps.length = fr.length
  has : ∀ (i : Nat) y d, fr[i]? = some y → caps[i]? = some d → ∃ c v u o, cl.lookup y = some c ∧ RelV v u ∧ RD K C w v d ∧ w.H c = some (.frz o cellHO) ∧ o.data = .cell (some u)
def RF (K : PySem.W.Frag) (C : Tbl) (w : Vw) (a : Addr) : Fv → Prop
  | .mk F => FnIs w a F
  | .lent j caps => ∃ cl c, FnIs w a (C.mkF j cl c) ∧ Lent K C w cl (C.fr j) caps
theorem FnIs.grow {w w' : Vw} (G : Grow w w') {a : Addr} {F : NdefX.NF} (r : FnIs w a F) : FnIs w' a F :=
  ⟨G.x _ _ r.1 r.2.1, G.eq r.1 r.2.1 rfl (by intro _ _ z; unfold NdefX.FnO at z; cases z), G.x _ _ r.2.2.1 r.2.2.2, G.eq r.2.2.1 r.2.2.2 rfl (by intro _ _ z; unfold LamX.CodeO at z; cases z)⟩
theorem Lent.grow {K : PySem.W.Frag} {C : Tbl} {w w' : Vw} (G : Grow w w') {cl : List (Str × Addr)} {fr : List Str} {caps : List D} (r : Lent K C w cl fr caps) : Lent K C w' cl fr caps :=
  ⟨r.inj, fun y c e => by
    obtain ⟨x, o, v, h1, h2⟩ := r.all y c e
    exact ⟨G.x _ _ x h1, o, v, G.frz x h1, h2⟩, r.len, fun i y d e1 e2 => by
    obtain ⟨c, v, u, o, h1, h2, h3, h4, h5⟩ := r.has i y d e1 e2
    exact ⟨c, v, u, o, h1, h2, h3.grow G, G.frz (r.all y c h1).1 h4, h5⟩⟩
theorem RF.grow {K : PySem.W.Frag} {C : Tbl} {w w' : Vw} (G : Grow w w') {a : Addr} : ∀ {x : Fv}, RF K C w a x → RF K C w' a x
  | .mk _, r => FnIs.grow G r
  | .lent _ _, ⟨cl, c, r, l⟩ => ⟨cl, c, r.grow G, l.grow G⟩
/-- what a slot holds -/
inductive RSq (K : PySem.W.Frag) (C : Tbl) (w : Vw) (O : Addr → Prop) : V → Sl → Prop
  | v {v : V} {d : D} (r : RD K C w v d) : RSq K C w O v (.v d)
  | o {a : Addr} {ho : HO} {d : D} (h : w.H a = some ho) (oa : O a) (nf : ∀ od u, ho ≠ .frz od u) (r : RC K C w ho d) : RSq K C w O (.ref a) (.o d)
  | f {a : Addr} {x : Fv} (r : RF K C w a x) : RSq K C w O (.ref a) (.f x)
structure RSt (K : PySem.W.Frag) (C : Tbl) (w : Vw) (O : Addr → Prop) (σ : St) (sd : DSt) : Prop where
  len : σ.length = sd.length
  get : ∀ (i : Nat) (sl : Sl), sd[i]? = some (some sl) → ∃ v, σ[i]? = some (some v) ∧ RSq K C w O v sl
  inj : ∀ (i j : Nat) (d d' : D) (a : Addr), sd[i]? = some (some (.o d)) → sd[j]? = some (some (.o d')) → σ[i]? = some (some (.ref a)) → σ[j]? = some (some (.ref a)) → i = j
structure Cells (K : PySem.W.Frag) (C : Tbl) (w : Vw) (s : Store) : Prop where
  len : w.io.length = s.length
  get : ∀ (n : Nat) (d : D), s[n]? = some d → ∃ a ho, w.io[n]? = some a ∧ w.H a = some ho ∧ RC K C w ho d
abbrev Lk := List (Addr × Obj × HO)
/-- grown from the view; what is locked since was not locked there -/
def LkOk (g : Gw) (L : Lk) : Prop := ∃ new, L = new ++ g.kl ∧ ∀ e ∈ new, ¬ g.k.X e.1 → ∀ od u, g.k.H e.1 ≠ some (.frz od u)
structure An (g : Gw) (L : Lk) (w : Vw) : Prop where
  gr : Grow g.k w
  l : LkOk g L
theorem An.trans {g : Gw} {L : Lk} {w w' : Vw} (a : An g L w) (G : Grow w w') : An g L w' := ⟨a.gr.trans G, a.l⟩
/-- the tables of code objects: what stands in them is told, and nobody else asks for them -/
structure TbOk (C : Tbl) (g : Gw) (O : Addr → Prop) (H : Hp) : Prop where
  tb : NdefX.TabsN C.tb H
  b : ∀ p ∈ C.tb, g.B p.1
  xo : ∀ a φ, O a → H a ≠ some (.ext φ)
  xb : ∀ a φ, g.B a → g.H0 a ≠ some (.ext φ)
theorem TbOk.ext {C : Tbl} {g : Gw} {O : Addr → Prop} {H H' : Hp} (t : TbOk C g O H) (h : ∀ a u, H a = some u → H' a = some u) (od : ∀ a, O a → ∃ o, H a = some o) : TbOk C g O H' :=
  ⟨t.tb.ext h, t.b, fun a φ ha e => by
    obtain ⟨o, ho⟩ := od a ha
    rw [h a o ho] at e
    cases e
    exact t.xo a φ ha ho, t.xb⟩
theorem TbOk.put {C : Tbl} {g : Gw} {O : Addr → Prop} {H : Hp} (t : TbOk C g O H) {p : Addr} {o : HO} (hp : H p = none) (od : ∀ a, O a → ∃ o, H a = some o) : TbOk C g O (upd H p o) :=
  t.ext (fun a u e => by rw [upd_ne (ne_of_none e hp)]; exact e) od
theorem TbOk.less {C : Tbl} {g : Gw} {O O' : Addr → Prop} {H : Hp} (t : TbOk C g O H) (h : ∀ a, O' a → O a) : TbOk C g O' H := ⟨t.tb, t.b, fun a φ z => t.xo a φ (h a z), t.xb⟩
theorem TbOk.add {C : Tbl} {g : Gw} {O : Addr → Prop} {H : Hp} (t : TbOk C g O H) {p : Addr} {ho : HO} (hp : H p = some ho) (hx : ∀ φ, ho ≠ .ext φ) : TbOk C g (fun a => O a ∨ a = p) H :=
  ⟨t.tb, t.b, fun a φ z e => by
    rcases z with z | z
    · exact t.xo a φ z e
    · rw [z, hp] at e
      exact hx φ (Option.some.inj e), t.xb⟩
/-- an object that is no table and no code object changes -/
theorem TbOk.upd {C : Tbl} {g : Gw} {O : Addr → Prop} {H : Hp} (t : TbOk C g O H) {p : Addr} {o u : HO} (hu : H p = some u) (u1 : ∀ ps, u ≠ .tbl ps) (u2 : ∀ φ, u ≠ .ext φ) (hx : ∀ φ, o ≠ .ext φ) : TbOk C g O (L2.upd H p o) := by
  refine ⟨fun q hq => ?_, t.b, fun a φ ha e => ?_, t.xb⟩
  · obtain ⟨ps, h1, h2, h3⟩ := t.tb q hq
    have k1 : q.1 ≠ p := fun z => by
      rw [z, hu] at h1
      exact u1 _ (Option.some.inj h1)
    refine ⟨ps, by rw [upd_ne k1]; exact h1, h2, fun pos cv hc => ?_⟩
    obtain ⟨c, e1, e2⟩ := h3 _ _ hc
    have k2 : c ≠ p := fun z => by
      rw [z, hu] at e2
      exact u2 _ (Option.some.inj e2)
    exact ⟨c, e1, by rw [upd_ne k2]; exact e2⟩
  · by_cases z : a = p
    · rw [z, upd_same] at e
      exact hx φ (Option.some.inj e)
    · rw [upd_ne z] at e
      exact t.xo a φ ha e
theorem RC.nt {K : PySem.W.Frag} {C : Tbl} {w : Vw} {o : HO} {d : D} (r : RC K C w o d) : ∀ ps, o ≠ .tbl ps := by
  intro ps z
  subst z
  cases r
theorem RC.nx {K : PySem.W.Frag} {C : Tbl} {w : Vw} {o : HO} {d : D} (r : RC K C w o d) : ∀ φ, o ≠ .ext φ := by
  intro ps z
  subst z
  cases r
structure StOk (K : PySem.W.Frag) (C : Tbl) (g : Gw) (L : Lk) (kw : Vw) (io : List Addr) (O : Addr → Prop) (H : Hp) (σ : St) (sd : DSt) (s : Store) : Prop where
  nio : io.Nodup
  dj : ∀ a : Addr, O a → a ∉ io
  bd : ∀ a : Addr, g.B a → a ∉ io ∧ ¬ O a ∧ ∃ o, g.H0 a = some o
  od : ∀ a, O a → g.H0 a = none ∧ ∃ o, H a = some o
  pre : ∃ l, io = g.io0 ++ l ∧ ∀ a ∈ l, g.H0 a = none
  fr : ∀ a o, g.H0 a = some o → a ∉ g.io0 → (∀ p ∈ C.tb, p.1 ≠ a) → (H a = some o ∧ ∀ e ∈ L, e.1 ≠ a) ∨ ∃ od, (a, od, o) ∈ L
  fz : ∀ a od u, g.H0 a = some (.frz od u) → H a = some (.frz od u)
  lk : ∀ e ∈ L, H e.1 = some (.frz e.2.1 e.2.2) ∧ isDict e.2.2 = true ∧ ∀ od u, g.H0 e.1 ≠ some (.frz od u)
  ce : Cells K C (vw g io O H) s
  sl : RSt K C (vw g io O H) O σ sd
  kp : Grow kw (vw g io O H)
  an : An g L (vw g io O H)
  tb : TbOk C g O H
section
variable {K : PySem.W.Frag} {C : Tbl} {g : Gw} {L : Lk} {kw : Vw} {io : List Addr} {O : Addr → Prop} {H : Hp} {σ : St} {sd : DSt} {s : Store}

theorem RSt.grow {w w' : Vw} {O' : Addr → Prop} (S : RSt K C w O σ sd) (G : Grow w w') (ho : ∀ a, O a → O' a ∧ w'.H a = w.H a) : RSt K C w' O' σ sd :=
  ⟨S.len, fun i sl e => by
    obtain ⟨v, e1, r⟩ := S.get i sl e
    refine ⟨v, e1, ?_⟩
    cases r with
    | v r => exact .v (r.grow G)
    | o h oa nf r => exact .o ((ho _ oa).2.trans h) (ho _ oa).1 nf (r.grow G)
    | f r => exact .f (r.grow G), S.inj⟩
theorem Cells.grow {w w' : Vw} (S : Cells K C w s) (G : Grow w w') (hi : w'.io = w.io) (hc : ∀ a ∈ w.io, w'.H a = w.H a) : Cells K C w' s :=
  ⟨by rw [hi]; exact S.len, fun n d e => by
    obtain ⟨a, ho, e1, e2, r⟩ := S.get n d e
    exact ⟨a, ho, by rw [hi]; exact e1, (hc a (List.mem_of_getElem? e1)).trans e2, r.grow G⟩⟩
theorem upd_some {H : Hp} {p a : Addr} {o u : HO} (hp : H p = none) (h : H a = some u) : upd H p o a = some u := by
  rw [upd_ne (ne_of_none h hp)]; exact h
/-- only what was not there is new: all that was known stays -/
theorem StOk.ext {H' : Hp} (S : StOk K C g L kw io O H σ sd s) (hH : ∀ a u, H a = some u → H' a = some u) : StOk K C g L kw io O H' σ sd s ∧ Grow (vw g io O H) (vw g io O H') := by
  have G : Grow (vw g io O H) (vw g io O H') := ⟨fun a u x _ => x, fun a u x h => .inl (hH a u h), [], (List.append_nil _).symm⟩
  have hio : ∀ a ∈ io, H' a = H a := fun a ha => by
    obtain ⟨n, hn⟩ := List.getElem?_of_mem ha
    have hl : n < s.length := by rw [← S.ce.len]; exact (List.getElem?_eq_some_iff.mp hn).1
    obtain ⟨b, ho, e1, e2, _⟩ := S.ce.get n s[n] (by simp [hl])
    have e1' : io[n]? = some b := e1
    rw [hn] at e1'; cases e1'
    have e2' : H a = some ho := e2
    rw [e2', hH a ho e2']
  refine ⟨⟨S.nio, S.dj, S.bd, fun a ha => ?_, S.pre, fun a o h1 h2 h3 => ?_, fun a od u h => hH _ _ (S.fz a od u h), fun e he => ?_, S.ce.grow G rfl hio, S.sl.grow G fun a ha => ⟨ha, ?_⟩, S.kp.trans G, S.an.trans G, S.tb.ext hH fun a ha => (S.od a ha).2⟩, G⟩
  · obtain ⟨h1, o, h2⟩ := S.od a ha
    exact ⟨h1, o, hH a o h2⟩
  · rcases S.fr a o h1 h2 h3 with ⟨q, z⟩ | q
    · exact .inl ⟨hH a o q, z⟩
    · exact .inr q
  · obtain ⟨h1, h2⟩ := S.lk e he
    exact ⟨hH _ _ h1, h2⟩
  · obtain ⟨_, o, h2⟩ := S.od a ha
    show H' a = H a
    rw [h2, hH a o h2]
theorem StOk.new {p : Addr} {o : HO} (S : StOk K C g L kw io O H σ sd s) (hp : H p = none) : StOk K C g L kw io O (upd H p o) σ sd s ∧ Grow (vw g io O H) (vw g io O (upd H p o)) :=
  S.ext fun _ _ h => upd_some hp h
theorem StOk.io_some (S : StOk K C g L kw io O H σ sd s) {a : Addr} (ha : a ∈ io) : ∃ o, H a = some o := by
  obtain ⟨n, hn⟩ := List.getElem?_of_mem ha
  have hl : n < s.length := by rw [← S.ce.len]; exact (List.getElem?_eq_some_iff.mp hn).1
  obtain ⟨b, ho, e1, e2, _⟩ := S.ce.get n s[n] (by simp [hl])
  have e1' : io[n]? = some b := e1
  rw [hn] at e1'; cases e1'
  exact ⟨ho, e2⟩
theorem StOk.h0_some (S : StOk K C g L kw io O H σ sd s) {a : Addr} {o : HO} (h : g.H0 a = some o) : ∃ u, H a = some u := by
  by_cases hi : a ∈ g.io0
  · obtain ⟨l, e, _⟩ := S.pre
    exact S.io_some (by rw [e]; exact List.mem_append_left _ hi)
  · by_cases t : ∃ p ∈ C.tb, p.1 = a
    · obtain ⟨p, hp, e⟩ := t
      obtain ⟨ps', h1, _⟩ := S.tb.tb p hp
      exact ⟨_, e ▸ h1⟩
    · rcases S.fr a o h hi (fun p hp z => t ⟨p, hp, z⟩) with ⟨q, _⟩ | ⟨od, q⟩
      · exact ⟨o, q⟩
      · exact ⟨_, (S.lk _ q).1⟩
/-- a free address is nobody's -/
theorem StOk.free (S : StOk K C g L kw io O H σ sd s) {p : Addr} (hp : H p = none) : ¬ (vw g io O H).X p ∧ g.H0 p = none ∧ p ∉ io ∧ ¬ O p ∧ ¬ g.B p := by
  have h0 : g.H0 p = none := by
    cases e : g.H0 p with
    | none => rfl
    | some o => obtain ⟨u, hu⟩ := S.h0_some e; rw [hp] at hu; cases hu
  have hi : p ∉ io := fun z => by obtain ⟨o, e⟩ := S.io_some z; rw [hp] at e; cases e
  have ho : ¬ O p := fun z => by obtain ⟨_, o, e⟩ := S.od p z; rw [hp] at e; cases e
  have hb : ¬ g.B p := fun z => by obtain ⟨_, _, o, e⟩ := S.bd p z; rw [h0] at e; cases e
  exact ⟨fun z => z.elim hb fun z => z.elim hi ho, h0, hi, ho, hb⟩
/-- what others have is no code object -/
theorem StOk.bx (S : StOk K C g L kw io O H σ sd s) {a : Addr} (ha : g.B a) (φ : Heap → Prop) : H a ≠ some (.ext φ) := fun e => by
  by_cases t : ∃ p ∈ C.tb, p.1 = a
  · obtain ⟨p, hp, z⟩ := t
    obtain ⟨ps, h1, _⟩ := S.tb.tb p hp
    rw [z, e] at h1
    cases h1
  · obtain ⟨q1, _, o, q3⟩ := S.bd a ha
    obtain ⟨l, el, _⟩ := S.pre
    rcases S.fr a o q3 (fun z => q1 (by rw [el]; exact List.mem_append_left _ z)) (fun p hp z => t ⟨p, hp, z⟩) with ⟨q, _⟩ | ⟨od, q⟩
    · rw [q] at e
      cases e
      exact S.tb.xb a φ ha q3
    · rw [(S.lk _ q).1] at e
      cases e
/-- a new cell at p -/
theorem StOk.newCell {p : Addr} {o : HO} {d : D} (S : StOk K C g L kw io O H σ sd s) (hp : H p = none) (r : RC K C (vw g io O H) o d) :
    StOk K C g L kw (io ++ [p]) O (upd H p o) σ sd (s ++ [d]) ∧ Grow (vw g io O H) (vw g (io ++ [p]) O (upd H p o)) := by
  obtain ⟨hx, h0, hi, ho, hb⟩ := S.free hp
  have G : Grow (vw g io O H) (vw g (io ++ [p]) O (upd H p o)) := by
    refine ⟨fun a u x h => fun z => x ?_, fun a u x h => .inl (upd_some hp h), [p], rfl⟩
    rcases z with z | z | z
    · exact .inl z
    · rcases (List.mem_append).1 z with z | z
      · exact .inr (.inl z)
      · rw [List.mem_singleton.mp z] at h
        have h' : H p = some u := h
        rw [hp] at h'; cases h'
    · exact .inr (.inr z)
  refine ⟨⟨?_, fun a ha z => ?_, fun a ha => ?_, fun a ha => ?_, ?_, fun a o' h1 h2 h3 => ?_, fun a od u h => upd_some hp (S.fz a od u h), fun e he => ?_, ⟨?_, fun n d' e => ?_⟩, S.sl.grow G fun a ha => ⟨ha, ?_⟩, S.kp.trans G, S.an.trans G, S.tb.put hp fun a ha => (S.od a ha).2⟩, G⟩
  · rw [List.nodup_append]
    refine ⟨S.nio, by simp, fun a ha b hb' => ?_⟩
    rw [List.mem_singleton.mp hb']
    rintro rfl
    exact hi ha
  · rcases (List.mem_append).1 z with z | z
    · exact S.dj a ha z
    · rw [List.mem_singleton.mp z] at ha; exact ho ha
  · obtain ⟨h1, h2, h3⟩ := S.bd a ha
    refine ⟨fun z => ?_, h2, h3⟩
    rcases (List.mem_append).1 z with z | z
    · exact h1 z
    · rw [List.mem_singleton.mp z] at ha; exact hb ha
  · obtain ⟨h1, u, h2⟩ := S.od a ha
    exact ⟨h1, u, upd_some hp h2⟩
  · obtain ⟨l, e, hl⟩ := S.pre
    refine ⟨l ++ [p], by rw [e, List.append_assoc], fun a ha => ?_⟩
    rcases (List.mem_append).1 ha with z | z
    · exact hl a z
    · rw [List.mem_singleton.mp z]; exact h0
  · rcases S.fr a o' h1 h2 h3 with ⟨q, z⟩ | q
    · exact .inl ⟨upd_some hp q, z⟩
    · exact .inr q
  · obtain ⟨h1, h2⟩ := S.lk e he
    exact ⟨upd_some hp h1, h2⟩
  · show (io ++ [p]).length = (s ++ [d]).length
    have := S.ce.len
    simp only [List.length_singleton, List.length_append]
    have e : io.length = s.length := this
    omega
  · have el : io.length = s.length := S.ce.len
    by_cases hn : n < s.length
    · rw [List.getElem?_append_left hn] at e
      obtain ⟨a, u, e1, e2, r'⟩ := S.ce.get n d' e
      exact ⟨a, u, by show (io ++ [p])[n]? = _; rw [List.getElem?_append_left (by omega)]; exact e1, upd_some hp e2, r'.grow G⟩
    · rw [List.getElem?_append_right (by omega)] at e
      have hn' : n - s.length = 0 := by
        cases q : n - s.length with
        | zero => rfl
        | succ k => rw [q] at e; simp at e
      rw [hn'] at e
      simp at e
      subst e
      refine ⟨p, o, ?_, upd_same, r.grow G⟩
      show (io ++ [p])[n]? = some p
      rw [List.getElem?_append_right (by omega), el, hn']
      rfl
  · obtain ⟨_, u, h2⟩ := S.od a ha
    show upd H p o a = H a
    rw [upd_some hp h2, h2]
theorem io_inj (h : io.Nodup) {m n : Nat} {a : Addr} (h1 : io[m]? = some a) (h2 : io[n]? = some a) : m = n := by
  obtain ⟨l1, e1⟩ := List.getElem?_eq_some_iff.mp h1
  obtain ⟨l2, e2⟩ := List.getElem?_eq_some_iff.mp h2
  exact (List.getElem_inj h).mp (e1.trans e2.symm)
/-- what stands in a cell changes -/
theorem StOk.write {n : Nat} {a : Addr} {o u : HO} {d : D} (S : StOk K C g L kw io O H σ sd s) (ha : io[n]? = some a) (hu : H a = some u) (nf : ∀ od v, u ≠ .frz od v) (r : RC K C (vw g io O H) o d) :
    StOk K C g L kw io O (upd H a o) σ sd (s.set n d) ∧ Grow (vw g io O H) (vw g io O (upd H a o)) := by
  have hm : a ∈ io := List.mem_of_getElem? ha
  have G : Grow (vw g io O H) (vw g io O (upd H a o)) := by
    refine ⟨fun b v x h => x, fun b v x h => .inl ?_, [], (List.append_nil _).symm⟩
    have : b ≠ a := fun z => x (.inr (.inl (z ▸ hm)))
    show upd H a o b = some v
    rw [upd_ne this]; exact h
  refine ⟨⟨S.nio, S.dj, S.bd, fun b hb => ?_, S.pre, fun b v h1 h2 h3 => ?_, fun b od v h => ?_, fun e he => ?_, ⟨?_, fun m d' e => ?_⟩, S.sl.grow G fun b hb => ⟨hb, ?_⟩, S.kp.trans G, S.an.trans G, ?_⟩, G⟩
  · obtain ⟨h1, v, h2⟩ := S.od b hb
    have : b ≠ a := fun z => S.dj b hb (z ▸ hm)
    exact ⟨h1, v, by rw [upd_ne this]; exact h2⟩
  · have : b ≠ a := fun z => by
      obtain ⟨l, e, hl⟩ := S.pre
      rw [e] at hm
      rcases (List.mem_append).1 hm with q | q
      · exact h2 (z ▸ q)
      · rw [z, hl a q] at h1; cases h1
    rcases S.fr b v h1 h2 h3 with ⟨q, z⟩ | q
    · exact .inl ⟨by rw [upd_ne this]; exact q, z⟩
    · exact .inr q
  · have q := S.fz b od v h
    have : b ≠ a := fun z => by rw [z, hu] at q; cases q; exact nf _ _ rfl
    rw [upd_ne this]; exact q
  · obtain ⟨h1, h2⟩ := S.lk e he
    have : e.1 ≠ a := fun z => by rw [z, hu] at h1; cases h1; exact nf _ _ rfl
    exact ⟨by rw [upd_ne this]; exact h1, h2⟩
  · show io.length = (s.set n d).length
    rw [List.length_set]; exact S.ce.len
  · by_cases hmn : n = m
    · subst hmn
      have hl : n < s.length := by
        have q : io.length = s.length := S.ce.len
        rw [← q]; exact (List.getElem?_eq_some_iff.mp ha).1
      rw [List.getElem?_set_self hl] at e
      cases e
      exact ⟨a, o, ha, upd_same, r.grow G⟩
    · rw [List.getElem?_set_ne hmn] at e
      obtain ⟨b, v, e1, e2, r'⟩ := S.ce.get m d' e
      have : b ≠ a := fun z => hmn (io_inj S.nio (z ▸ ha) e1)
      exact ⟨b, v, e1, by show upd H a o b = some v; rw [upd_ne this]; exact e2, r'.grow G⟩
  · have : b ≠ a := fun z => S.dj b hb (z ▸ hm)
    show upd H a o b = H b
    rw [upd_ne this]
  · obtain ⟨n', hn⟩ := List.getElem?_of_mem hm
    have hl : n' < s.length := by rw [← S.ce.len]; exact (List.getElem?_eq_some_iff.mp hn).1
    obtain ⟨b, ho, e1, e2, r'⟩ := S.ce.get n' s[n'] (by simp [hl])
    have e1' : io[n']? = some b := e1
    rw [hn] at e1'
    cases e1'
    exact S.tb.upd e2 r'.nt r'.nx r.nx
/-- a slot takes a value -/
theorem StOk.set {i : Nat} {v : V} {d : D} (S : StOk K C g L kw io O H σ sd s) (r : RD K C (vw g io O H) v d) : StOk K C g L kw io O H (σ.set i (some v)) (sd.set i (some (.v d))) s := by
  refine ⟨S.nio, S.dj, S.bd, S.od, S.pre, S.fr, S.fz, S.lk, S.ce, ⟨by simp [S.sl.len], fun j sl e => ?_, fun j k d1 d2 a h1 h2 h3 h4 => ?_⟩, S.kp, S.an, S.tb⟩
  · by_cases hj : i = j
    · subst hj
      have hl : i < sd.length := by
        have := (List.getElem?_eq_some_iff.mp e).1
        simpa using this
      rw [List.getElem?_set_self hl] at e
      cases e
      exact ⟨v, List.getElem?_set_self (by rw [S.sl.len]; exact hl), .v r⟩
    · rw [List.getElem?_set_ne hj] at e
      rw [List.getElem?_set_ne hj]
      exact S.sl.get j sl e
  · have no : ∀ {j : Nat} {d1 : D}, (sd.set i (some (.v d)))[j]? = some (some (.o d1)) → i ≠ j ∧ sd[j]? = some (some (.o d1)) := fun {j d1} e => by
      by_cases hj : i = j
      · subst hj
        have hl : i < sd.length := by
          have := (List.getElem?_eq_some_iff.mp e).1
          simpa using this
        rw [List.getElem?_set_self hl] at e
        cases e
      · rw [List.getElem?_set_ne hj] at e; exact ⟨hj, e⟩
    obtain ⟨n1, e1⟩ := no h1
    obtain ⟨n2, e2⟩ := no h2
    rw [List.getElem?_set_ne n1] at h3
    rw [List.getElem?_set_ne n2] at h4
    exact S.sl.inj j k d1 d2 a e1 e2 h3 h4
end
end G
namespace G
open PySem L2
section
variable {K : PySem.W.Frag} {C : Tbl} {g : Gw} {L : Lk} {kw : Vw} {io : List Addr} {O : Addr → Prop} {H : Hp} {σ : St} {sd : DSt} {s : Store}
theorem set_cases {i j : Nat} {x y : Option Sl} {sd : DSt} (h : (sd.set i x)[j]? = some y) : (i = j ∧ y = x ∧ i < sd.length) ∨ (i ≠ j ∧ sd[j]? = some y) := by
  by_cases hj : i = j
  · subst hj
    have hl : i < sd.length := by simpa using (List.getElem?_eq_some_iff.mp h).1
    rw [List.getElem?_set_self hl] at h
    exact .inl ⟨rfl, (Option.some.inj h).symm, hl⟩
  · rw [List.getElem?_set_ne hj] at h; exact .inr ⟨hj, h⟩
/-- an own slot's address -/
theorem StOk.own_at (S : StOk K C g L kw io O H σ sd s) {i : Nat} {d : D} (h : sd[i]? = some (some (.o d))) :
    ∃ a ho, σ[i]? = some (some (.ref a)) ∧ H a = some ho ∧ O a ∧ (∀ od u, ho ≠ .frz od u) ∧ RC K C (vw g io O H) ho d := by
  obtain ⟨v, e, r⟩ := S.sl.get i _ h
  cases r with
  | o h oa nf r => exact ⟨_, _, e, h, oa, nf, r⟩
theorem StOk.clear (S : StOk K C g L kw io O H σ sd s) (i : Nat) : StOk K C g L kw io O H σ (sd.set i none) s := by
  refine ⟨S.nio, S.dj, S.bd, S.od, S.pre, S.fr, S.fz, S.lk, S.ce, ⟨by simp [S.sl.len], fun j sl e => ?_, fun j k d1 d2 a h1 h2 h3 h4 => ?_⟩, S.kp, S.an, S.tb⟩
  · rcases set_cases e with ⟨_, e, _⟩ | ⟨_, e⟩
    · cases e
    · exact S.sl.get j sl e
  · rcases set_cases h1 with ⟨_, e, _⟩ | ⟨_, e1⟩
    · cases e
    · rcases set_cases h2 with ⟨_, e, _⟩ | ⟨_, e2⟩
      · cases e
      · exact S.sl.inj j k d1 d2 a e1 e2 h3 h4
/-- a new container comes into a slot -/
theorem StOk.setOwn {H' : Hp} {i : Nat} {p : Addr} {ho : HO} {d : D} (S : StOk K C g L kw io O H σ sd s) (h0 : g.H0 p = none) (hi : p ∉ io) (hO : ¬ O p) (hp : H p = some ho) (nf : ∀ od u, ho ≠ .frz od u)
    (nx : ∀ e ∈ L, e.1 ≠ p) (kp : Grow kw (vw g io (fun a => O a ∨ a = p) H)) (an : An g L (vw g io (fun a => O a ∨ a = p) H))
    (ce : Cells K C (vw g io (fun a => O a ∨ a = p) H) s) (sl : RSt K C (vw g io (fun a => O a ∨ a = p) H) O σ sd) (r : RC K C (vw g io (fun a => O a ∨ a = p) H) ho d) :
    StOk K C g L kw io (fun a => O a ∨ a = p) H (σ.set i (some (.ref p))) (sd.set i (some (.o d))) s := by
  refine ⟨S.nio, fun a ha => ?_, fun a ha => ?_, fun a ha => ?_, S.pre, S.fr, S.fz, S.lk, ce, ⟨by simp [S.sl.len], fun j sl' e => ?_, fun j k d1 d2 a h1 h2 h3 h4 => ?_⟩, kp, an, S.tb.add hp r.nx⟩
  · rcases ha with z | z
    · exact S.dj a z
    · rw [z]; exact hi
  · obtain ⟨q1, q2, q3⟩ := S.bd a ha
    refine ⟨q1, fun z => z.elim q2 fun z => ?_, q3⟩
    obtain ⟨o, q3⟩ := q3
    rw [z, h0] at q3; cases q3
  · rcases ha with z | z
    · exact S.od a z
    · rw [z]; exact ⟨h0, _, hp⟩
  · rcases set_cases e with ⟨rfl, e, hl⟩ | ⟨hj, e⟩
    · cases e
      exact ⟨.ref p, List.getElem?_set_self (by rw [S.sl.len]; exact hl), .o hp (.inr rfl) nf r⟩
    · obtain ⟨v, e1, r1⟩ := sl.get j sl' e
      refine ⟨v, by rw [List.getElem?_set_ne hj]; exact e1, ?_⟩
      cases r1 with
      | v r1 => exact .v r1
      | o q1 q2 q3 q4 => exact .o q1 (.inl q2) q3 q4
      | f r1 => exact .f r1
  · have own : ∀ {j : Nat} {d1 : D} {a : Addr}, sd[j]? = some (some (.o d1)) → σ[j]? = some (some (.ref a)) → a ≠ p := fun {j d1 a} e1 e2 z => by
      obtain ⟨b, _, q1, _, q2, _⟩ := S.own_at e1
      rw [q1] at e2; cases e2; rw [z] at q2; exact hO q2
    rcases set_cases h1 with ⟨rfl, e, hl⟩ | ⟨hj, e1⟩
    · rcases set_cases h2 with ⟨rfl, _, _⟩ | ⟨hk, e2⟩
      · rfl
      · rw [List.getElem?_set_self (by rw [S.sl.len]; exact hl)] at h3
        cases h3
        rw [List.getElem?_set_ne hk] at h4
        exact absurd rfl (own e2 h4)
    · rcases set_cases h2 with ⟨rfl, _, hl⟩ | ⟨hk, e2⟩
      · rw [List.getElem?_set_self (by rw [S.sl.len]; exact hl)] at h4
        cases h4
        rw [List.getElem?_set_ne hj] at h3
        exact absurd rfl (own e1 h3)
      · rw [List.getElem?_set_ne hj] at h3
        rw [List.getElem?_set_ne hk] at h4
        exact S.sl.inj j k d1 d2 a e1 e2 h3 h4
/-- .. made just now at p -/
theorem StOk.setNew {i : Nat} {p : Addr} {ho : HO} {d : D} (S : StOk K C g L kw io O H σ sd s) (hp : H p = none) (nf : ∀ od u, ho ≠ .frz od u) (r : RC K C (vw g io O H) ho d) :
    StOk K C g L kw io (fun a => O a ∨ a = p) (upd H p ho) (σ.set i (some (.ref p))) (sd.set i (some (.o d))) s := by
  obtain ⟨hx, h0, hi, hO, hb⟩ := S.free hp
  obtain ⟨S', G⟩ := S.new (o := ho) hp
  have G' : Grow (vw g io O H) (vw g io (fun a => O a ∨ a = p) (upd H p ho)) := by
    refine ⟨fun a u x h z => x ?_, G.h, G.i⟩
    rcases z with z | z | z | z
    · exact .inl z
    · exact .inr (.inl z)
    · exact .inr (.inr z)
    · have h' : H a = some u := h
      rw [z, hp] at h'; cases h'
  refine S'.setOwn h0 hi hO upd_same nf (fun e he z => ?_) (S.kp.trans G') (S.an.trans G') (S.ce.grow G' rfl fun a ha => ?_) (S.sl.grow G' fun a ha => ⟨ha, ?_⟩) (r.grow G') (H' := upd H p ho)
  · have := (S.lk e he).1
    rw [z, hp] at this; cases this
  · obtain ⟨u, hu⟩ := S.io_some ha
    show upd H p ho a = H a
    rw [upd_some hp hu, hu]
  · obtain ⟨_, u, hu⟩ := S.od a ha
    show upd H p ho a = H a
    rw [upd_some hp hu, hu]
/-- an own slot's container changes -/
theorem StOk.writeOwn {i : Nat} {a : Addr} {ho : HO} {d d0 : D} (S : StOk K C g L kw io O H σ sd s) (hs : sd[i]? = some (some (.o d0))) (ha : σ[i]? = some (some (.ref a))) (nf : ∀ od u, ho ≠ .frz od u) (r : RC K C (vw g io O H) ho d) :
    StOk K C g L kw io O (upd H a ho) σ (sd.set i (some (.o d))) s ∧ Grow (vw g io O H) (vw g io O (upd H a ho)) := by
  obtain ⟨a', h0, e1, e2, oa, nf0, rc0⟩ := S.own_at hs
  rw [ha] at e1; cases e1
  have G : Grow (vw g io O H) (vw g io O (upd H a ho)) := by
    refine ⟨fun b v x h => x, fun b v x h => .inl ?_, [], (List.append_nil _).symm⟩
    have : b ≠ a := fun z => x (.inr (.inr (z ▸ oa)))
    show upd H a ho b = some v
    rw [upd_ne this]; exact h
  have lkne : ∀ e ∈ L, e.1 ≠ a := fun e he z => by
    have := (S.lk e he).1
    rw [z, e2] at this; cases this; exact nf0 _ _ rfl
  refine ⟨⟨S.nio, S.dj, S.bd, fun b hb => ?_, S.pre, fun b v h1 h2 h3 => ?_, fun b od v h => ?_, fun e he => ?_, S.ce.grow G rfl fun b hb => ?_, ⟨by simp [S.sl.len], fun j sl e => ?_, fun j k d1 d2 b h1 h2 h3 h4 => ?_⟩, S.kp.trans G, S.an.trans G, S.tb.upd e2 rc0.nt rc0.nx r.nx⟩, G⟩
  · obtain ⟨h1, v, h2⟩ := S.od b hb
    refine ⟨h1, ?_⟩
    by_cases z : b = a
    · exact ⟨ho, by rw [z]; exact upd_same⟩
    · exact ⟨v, by rw [upd_ne z]; exact h2⟩
  · have : b ≠ a := fun z => by rw [z, (S.od a oa).1] at h1; cases h1
    rcases S.fr b v h1 h2 h3 with ⟨q, z⟩ | q
    · exact .inl ⟨by rw [upd_ne this]; exact q, z⟩
    · exact .inr q
  · have : b ≠ a := fun z => by rw [z, (S.od a oa).1] at h; cases h
    rw [upd_ne this]; exact S.fz b od v h
  · obtain ⟨h1, h2⟩ := S.lk e he
    exact ⟨by rw [upd_ne (lkne e he)]; exact h1, h2⟩
  · have : b ≠ a := fun z => S.dj a oa (z ▸ hb)
    show upd H a ho b = H b
    rw [upd_ne this]
  · rcases set_cases e with ⟨rfl, e, hl⟩ | ⟨hj, e⟩
    · cases e
      exact ⟨_, ha, .o upd_same oa nf (r.grow G)⟩
    · obtain ⟨v, e1, r1⟩ := S.sl.get j sl e
      refine ⟨v, e1, ?_⟩
      cases r1 with
      | v r1 => exact .v (r1.grow G)
      | @o b hb db q1 q2 q3 q4 =>
        have : b ≠ a := fun z => hj (S.sl.inj i j d0 db a hs e ha (z ▸ e1))
        exact .o (by show upd H a ho b = some hb; rw [upd_ne this]; exact q1) q2 q3 (q4.grow G)
      | f r1 => exact .f (r1.grow G)
  · rcases set_cases h1 with ⟨rfl, e, hl⟩ | ⟨hj, e1⟩
    · rcases set_cases h2 with ⟨rfl, _, _⟩ | ⟨hk, e2⟩
      · rfl
      · exact S.sl.inj i k d0 d2 b hs e2 h3 h4
    · rcases set_cases h2 with ⟨rfl, _, _⟩ | ⟨hk, e2⟩
      · exact S.sl.inj j i d1 d0 b e1 hs h3 h4
      · exact S.sl.inj j k d1 d2 b e1 e2 h3 h4
/-- an own slot's container changes no more -/
theorem RC.frz {w : Vw} {a : Addr} {ho : HO} {d : D} (x : ¬ w.X a) (h : w.H a = some ho) (nf : ∀ od u, ho ≠ .frz od u) (r : RC K C w ho d) : RD K C w (.ref a) d := by
  cases r with
  | lst r => exact .lst x h r
  | dK r => exact .dK x (.inl h) r
  | dT r => exact .dT x (.inl h) r
  | ins r => exact .ins x h r
  | lk _ _ => exact absurd rfl (nf _ _)
theorem StOk.freeze {i : Nat} {d : D} (S : StOk K C g L kw io O H σ sd s) (hs : sd[i]? = some (some (.o d))) : ∃ O' : Addr → Prop, StOk K C g L kw io O' H σ (sd.set i (some (.v d))) s ∧ Grow (vw g io O H) (vw g io O' H) := by
  obtain ⟨a, ho, e1, e2, oa, nf, r⟩ := S.own_at hs
  have G : Grow (vw g io O H) (vw g io (fun b => O b ∧ b ≠ a) H) := ⟨fun b u x h z => x (z.elim .inl fun z => .inr (z.elim .inl fun z => .inr z.1)), fun b u x h => .inl h, [], (List.append_nil _).symm⟩
  have xa : ¬ (vw g io (fun b => O b ∧ b ≠ a) H).X a := fun z => z.elim (fun z => (S.bd a z).2.1 oa) fun z => z.elim (S.dj a oa) fun z => z.2 rfl
  refine ⟨fun b => O b ∧ b ≠ a, ⟨S.nio, fun b hb => S.dj b hb.1, fun b hb => ?_, fun b hb => S.od b hb.1, S.pre, S.fr, S.fz, S.lk, S.ce.grow G rfl fun _ _ => rfl, ⟨by simp [S.sl.len], fun j sl e => ?_, fun j k d1 d2 b h1 h2 h3 h4 => ?_⟩, S.kp.trans G, S.an.trans G, S.tb.less fun _ z => z.1⟩, G⟩
  · obtain ⟨q1, q2, q3⟩ := S.bd b hb
    exact ⟨q1, fun z => q2 z.1, q3⟩
  · rcases set_cases e with ⟨rfl, e, hl⟩ | ⟨hj, e⟩
    · cases e
      exact ⟨_, e1, .v (RC.frz xa e2 nf (r.grow G))⟩
    · obtain ⟨v, q, r1⟩ := S.sl.get j sl e
      refine ⟨v, q, ?_⟩
      cases r1 with
      | v r1 => exact .v (r1.grow G)
      | @o b hb db q1 q2 q3 q4 => exact .o q1 ⟨q2, fun z => hj (S.sl.inj i j d db a hs e e1 (z ▸ q))⟩ q3 (q4.grow G)
      | f r1 => exact .f (r1.grow G)
  · rcases set_cases h1 with ⟨_, e, _⟩ | ⟨_, e1⟩
    · cases e
    · rcases set_cases h2 with ⟨_, e, _⟩ | ⟨_, e2⟩
      · cases e
      · exact S.sl.inj j k d1 d2 b e1 e2 h3 h4
/-- .. or becomes a cell -/
theorem StOk.toCell {i : Nat} {d : D} (S : StOk K C g L kw io O H σ sd s) (hs : sd[i]? = some (some (.o d))) :
    ∃ (a : Addr) (O' : Addr → Prop), StOk K C g L kw (io ++ [a]) O' H σ (sd.set i (some (.v (.ref s.length)))) (s ++ [d]) ∧ Grow (vw g io O H) (vw g (io ++ [a]) O' H) := by
  obtain ⟨a, ho, e1, e2, oa, nf, r⟩ := S.own_at hs
  have el : io.length = s.length := S.ce.len
  have G : Grow (vw g io O H) (vw g (io ++ [a]) (fun b => O b ∧ b ≠ a) H) := by
    refine ⟨fun b u x h z => x ?_, fun b u x h => .inl h, [a], rfl⟩
    rcases z with z | z | z
    · exact .inl z
    · rcases (List.mem_append).1 z with z | z
      · exact .inr (.inl z)
      · rw [List.mem_singleton.mp z]; exact .inr (.inr oa)
    · exact .inr (.inr z.1)
  refine ⟨a, fun b => O b ∧ b ≠ a, ⟨?_, fun b hb z => ?_, fun b hb => ?_, fun b hb => S.od b hb.1, ?_, S.fr, S.fz, S.lk, ⟨?_, fun n d' e => ?_⟩, ⟨by simp [S.sl.len], fun j sl e => ?_, fun j k d1 d2 b h1 h2 h3 h4 => ?_⟩, S.kp.trans G, S.an.trans G, S.tb.less fun _ z => z.1⟩, G⟩
  · rw [List.nodup_append]
    refine ⟨S.nio, by simp, fun b hb c hc => ?_⟩
    rw [List.mem_singleton.mp hc]
    rintro rfl
    exact S.dj _ oa hb
  · rcases (List.mem_append).1 z with z | z
    · exact S.dj b hb.1 z
    · exact hb.2 (List.mem_singleton.mp z)
  · obtain ⟨q1, q2, q3⟩ := S.bd b hb
    refine ⟨fun z => ?_, fun z => q2 z.1, q3⟩
    rcases (List.mem_append).1 z with z | z
    · exact q1 z
    · rw [List.mem_singleton.mp z] at q2; exact q2 oa
  · obtain ⟨l, e, hl⟩ := S.pre
    refine ⟨l ++ [a], by rw [e, List.append_assoc], fun b hb => ?_⟩
    rcases (List.mem_append).1 hb with z | z
    · exact hl b z
    · rw [List.mem_singleton.mp z]; exact (S.od a oa).1
  · show (io ++ [a]).length = (s ++ [d]).length
    simp only [List.length_singleton, List.length_append]
    omega
  · by_cases hn : n < s.length
    · rw [List.getElem?_append_left hn] at e
      obtain ⟨b, u, q1, q2, r'⟩ := S.ce.get n d' e
      exact ⟨b, u, by show (io ++ [a])[n]? = _; rw [List.getElem?_append_left (by omega)]; exact q1, q2, r'.grow G⟩
    · rw [List.getElem?_append_right (by omega)] at e
      have hn' : n - s.length = 0 := by
        cases q : n - s.length with
        | zero => rfl
        | succ k => rw [q] at e; simp at e
      rw [hn'] at e
      simp at e
      subst e
      refine ⟨a, ho, ?_, e2, r.grow G⟩
      show (io ++ [a])[n]? = some a
      rw [List.getElem?_append_right (by omega), el, hn']
      rfl
  · rcases set_cases e with ⟨rfl, e, hl⟩ | ⟨hj, e⟩
    · cases e
      refine ⟨_, e1, .v (.ref ?_)⟩
      show (io ++ [a])[s.length]? = some a
      rw [List.getElem?_append_right (by omega), el, Nat.sub_self]
      rfl
    · obtain ⟨v, q, r1⟩ := S.sl.get j sl e
      refine ⟨v, q, ?_⟩
      cases r1 with
      | v r1 => exact .v (r1.grow G)
      | @o b hb db q1 q2 q3 q4 => exact .o q1 ⟨q2, fun z => hj (S.sl.inj i j d db a hs e e1 (z ▸ q))⟩ q3 (q4.grow G)
      | f r1 => exact .f (r1.grow G)
  · rcases set_cases h1 with ⟨_, e, _⟩ | ⟨_, e1⟩
    · cases e
    · rcases set_cases h2 with ⟨_, e, _⟩ | ⟨_, e2⟩
      · cases e
      · exact S.sl.inj j k d1 d2 b e1 e2 h3 h4
end
end G
namespace G
open PySem L2
abbrev DK := D → Store → Prop
abbrev DE := DSt → Store → DK → Prop
abbrev DT := DSt → Store → (Bool → Store → Prop) → Prop
abbrev DA := DSt → Store → (List D → Store → Prop) → Prop
abbrev DP := DSt → Store → (Sl → Store → Prop) → Prop
abbrev DPs := DSt → Store → (List Sl → Store → Prop) → Prop
structure DEnds where
  nx : DSt → Store → Prop
  rt : Sl → Store → Prop
  bk : DSt → Store → Prop := fun _ _ => False
  ct : DSt → Store → Prop := fun _ _ => False
abbrev DS := DEnds → DSt → Store → Prop
structure DX where
  c : Nat
  fs : List D
abbrev DW := DX → DSt → Store → Prop

theorem _root_.L2.PE.imp {X : Cx} {e : Expr} {t t' : TE} (h : PE X e t) (i : ∀ σ H Q, t' σ H Q → t σ H Q) : PE X e t' := ⟨fun p s σ H Q I q => h.run p s σ H Q I (i σ H Q q)⟩
theorem _root_.L2.PT.imp {X : Cx} {e : Expr} {t t' : TT} (h : PT X e t) (i : ∀ σ H Q, t' σ H Q → t σ H Q) : PT X e t' := ⟨fun p s σ H Q I q => h.run p s σ H Q I (i σ H Q q)⟩
theorem _root_.L2.PW.imp {X : Cx} {e : Expr} {t t' : TT} (h : PW X e t) (i : ∀ σ H Q, t' σ H Q → t σ H Q) : PW X e t' := ⟨fun w p s σ H Q I q => h.run w p s σ H Q I (i σ H Q q)⟩
theorem _root_.L2.PA.imp {X : Cx} {es : List Expr} {t t' : TA} (h : PA X es t) (i : ∀ σ H Q, t' σ H Q → t σ H Q) : PA X es t' := ⟨fun w p s σ H Q I q => h.run w p s σ H Q I (i σ H Q q)⟩
theorem _root_.L2.PS.imp {X : Cx} {e : Stmt} {t t' : TS} (h : PS X e t) (i : ∀ D σ H, t' D σ H → t D σ H) : PS X e t' := ⟨fun p s σ H D I q => h.run p s σ H D I (i D σ H q)⟩
theorem _root_.L2.PSs.imp {X : Cx} {e : List Stmt} {t t' : TS} (h : PSs X e t) (i : ∀ D σ H, t' D σ H → t D σ H) : PSs X e t' := ⟨fun p s σ H D I q => h.run p s σ H D I (i D σ H q)⟩
theorem _root_.L2.PS.or {X : Cx} {e : Stmt} {t t' : TS} (h : PS X e t) (h' : PS X e t') : PS X e (fun D σ H => t D σ H ∨ t' D σ H) := ⟨fun p s σ H D I q => q.elim (h.run p s σ H D I) (h'.run p s σ H D I)⟩
theorem _root_.L2.PE.or {X : Cx} {e : Expr} {t t' : TE} (h : PE X e t) (h' : PE X e t') : PE X e (fun σ H Q => t σ H Q ∨ t' σ H Q) := ⟨fun p s σ H Q I q => q.elim (h.run p s σ H Q I) (h'.run p s σ H Q I)⟩

/-- behind an expression -/
structure Stp (g : Gw) (io : List Addr) (O : Addr → Prop) (H : Hp) (io' : List Addr) (O' : Addr → Prop) (H' : Hp) : Prop where
  gr : Grow (vw g io O H) (vw g io' O' H')
  ow : ∀ a, O a → H' a = H a
theorem Stp.refl (g : Gw) (io : List Addr) (O : Addr → Prop) (H : Hp) : Stp g io O H io O H := ⟨Grow.refl _, fun _ _ => rfl⟩
theorem Stp.trans {g : Gw} {io io1 io2 : List Addr} {O O1 O2 : Addr → Prop} {H H1 H2 : Hp} (a : Stp g io O H io1 O1 H1) (b : Stp g io1 O1 H1 io2 O2 H2) (h : ∀ a, O a → O1 a := by intro _ z; exact z) : Stp g io O H io2 O2 H2 :=
  ⟨a.gr.trans b.gr, fun x hx => (b.ow x (h x hx)).trans (a.ow x hx)⟩
section
variable (K : PySem.W.Frag) (C : Tbl) (g : Gw) (L : Lk)
def LE (e : DE) : TE := fun σ H Q => ∃ kw io O sd s Qd, StOk K C g L kw io O H σ sd s ∧ e sd s Qd ∧
  ∀ d s' io' H' v, Qd d s' → StOk K C g L kw io' O H' σ sd s' → Stp g io O H io' O H' → RD K C (vw g io' O H') v d → Q v H'
def LT (e : DT) : TT := fun σ H Q => ∃ kw io O sd s Qd, StOk K C g L kw io O H σ sd s ∧ e sd s Qd ∧
  ∀ b s' io' H', Qd b s' → StOk K C g L kw io' O H' σ sd s' → Stp g io O H io' O H' → Q b H'
def LA (e : DA) : TA := fun σ H Q => ∃ kw io O sd s Qd, StOk K C g L kw io O H σ sd s ∧ e sd s Qd ∧
  ∀ ds s' io' H' vs, Qd ds s' → StOk K C g L kw io' O H' σ sd s' → Stp g io O H io' O H' → RL K C (vw g io' O H') vs ds → Q vs H'
def LP (e : DP) : TE := fun σ H Q => ∃ kw io O sd s Qd, StOk K C g L kw io O H σ sd s ∧ e sd s Qd ∧
  ∀ x s' io' H' v, Qd x s' → StOk K C g L kw io' O H' σ sd s' → Stp g io O H io' O H' → RSl K C (vw g io' O H') O v x → Q v H'
inductive RSls (w : Vw) (O : Addr → Prop) : List V → List Sl → Prop
  | nil : RSls w O [] []
  | cons {v : V} {x : Sl} {vs : List V} {xs : List Sl} (h : RSl K C w O v x) (t : RSls w O vs xs) : RSls w O (v :: vs) (x :: xs)
def LPs (e : DPs) : TA := fun σ H Q => ∃ kw io O sd s Qd, StOk K C g L kw io O H σ sd s ∧ e sd s Qd ∧
  ∀ xs s' io' H' vs, Qd xs s' → StOk K C g L kw io' O H' σ sd s' → Stp g io O H io' O H' → RSls K C (vw g io' O H') O vs xs → Q vs H'
abbrev ores (O : Addr → Prop) (p : Addr) : Addr → Prop := fun a => O a ∨ a = p
/-- a new container, nobody else's -/
def LO (e : DE) : TE := fun σ H Q => ∃ kw io O sd s Qd, StOk K C g L kw io O H σ sd s ∧ e sd s Qd ∧
  ∀ d s' io' H' p ho, Qd d s' → StOk K C g L kw io' (ores O p) H' σ sd s' → Stp g io O H io' (ores O p) H' → ¬ O p → H' p = some ho → (∀ od u, ho ≠ .frz od u) → RC K C (vw g io' (ores O p) H') ho d → Q (.ref p) H'
def RX (w : Vw) (x : DX) (cls : Value) (d : Option Addr) : Prop := cls = .ref (C.ad x.c) ∧ ((x.fs = [] ∧ d = none) ∨ ∃ dd vs, d = some dd ∧ ¬ w.X dd ∧ w.H dd = some (.xd ((C.fl x.c).zip vs)) ∧ RL K C w vs x.fs ∧ x.fs ≠ [])
def LW (W : DW) : WX := fun cls d σ H => ∃ kw io O sd s x, StOk K C g L kw io O H σ sd s ∧ RX K C (vw g io O H) x cls d ∧ W x sd s
/-- what a return hands out -/
inductive RR (w : Vw) : V → Sl → (Addr → Prop) → Prop
  | v {v : V} {d : D} (r : RD K C w v d) : RR w v (.v d) (fun _ => False)
  | o {a : Addr} {ho : HO} {d : D} (h : w.H a = some ho) (nf : ∀ od u, ho ≠ .frz od u) (r : RC K C w ho d) : RR w (.ref a) (.o d) (fun b => b = a)
structure EndR (kw : Vw) (D : DEnds) (T : Ends) : Prop where
  nx : ∀ io O H σ sd s, D.nx sd s → StOk K C g L kw io O H σ sd s → T.nx σ H
  rt : ∀ r s io P H v, D.rt r s → StOk K C g L kw io P H [] [] s → RR K C (vw g io P H) v r P → T.rt v H
  bk : ∀ io O H σ sd s, D.bk sd s → StOk K C g L kw io O H σ sd s → T.bk σ H
  ct : ∀ io O H σ sd s, D.ct sd s → StOk K C g L kw io O H σ sd s → T.ct σ H
def LS (t : DS) : TS := fun T σ H => ∃ kw io O sd s D, StOk K C g L kw io O H σ sd s ∧ t D sd s ∧ EndR K C g L kw D T
end
section
variable {K : PySem.W.Frag} {C : Tbl} {g : Gw} {L : Lk} {kw : Vw} {io : List Addr} {O : Addr → Prop} {H : Hp} {σ : St} {sd : DSt} {s : Store}
theorem RSls.one {w : Vw} {vs : List V} {x : Sl} (h : RSls K C w O vs [x]) : ∃ v, vs = [v] ∧ RSl K C w O v x := by
  cases h with
  | cons h t => cases t; exact ⟨_, rfl, h⟩
theorem RSl.grow {w w' : Vw} {v : V} {x : Sl} (r : RSl K C w O v x) (G : Grow w w') (ho : ∀ a, O a → w'.H a = w.H a) : RSl K C w' O v x := by
  cases r with
  | v r => exact .v (r.grow G)
  | o h oa nf r => exact .o ((ho _ oa).trans h) oa nf (r.grow G)
/-- nobody else's, unless it is -/
theorem StOk.unres {p : Addr} (S : StOk K C g L kw io (ores O p) H σ sd s) (hn : ¬ O p) (ho : ∀ (i : Nat) (d : D), sd[i]? = some (some (Sl.o d)) → σ[i]? ≠ some (some (V.ref p))) : StOk K C g L kw io O H σ sd s ∧ Grow (vw g io (ores O p) H) (vw g io O H) := by
  have G : Grow (vw g io (ores O p) H) (vw g io O H) := ⟨fun a u x _ z => x (z.elim .inl fun z => .inr (z.elim .inl fun z => .inr (.inl z))), fun a u x h => .inl h, [], (List.append_nil _).symm⟩
  refine ⟨⟨S.nio, fun a ha => S.dj a (.inl ha), fun a ha => ?_, fun a ha => S.od a (.inl ha), S.pre, S.fr, S.fz, S.lk, S.ce.grow G rfl fun _ _ => rfl, ⟨S.sl.len, fun i sl e => ?_, S.sl.inj⟩, S.kp.trans G, S.an.trans G, S.tb.less fun _ z => .inl z⟩, G⟩
  · obtain ⟨q1, q2, q3⟩ := S.bd a ha
    exact ⟨q1, fun z => q2 (.inl z), q3⟩
  · obtain ⟨v, e1, r⟩ := S.sl.get i sl e
    refine ⟨v, e1, ?_⟩
    cases r with
    | v r => exact .v (r.grow G)
    | @o a ho' d h oa nf r => exact .o h (oa.elim id fun z => absurd (by rw [z] at e1; exact e1) (ho i d e)) nf (r.grow G)
    | f r => exact .f (r.grow G)
end
end G
namespace G
open PySem L2
/-! ### tables -/
section
variable {κ α : Type} [DecidableEq κ]
def look (kvs : List (κ × α)) (k : κ) : Option α := (kvs.find? fun kv => decide (kv.1 = k)).map (·.2)
/-- m[k] = v -/
def put (m : List (κ × α)) (k : κ) (v : α) : List (κ × α) := if (look m k).isSome then m.map fun e => (e.1, if e.1 = k then v else e.2) else m ++ [(k, v)]
theorem look_any (m : List (κ × α)) (k : κ) : (look m k).isSome = m.any fun e => decide (e.1 = k) := by
  induction m with
  | nil => rfl
  | cons e m ih =>
    unfold look at *
    rw [List.find?_cons, List.any_cons, ← ih]
    by_cases h : e.1 = k <;> simp [h]
def drop1 (kvs : List (κ × α)) (k : κ) : List (κ × α) := kvs.filter fun kv => decide (kv.1 ≠ k)
end
def keyOf : D → Option Key
  | .int i => some (.inl i)
  | .str x => some (.inr x)
  | _ => none
def keysOf : List D → Option (List Key)
  | [] => some []
  | d :: ds => match keyOf d, keysOf ds with
    | some k, some ks => some (k :: ks)
    | _, _ => none
def tkeyOf : D → Option (List Key)
  | .tup ds => keysOf ds
  | _ => none
section
variable {K : PySem.W.Frag} {C : Tbl} {w : Vw}
theorem RD.key {v : V} {d : D} {k : Key} (r : RD K C w v d) (h : keyOf d = some k) : v = kV k := by
  cases r <;> simp [keyOf] at h <;> subst h <;> rfl
theorem RL.keys : ∀ {vs : List V} {ds : List D} {ks : List Key}, RL K C w vs ds → keysOf ds = some ks → vs = ks.map kV
  | _, _, _, .nil, h => by simp [keysOf] at h; subst h; rfl
  | _, _, _, .cons (d := d) (ds := ds) h t, e => by
    unfold keysOf at e
    split at e
    · rename_i k ks' e1 e2
      cases e
      rw [h.key e1, RL.keys t e2]; rfl
    · cases e
theorem RD.tkey {v : V} {d : D} {k : List Key} (r : RD K C w v d) (h : tkeyOf d = some k) : ∃ b, v = .ref b ∧ ¬ w.X b ∧ w.H b = some (.tup (k.map kV)) := by
  cases r <;> simp [tkeyOf] at h
  rename_i x hh r
  exact ⟨_, rfl, x, by rw [r.keys h] at hh; exact hh⟩
section
variable {κ : Type} [DecidableEq κ] {R : List (κ × V) → List (κ × D) → Prop}
/-- both kinds of table, by what they have in common -/
inductive RM (K : PySem.W.Frag) (C : Tbl) (w : Vw) : List (κ × V) → List (κ × D) → Prop
  | nil : RM K C w [] []
  | cons {k : κ} {v : V} {d : D} {vs : List (κ × V)} {ds : List (κ × D)} (h : RD K C w v d) (t : RM K C w vs ds) : RM K C w ((k, v) :: vs) ((k, d) :: ds)
variable {vs : List (κ × V)} {ds : List (κ × D)}
theorem RM.length (r : RM K C w vs ds) : vs.length = ds.length := by
  induction r with
  | nil => rfl
  | cons _ _ ih => simp [ih]
theorem RM.look (r : RM K C w vs ds) (k : κ) : (look ds k = none ∧ valV vs k = none) ∨ ∃ v d, look ds k = some d ∧ valV vs k = some v ∧ RD K C w v d := by
  induction r with
  | nil => exact Or.inl ⟨rfl, rfl⟩
  | @cons k' v d vs ds h t ih =>
    by_cases e : k' = k
    · exact .inr ⟨v, d, by simp [G.look, e], by simp [valV, e], h⟩
    · have e1 : G.look ((k', d) :: ds) k = G.look ds k := by simp [G.look, e]
      have e2 : valV ((k', v) :: vs) k = valV vs k := by simp [valV, e]
      rw [e1, e2]; exact ih
theorem RM.any (r : RM K C w vs ds) (k : κ) : (vs.any fun kv => decide (kv.1 = k)) = ds.any fun kv => decide (kv.1 = k) := by
  induction r with
  | nil => rfl
  | cons h t ih => rw [List.any_cons, List.any_cons, ih]
theorem RM.append {vs' : List (κ × V)} {ds' : List (κ × D)} (r : RM K C w vs ds) (s : RM K C w vs' ds') : RM K C w (vs ++ vs') (ds ++ ds') := by
  induction r with
  | nil => exact s
  | cons h _ ih => exact .cons h ih
theorem RM.put (r : RM K C w vs ds) (k : κ) {v : V} {d : D} (h : RD K C w v d) : RM K C w (putK vs k v) (G.put ds k d) := by
  unfold putK G.put
  rw [r.any k, look_any]
  split
  · rename_i there
    clear there
    induction r with
    | nil => exact .nil
    | @cons k' v' d' vs ds h' t ih =>
      simp only [List.map_cons]
      by_cases q : k' = k
      · simp only [q, if_true]; exact .cons h ih
      · simp only [q, if_false]; exact .cons h' ih
  · exact r.append (.cons h .nil)
theorem RM.drop (r : RM K C w vs ds) (k : κ) : RM K C w (dropK vs k) (drop1 ds k) := by
  unfold dropK drop1
  induction r with
  | nil => exact .nil
  | @cons k' v' d' vs ds h' t ih =>
    by_cases q : k' = k
    · simp only [q, List.filter_cons, ne_eq, not_true_eq_false, decide_false]; exact ih
    · simp only [q, List.filter_cons, ne_eq, not_false_eq_true, decide_true, if_true]; exact .cons h' ih
end
theorem RK.rm : ∀ {vs : List (Key × V)} {ds : List (Key × D)}, RK K C w vs ds → RM K C w vs ds
  | _, _, .nil => .nil
  | _, _, .cons h t => .cons h (RK.rm t)
theorem RM.rk : ∀ {vs : List (Key × V)} {ds : List (Key × D)}, RM K C w vs ds → RK K C w vs ds
  | _, _, .nil => .nil
  | _, _, .cons h t => .cons h (RM.rk t)
theorem RT.rm : ∀ {vs : List (List Key × V)} {ds : List (List Key × D)}, RT K C w vs ds → RM K C w vs ds
  | _, _, .nil => .nil
  | _, _, .cons h t => .cons h (RT.rm t)
theorem RM.rt : ∀ {vs : List (List Key × V)} {ds : List (List Key × D)}, RM K C w vs ds → RT K C w vs ds
  | _, _, .nil => .nil
  | _, _, .cons h t => .cons h (RM.rt t)
end
/-! ### what a slot's value, a cell holds -/
/-- the thing behind a value: itself, or what the cell has -/
def deref (s : Store) : Sl → D
  | .o d => d
  | .v (.ref n) => match s[n]? with
    | some d => d
    | none => .ref n
  | .v d => d
  | .f _ => .raw 0
section
variable {K : PySem.W.Frag} {C : Tbl} {g : Gw} {L : Lk} {kw : Vw} {io : List Addr} {O : Addr → Prop} {H : Hp} {σ : St} {sd : DSt} {s : Store}
/-- an operand: its value, and what stands behind it -/
theorem RSl.deref (S : StOk K C g L kw io O H σ sd s) {v : V} {x : Sl} (r : RSl K C (vw g io O H) O v x) :
    RD K C (vw g io O H) v (deref s x) ∨ ∃ a ho, v = .ref a ∧ H a = some ho ∧ RC K C (vw g io O H) ho (deref s x) := by
  cases r with
  | o h oa nf r => exact .inr ⟨_, _, rfl, h, r⟩
  | @v v d r =>
    cases r with
    | @ref n a h =>
      have hl : n < s.length := by
        have q : io.length = s.length := S.ce.len
        rw [← q]; exact (List.getElem?_eq_some_iff.mp h).1
      have hs : s[n]? = some s[n] := by simp [hl]
      obtain ⟨b, ho, e1, e2, r⟩ := S.ce.get n _ hs
      rw [h] at e1; cases e1
      refine .inr ⟨a, ho, rfl, e2, ?_⟩
      show RC K C (vw g io O H) ho (match s[n]? with | some d => d | none => .ref n)
      rw [hs]; exact r
    | non => exact .inl .non
    | bl b => exact .inl (.bl b)
    | int i => exact .inl (.int i)
    | str x => exact .inl (.str x)
    | ro h r => exact .inl (.ro h r)
    | lst x h r => exact .inl (.lst x h r)
    | tup x h r => exact .inl (.tup x h r)
    | dK x h r => exact .inl (.dK x h r)
    | dT x h r => exact .inl (.dT x h r)
    | ins x h r => exact .inl (.ins x h r)
    | raw a => exact .inl (.raw a)
theorem RSl.lst (S : StOk K C g L kw io O H σ sd s) {v : V} {x : Sl} {ds : List D} (r : RSl K C (vw g io O H) O v x) (h : G.deref s x = .lst ds) : ∃ a vs, v = .ref a ∧ H a = some (.lst vs) ∧ RL K C (vw g io O H) vs ds := by
  rcases r.deref S with q | ⟨a, ho, e, e2, q⟩
  · rw [h] at q
    cases q with
    | lst x h r => exact ⟨_, _, rfl, h, r⟩
  · rw [h] at q
    cases q with
    | lst r => exact ⟨_, _, e, e2, r⟩
theorem RSl.seqL (S : StOk K C g L kw io O H σ sd s) {v : V} {x : Sl} {ds : List D} (r : RSl K C (vw g io O H) O v x) (h : G.deref s x = .lst ds ∨ G.deref s x = .ro ds) : ∃ a vs, v = .ref a ∧ SqL K H a vs ∧ RL K C (vw g io O H) vs ds := by
  rcases h with h | h
  · obtain ⟨a, vs, e, e2, r⟩ := r.lst S h
    exact ⟨a, vs, e, .inl (.inl e2), r⟩
  · rcases r.deref S with q | ⟨a, ho, e, e2, q⟩
    · rw [h] at q
      cases q with
      | ro h r =>
        rcases h with ⟨_, h⟩ | h
        · exact ⟨_, _, rfl, .inl h, r⟩
        · exact ⟨_, _, rfl, h _, r⟩
    · rw [h] at q
      cases q
theorem RSl.tup (S : StOk K C g L kw io O H σ sd s) {v : V} {x : Sl} {ds : List D} (r : RSl K C (vw g io O H) O v x) (h : G.deref s x = .tup ds) : ∃ a vs, v = .ref a ∧ H a = some (.tup vs) ∧ RL K C (vw g io O H) vs ds := by
  rcases r.deref S with q | ⟨a, ho, e, e2, q⟩
  · rw [h] at q
    cases q with
    | tup x h r => exact ⟨_, _, rfl, h, r⟩
  · rw [h] at q
    cases q
/-- the dict that is read: a locked one, too -/
def unlk : D → D
  | .lk d => d
  | d => d
theorem RSl.dK (S : StOk K C g L kw io O H σ sd s) {v : V} {x : Sl} {ds : List (Key × D)} (r : RSl K C (vw g io O H) O v x) (h : unlk (G.deref s x) = .dK ds) : ∃ a vs, v = .ref a ∧ Rd H a (.dK vs) ∧ RK K C (vw g io O H) vs ds := by
  have q := r.deref S
  generalize G.deref s x = y at h q
  rcases q with q | ⟨a, ho, e, e2, q⟩
  · cases q with
    | dK x h1 r1 => cases h; exact ⟨_, _, rfl, h1, r1⟩
    | _ => cases h
  · cases q with
    | dK r1 => cases h; exact ⟨_, _, e, .inl e2, r1⟩
    | lk _ r1 =>
      cases r1 with
      | dK r1 => cases h; exact ⟨_, _, e, .inr ⟨_, e2⟩, r1⟩
      | _ => cases h
    | _ => cases h
theorem RSl.dT (S : StOk K C g L kw io O H σ sd s) {v : V} {x : Sl} {ds : List (List Key × D)} (r : RSl K C (vw g io O H) O v x) (h : unlk (G.deref s x) = .dT ds) : ∃ a vs, v = .ref a ∧ Rd H a (.dT vs) ∧ RT K C (vw g io O H) vs ds := by
  have q := r.deref S
  generalize G.deref s x = y at h q
  rcases q with q | ⟨a, ho, e, e2, q⟩
  · cases q with
    | dT x h1 r1 => cases h; exact ⟨_, _, rfl, h1, r1⟩
    | _ => cases h
  · cases q with
    | dT r1 => cases h; exact ⟨_, _, e, .inl e2, r1⟩
    | lk _ r1 =>
      cases r1 with
      | dT r1 => cases h; exact ⟨_, _, e, .inr ⟨_, e2⟩, r1⟩
      | _ => cases h
    | _ => cases h
end
end G
namespace G
open PySem L2
section
variable {K : PySem.W.Frag} {C : Tbl} {g : Gw} {L : Lk} {kw : Vw} {io : List Addr} {O : Addr → Prop} {H : Hp} {σ : St} {sd : DSt} {s : Store}
theorem StOk.stpNew {p : Addr} {o : HO} (S : StOk K C g L kw io O H σ sd s) (hp : H p = none) : StOk K C g L kw io O (upd H p o) σ sd s ∧ Stp g io O H io O (upd H p o) := by
  obtain ⟨S', G⟩ := S.new (o := o) hp
  refine ⟨S', G, fun a ha => ?_⟩
  obtain ⟨_, u, hu⟩ := S.od a ha
  rw [upd_some hp hu, hu]
/-- a new container that nobody has -/
theorem StOk.newRes {p : Addr} {ho : HO} (S : StOk K C g L kw io O H σ sd s) (hp : H p = none) (hx : ∀ φ, ho ≠ .ext φ := by intro _ z; cases z) :
    StOk K C g L kw io (ores O p) (upd H p ho) σ sd s ∧ Stp g io O H io (ores O p) (upd H p ho) ∧ ¬ O p := by
  obtain ⟨_, h0, hi, hO, hb⟩ := S.free hp
  obtain ⟨S', T⟩ := S.stpNew (o := ho) hp
  have G' : Grow (vw g io O H) (vw g io (ores O p) (upd H p ho)) := by
    refine ⟨fun a u x h z => x ?_, T.gr.h, T.gr.i⟩
    rcases z with z | z | z | z
    · exact .inl z
    · exact .inr (.inl z)
    · exact .inr (.inr z)
    · have h' : H a = some u := h
      rw [z, hp] at h'; cases h'
  refine ⟨⟨S'.nio, fun a ha => ?_, fun a ha => ?_, fun a ha => ?_, S'.pre, S'.fr, S'.fz, S'.lk, S.ce.grow G' rfl fun a ha => ?_, S.sl.grow G' fun a ha => ⟨.inl ha, T.ow a ha⟩, S.kp.trans G', S.an.trans G', S'.tb.add upd_same hx⟩, ⟨G', T.ow⟩, hO⟩
  · rcases ha with z | z
    · exact S.dj a z
    · rw [z]; exact hi
  · obtain ⟨q1, q2, q3⟩ := S.bd a ha
    exact ⟨q1, fun z => z.elim q2 fun z => hb (z ▸ ha), q3⟩
  · rcases ha with z | z
    · exact S'.od a z
    · rw [z]; exact ⟨h0, _, upd_same⟩
  · obtain ⟨u, hu⟩ := S.io_some ha
    show upd H p ho a = H a
    rw [upd_some hp hu, hu]
theorem StOk.stpCell {p : Addr} {o : HO} {d : D} (S : StOk K C g L kw io O H σ sd s) (hp : H p = none) (r : RC K C (vw g io O H) o d) :
    StOk K C g L kw (io ++ [p]) O (upd H p o) σ sd (s ++ [d]) ∧ Stp g io O H (io ++ [p]) O (upd H p o) := by
  obtain ⟨S', G⟩ := S.newCell hp r
  refine ⟨S', G, fun a ha => ?_⟩
  obtain ⟨_, u, hu⟩ := S.od a ha
  rw [upd_some hp hu, hu]
/-- what was nobody's becomes a cell -/
theorem StOk.resCell {p : Addr} {ho : HO} {d : D} (S : StOk K C g L kw io (ores O p) H σ sd s) (hn : ¬ O p) (hs : ∀ (i : Nat) (d : D), sd[i]? = some (some (Sl.o d)) → σ[i]? ≠ some (some (V.ref p)))
    (hp : H p = some ho) (r : RC K C (vw g io (ores O p) H) ho d) : StOk K C g L kw (io ++ [p]) O H σ sd (s ++ [d]) ∧ Grow (vw g io (ores O p) H) (vw g (io ++ [p]) O H) := by
  have hi : p ∉ io := S.dj p (.inr rfl)
  have el : io.length = s.length := S.ce.len
  have G : Grow (vw g io (ores O p) H) (vw g (io ++ [p]) O H) := by
    refine ⟨fun b u x h z => x ?_, fun b u x h => .inl h, [p], rfl⟩
    rcases z with z | z | z
    · exact .inl z
    · rcases (List.mem_append).1 z with z | z
      · exact .inr (.inl z)
      · exact .inr (.inr (.inr (List.mem_singleton.mp z)))
    · exact .inr (.inr (.inl z))
  refine ⟨⟨?_, fun b hb z => ?_, fun b hb => ?_, fun b hb => S.od b (.inl hb), ?_, S.fr, S.fz, S.lk, ⟨?_, fun n d' e => ?_⟩, ⟨S.sl.len, fun i sl e => ?_, S.sl.inj⟩, S.kp.trans G, S.an.trans G, S.tb.less fun _ z => .inl z⟩, G⟩
  · rw [List.nodup_append]
    refine ⟨S.nio, by simp, fun b hb c hc => ?_⟩
    rw [List.mem_singleton.mp hc]
    rintro rfl
    exact hi hb
  · rcases (List.mem_append).1 z with z | z
    · exact S.dj b (.inl hb) z
    · rw [List.mem_singleton.mp z] at hb; exact hn hb
  · obtain ⟨q1, q2, q3⟩ := S.bd b hb
    refine ⟨fun z => ?_, fun z => q2 (.inl z), q3⟩
    rcases (List.mem_append).1 z with z | z
    · exact q1 z
    · exact q2 (.inr (List.mem_singleton.mp z))
  · obtain ⟨l, e, hl⟩ := S.pre
    refine ⟨l ++ [p], by rw [e, List.append_assoc], fun b hb => ?_⟩
    rcases (List.mem_append).1 hb with z | z
    · exact hl b z
    · rw [List.mem_singleton.mp z]; exact (S.od p (.inr rfl)).1
  · show (io ++ [p]).length = (s ++ [d]).length
    simp only [List.length_singleton, List.length_append]
    omega
  · by_cases hn' : n < s.length
    · rw [List.getElem?_append_left hn'] at e
      obtain ⟨b, u, q1, q2, r'⟩ := S.ce.get n d' e
      exact ⟨b, u, by show (io ++ [p])[n]? = _; rw [List.getElem?_append_left (by omega)]; exact q1, q2, r'.grow G⟩
    · rw [List.getElem?_append_right (by omega)] at e
      have hz : n - s.length = 0 := by
        cases q : n - s.length with
        | zero => rfl
        | succ k => rw [q] at e; simp at e
      rw [hz] at e
      simp at e
      subst e
      refine ⟨p, ho, ?_, hp, r.grow G⟩
      show (io ++ [p])[n]? = some p
      rw [List.getElem?_append_right (by omega), el, hz]
      rfl
  · obtain ⟨v, e1, r⟩ := S.sl.get i sl e
    refine ⟨v, e1, ?_⟩
    cases r with
    | v r => exact .v (r.grow G)
    | @o a ho' d h oa nf r => exact .o h (oa.elim id fun z => absurd (by rw [z] at e1; exact e1) (hs i d e)) nf (r.grow G)
    | f r => exact .f (r.grow G)
theorem StOk.noOwn (S : StOk K C g L kw io O H σ sd s) {p : Addr} (hn : ¬ O p) : ∀ (i : Nat) (d : D), sd[i]? = some (some (Sl.o d)) → σ[i]? ≠ some (some (V.ref p)) := fun i d e z => by
  obtain ⟨a, _, e1, _, oa, _⟩ := S.own_at e
  rw [z] at e1; cases e1; exact hn oa
theorem LO.frz {e : DE} {Q : VK} (h : LE K C g L e σ H Q) : LO K C g L e σ H Q := by
  obtain ⟨kw, io, O, sd, s, Qd, S, he, k⟩ := h
  refine ⟨kw, io, O, sd, s, Qd, S, he, fun d s' io' H' p ho q S' T hn hp nf r => ?_⟩
  obtain ⟨S2, G2⟩ := S'.unres hn (S.noOwn hn)
  refine k d s' io' H' (.ref p) q S2 ⟨T.gr.trans G2, T.ow⟩ (RC.frz ?_ hp nf (r.grow G2))
  exact fun z => z.elim (fun z => (S'.bd p z).2.1 (.inr rfl)) fun z => z.elim (S'.dj p (.inr rfl)) hn
def dNew (e : DE) : DE := fun σ s Q => e σ s fun d s' => Q (.ref s'.length) (s' ++ [d])
theorem LO.cell {e : DE} {Q : VK} (h : LE K C g L (dNew e) σ H Q) : LO K C g L e σ H Q := by
  obtain ⟨kw, io, O, sd, s, Qd, S, he, k⟩ := h
  refine ⟨kw, io, O, sd, s, _, S, he, fun d s' io' H' p ho q S' T hn hp nf r => ?_⟩
  obtain ⟨S2, G2⟩ := S'.resCell hn (S.noOwn hn) hp r
  refine k _ _ (io' ++ [p]) H' (.ref p) q S2 ⟨T.gr.trans G2, T.ow⟩ (.ref ?_)
  show (io' ++ [p])[s'.length]? = some p
  have el : io'.length = s'.length := S'.ce.len
  rw [List.getElem?_append_right (by omega), el, Nat.sub_self]
  rfl
end
section
variable {X : Cx} {C : Tbl} {g : Gw} {L : Lk} {e : Expr} {de : DE} {pos : Pos}
theorem g_frz (h : PE X e (LO X.K C g L de)) : PE X e (LE X.K C g L de) := h.imp fun _ _ _ => LO.frz
theorem g_new (h : PE X e (LO X.K C g L de)) : PE X e (LE X.K C g L (dNew de)) := h.imp fun _ _ _ => LO.cell
/-! ### names, constants -/
def dVar (i : Nat) : DE := fun σ s Q => match σ[i]? with
  | some (some (.v d)) => Q d s
  | _ => False
def dPk (i : Nat) : DP := fun σ s Q => match σ[i]? with
  | some (some (.v d)) => Q (.v d) s
  | some (some (.o d)) => Q (.o d) s
  | _ => False
def dC (d : D) : DE := fun _ s Q => Q d s
def dUp (e : DE) : DP := fun σ s Q => e σ s fun d s' => Q (.v d) s'
theorem g_var (i : Nat) {x : Str} (h : PE X (.Name x pos) (tVar i)) : PE X (.Name x pos) (LE X.K C g L (dVar i)) := h.imp fun σ H Q ⟨kw, io, O, sd, s, Qd, S, he, k⟩ => by
  unfold dVar at he
  split at he
  · rename_i d e
    obtain ⟨v, e1, r⟩ := S.sl.get i _ e
    cases r with
    | v r => exact ⟨v, e1, k d s io H v he S (Stp.refl ..) r⟩
  · exact he.elim
theorem g_pk (i : Nat) {x : Str} (h : PE X (.Name x pos) (tVar i)) : PE X (.Name x pos) (LP X.K C g L (dPk i)) := h.imp fun σ H Q ⟨kw, io, O, sd, s, Qd, S, he, k⟩ => by
  unfold dPk at he
  split at he
  · rename_i d e
    obtain ⟨v, e1, r⟩ := S.sl.get i _ e
    cases r with
    | v r => exact ⟨v, e1, k _ s io H v he S (Stp.refl ..) (.v r)⟩
  · rename_i d e
    obtain ⟨v, e1, r⟩ := S.sl.get i _ e
    cases r with
    | o h oa nf r => exact ⟨_, e1, k _ s io H _ he S (Stp.refl ..) (.o h oa nf r)⟩
  · exact he.elim
theorem g_c {v : V} {d : D} (h : PE X e (tC v)) (r : ∀ w, RD X.K C w v d) : PE X e (LE X.K C g L (dC d)) := h.imp fun σ H Q ⟨kw, io, O, sd, s, Qd, S, he, k⟩ => k d s io H v he S (Stp.refl ..) (r _)
theorem g_int {i j} : PE X (.Constant (.int i) j pos) (LE X.K C g L (dC (.int i))) := g_c pe_int fun _ => .int i
theorem g_bl {i j} : PE X (.Constant (.bool i) j pos) (LE X.K C g L (dC (.bl i))) := g_c pe_bl fun _ => .bl i
theorem g_non {j} : PE X (.Constant .none j pos) (LE X.K C g L (dC .non)) := g_c pe_non fun _ => .non
theorem g_str {x j} : PE X (.Constant (.str x) j pos) (LE X.K C g L (dC (.str x))) := g_c pe_str fun _ => .str x
theorem g_up (h : PE X e (LE X.K C g L de)) : PE X e (LP X.K C g L (dUp de)) := h.imp fun σ H Q ⟨kw, io, O, sd, s, Qd, S, he, k⟩ =>
  ⟨kw, io, O, sd, s, _, S, he, fun d s' io' H' v q S' T r => k _ s' io' H' v q S' T (.v r)⟩
/-! ### operators by values -/
abbrev DOp := Sl → Sl → Store → DK → Prop
def OpG (K : PySem.W.Frag) (C : Tbl) (g : Gw) (L : Lk) (r : R2) (o : DOp) : Prop :=
  ∀ kw io O H σ sd s x y v u Qd Q, StOk K C g L kw io O H σ sd s → RSl K C (vw g io O H) O v x → RSl K C (vw g io O H) O u y → o x y s Qd →
    (∀ d s' io' H' z, Qd d s' → StOk K C g L kw io' O H' σ sd s' → Stp g io O H io' O H' → RD K C (vw g io' O H') z d → Q z H') → r v u H Q
/-- .. that make a new container -/
def OpN (K : PySem.W.Frag) (C : Tbl) (g : Gw) (L : Lk) (r : R2) (o : DOp) : Prop :=
  ∀ kw io O H σ sd s x y v u Qd Q, StOk K C g L kw io O H σ sd s → RSl K C (vw g io O H) O v x → RSl K C (vw g io O H) O u y → o x y s Qd →
    (∀ d s' io' H' p ho, Qd d s' → StOk K C g L kw io' (ores O p) H' σ sd s' → Stp g io O H io' (ores O p) H' → ¬ O p → H' p = some ho → (∀ od u, ho ≠ .frz od u) → RC K C (vw g io' (ores O p) H') ho d → Q (.ref p) H') → r v u H Q
def dOp (o : DOp) (a b : DP) : DE := fun σ s Q => a σ s fun x s1 => b σ s1 fun y s2 => o x y s2 Q
theorem l_op {K : PySem.W.Frag} {r : R2} {o : DOp} {a b : DP} (h : OpG K C g L r o) (σ : St) (H : Hp) (Q : VK) (q : LE K C g L (dOp o a b) σ H Q) : tOp r (LP K C g L a) (LP K C g L b) σ H Q := by
  obtain ⟨kw, io, O, sd, s, Qd, S, he, k⟩ := q
  refine ⟨kw, io, O, sd, s, _, S, he, fun x s1 io1 H1 v q1 S1 T1 r1 => ⟨kw, io1, O, sd, s1, _, S1, q1, fun y s2 io2 H2 u q2 S2 T2 r2 => ?_⟩⟩
  exact h kw io2 O H2 σ sd s2 x y v u Qd Q S2 (r1.grow T2.gr T2.ow) r2 q2 fun d s' io' H' z q3 S3 T3 r3 => k d s' io' H' z q3 S3 ((T1.trans T2).trans T3) r3
theorem l_opN {K : PySem.W.Frag} {r : R2} {o : DOp} {a b : DP} (h : OpN K C g L r o) (σ : St) (H : Hp) (Q : VK) (q : LO K C g L (dOp o a b) σ H Q) : tOp r (LP K C g L a) (LP K C g L b) σ H Q := by
  obtain ⟨kw, io, O, sd, s, Qd, S, he, k⟩ := q
  refine ⟨kw, io, O, sd, s, _, S, he, fun x s1 io1 H1 v q1 S1 T1 r1 => ⟨kw, io1, O, sd, s1, _, S1, q1, fun y s2 io2 H2 u q2 S2 T2 r2 => ?_⟩⟩
  exact h kw io2 O H2 σ sd s2 x y v u Qd Q S2 (r1.grow T2.gr T2.ow) r2 q2 fun d s' io' H' p ho q3 S3 T3 => k d s' io' H' p ho q3 S3 ((T1.trans T2).trans T3)
theorem g_op {op : Operator} {r : R2} {o : DOp} {a b : Expr} {da db : DP} (hr : OpR X (binaryOp op) r) (h : OpG X.K C g L r o) (ha : PE X a (LP X.K C g L da)) (hb : PE X b (LP X.K C g L db)) : PE X (.BinOp a op b pos) (LE X.K C g L (dOp o da db)) :=
  (pe_op hr ha hb).imp (l_op h)
theorem g_opN {op : Operator} {r : R2} {o : DOp} {a b : Expr} {da db : DP} (hr : OpR X (binaryOp op) r) (h : OpN X.K C g L r o) (ha : PE X a (LP X.K C g L da)) (hb : PE X b (LP X.K C g L db)) : PE X (.BinOp a op b pos) (LO X.K C g L (dOp o da db)) :=
  (pe_op hr ha hb).imp (l_opN h)
theorem g_cmp {op : CmpOp} {r : R2} {o : DOp} {a b : Expr} {da db : DP} (hr : OpR X (compareOp op) r) (h : OpG X.K C g L r o) (ha : PE X a (LP X.K C g L da)) (hb : PE X b (LP X.K C g L db)) (hm : behindInMarks op b = false) : PE X (.Compare a [op] [b] pos) (LE X.K C g L (dOp o da db)) :=
  (pe_cmpR hr ha hb hm).imp (l_op h)
def dB (e : DE) : DT := fun σ s Q => e σ s fun d s' => match d with
  | .bl b => Q b s'
  | _ => False
theorem l_b {K : PySem.W.Frag} (σ : St) (H : Hp) (Q : Bool → Hp → Prop) (h : LT K C g L (dB de) σ H Q) : tB (LE K C g L de) σ H Q := by
  obtain ⟨kw, io, O, sd, s, Qd, S, he, k⟩ := h
  refine ⟨kw, io, O, sd, s, _, S, he, fun d s' io' H' v q S' T r => ?_⟩
  cases r with
  | bl b => exact ⟨b, rfl, k b s' io' H' q S' T⟩
  | _ => exact False.elim q
theorem g_tcmp {op : CmpOp} {r : R2} {o : DOp} {a b : Expr} {da db : DP} (hr : OpR X (compareOp op) r) (h : OpG X.K C g L r o) (ha : PE X a (LP X.K C g L da)) (hb : PE X b (LP X.K C g L db)) (hm : behindInMarks op b = false) : PT X (.Compare a [op] [b] pos) (LT X.K C g L (dB (dOp o da db))) :=
  (pt_cmpR hr ha hb hm).imp fun σ H Q q => by
    have q2 := l_b (K := X.K) (C := C) (g := g) (L := L) (de := dOp o da db) σ H Q q
    exact l_op h σ H _ q2
theorem g_test (h : PE X e (LE X.K C g L de)) (he : ∀ whole, isTrue e X.env whole = (do let v ← whole; standAt e.pos; holding [v] (truthy v))) : PT X e (LT X.K C g L (dB de)) := (pt_val h he).imp fun σ H Q q => l_b σ H Q q
def dAnd (a b : DT) : DT := fun σ s Q => a σ s fun c s1 => if c = true then b σ s1 Q else Q false s1
def dOr (a b : DT) : DT := fun σ s Q => a σ s fun c s1 => if c = true then Q true s1 else b σ s1 Q
def dNot (a : DT) : DT := fun σ s Q => a σ s fun c s1 => Q (!c) s1
section
variable {a b : Expr} {rest : List Expr} {da db : DT}
theorem l_and {K : PySem.W.Frag} (σ : St) (H : Hp) (Q : Bool → Hp → Prop) (h : LT K C g L (dAnd da db) σ H Q) : tAnd (LT K C g L da) (LT K C g L db) σ H Q := by
  obtain ⟨kw, io, O, sd, s, Qd, S, he, k⟩ := h
  refine ⟨kw, io, O, sd, s, _, S, he, fun c s1 io1 H1 q S1 T1 => ?_⟩
  cases c with
  | true => exact ⟨kw, io1, O, sd, s1, Qd, S1, q, fun c s' io' H' q' S' T' => k c s' io' H' q' S' (T1.trans T')⟩
  | false => exact k false s1 io1 H1 q S1 T1
theorem l_or {K : PySem.W.Frag} (σ : St) (H : Hp) (Q : Bool → Hp → Prop) (h : LT K C g L (dOr da db) σ H Q) : tOr (LT K C g L da) (LT K C g L db) σ H Q := by
  obtain ⟨kw, io, O, sd, s, Qd, S, he, k⟩ := h
  refine ⟨kw, io, O, sd, s, _, S, he, fun c s1 io1 H1 q S1 T1 => ?_⟩
  cases c with
  | false => exact ⟨kw, io1, O, sd, s1, Qd, S1, q, fun c s' io' H' q' S' T' => k c s' io' H' q' S' (T1.trans T')⟩
  | true => exact k true s1 io1 H1 q S1 T1
theorem g_and1 (ha : PT X a (LT X.K C g L da)) : PW X (.BoolOp .And [a] pos) (LT X.K C g L da) := pw_and1 ha
theorem g_or1 (ha : PT X a (LT X.K C g L da)) : PW X (.BoolOp .Or [a] pos) (LT X.K C g L da) := pw_or1 ha
theorem g_and (ha : PT X a (LT X.K C g L da)) (hb : PW X (.BoolOp .And (b :: rest) pos) (LT X.K C g L db)) : PW X (.BoolOp .And (a :: b :: rest) pos) (LT X.K C g L (dAnd da db)) := (pw_and ha hb).imp fun σ H Q q => l_and σ H Q q
theorem g_or (ha : PT X a (LT X.K C g L da)) (hb : PW X (.BoolOp .Or (b :: rest) pos) (LT X.K C g L db)) : PW X (.BoolOp .Or (a :: b :: rest) pos) (LT X.K C g L (dOr da db)) := (pw_or ha hb).imp fun σ H Q q => l_or σ H Q q
theorem g_not (ha : PT X a (LT X.K C g L da)) : PT X (.UnaryOp .Not a pos) (LT X.K C g L (dNot da)) := (pt_not ha).imp fun σ H Q ⟨kw, io, O, sd, s, Qd, S, he, k⟩ =>
  ⟨kw, io, O, sd, s, _, S, he, fun c s1 io1 H1 q S1 T1 => k (!c) s1 io1 H1 q S1 T1⟩
end
/-! and, or, not as values: truths -/
def dAndV (a b : DE) : DE := fun σ s Q => a σ s fun x s1 => match x with
  | .bl c => if c = true then b σ s1 Q else Q (.bl false) s1
  | _ => False
def dOrV (a b : DE) : DE := fun σ s Q => a σ s fun x s1 => match x with
  | .bl c => if c = true then Q (.bl true) s1 else b σ s1 Q
  | _ => False
def dNotV (a : DE) : DE := fun σ s Q => a σ s fun x s1 => match x with
  | .bl c => Q (.bl (!c)) s1
  | _ => False
section
variable {a b : Expr} {rest : List Expr} {da db : DE}
theorem g_andV (ha : PE X a (LE X.K C g L da)) (hb : PE X (.BoolOp .And (b :: rest) pos) (LE X.K C g L db)) : PE X (.BoolOp .And (a :: b :: rest) pos) (LE X.K C g L (dAndV da db)) := (pe_and ha hb).imp fun σ H Q ⟨kw, io, O, sd, s, Qd, S, he, k⟩ => by
  refine ⟨kw, io, O, sd, s, _, S, he, fun x s1 io1 H1 v q S1 T1 r => ?_⟩
  cases r with
  | bl c =>
    refine ⟨c, rfl, ?_⟩
    cases c with
    | true => exact ⟨kw, io1, O, sd, s1, Qd, S1, q, fun d s' io' H' v q' S' T' => k d s' io' H' v q' S' (T1.trans T')⟩
    | false => exact k _ s1 io1 H1 _ q S1 T1 (.bl false)
  | _ => exact False.elim q
theorem g_orV (ha : PE X a (LE X.K C g L da)) (hb : PE X (.BoolOp .Or (b :: rest) pos) (LE X.K C g L db)) : PE X (.BoolOp .Or (a :: b :: rest) pos) (LE X.K C g L (dOrV da db)) := (pe_or ha hb).imp fun σ H Q ⟨kw, io, O, sd, s, Qd, S, he, k⟩ => by
  refine ⟨kw, io, O, sd, s, _, S, he, fun x s1 io1 H1 v q S1 T1 r => ?_⟩
  cases r with
  | bl c =>
    refine ⟨c, rfl, ?_⟩
    cases c with
    | false => exact ⟨kw, io1, O, sd, s1, Qd, S1, q, fun d s' io' H' v q' S' T' => k d s' io' H' v q' S' (T1.trans T')⟩
    | true => exact k _ s1 io1 H1 _ q S1 T1 (.bl true)
  | _ => exact False.elim q
theorem g_oneV {op} (ha : PE X a (LE X.K C g L da)) : PE X (.BoolOp op [a] pos) (LE X.K C g L da) := pe_one ha
theorem g_notV (ha : PE X a (LE X.K C g L da)) : PE X (.UnaryOp .Not a pos) (LE X.K C g L (dNotV da)) := (pe_not ha).imp fun σ H Q ⟨kw, io, O, sd, s, Qd, S, he, k⟩ => by
  refine ⟨kw, io, O, sd, s, _, S, he, fun x s1 io1 H1 v q S1 T1 r => ?_⟩
  cases r with
  | bl c => exact ⟨c, rfl, k _ s1 io1 H1 _ q S1 T1 (.bl _)⟩
  | _ => exact False.elim q
end
/-! ### argument lists, displays -/
def aNil : DA := fun _ s Q => Q [] s
def aCons (e : DE) (r : DA) : DA := fun σ s Q => e σ s fun d s1 => r σ s1 fun ds s2 => Q (d :: ds) s2
def pNil : DPs := fun _ s Q => Q [] s
def pCons (e : DP) (r : DPs) : DPs := fun σ s Q => e σ s fun d s1 => r σ s1 fun ds s2 => Q (d :: ds) s2
section
variable {es : List Expr} {da : DA} {dp : DP} {dps : DPs}
theorem ga_nil : PA X [] (LA X.K C g L aNil) := pa_nil.imp fun σ H Q ⟨kw, io, O, sd, s, Qd, S, he, k⟩ => k [] s io H [] he S (Stp.refl ..) .nil
theorem ga_cons (ha : PE X e (LE X.K C g L de)) (hr : PA X es (LA X.K C g L da)) (hs : starEach (e :: es) X.env = (false, eval e X.env) :: starEach es X.env := by rfl) : PA X (e :: es) (LA X.K C g L (aCons de da)) :=
  (pa_cons ha hr hs).imp fun σ H Q ⟨kw, io, O, sd, s, Qd, S, he, k⟩ =>
    ⟨kw, io, O, sd, s, _, S, he, fun d s1 io1 H1 v q1 S1 T1 r1 => ⟨kw, io1, O, sd, s1, _, S1, q1, fun ds s2 io2 H2 vs q2 S2 T2 r2 => k _ s2 io2 H2 _ q2 S2 (T1.trans T2) (.cons (r1.grow T2.gr) r2)⟩⟩
theorem gp_nil : PA X [] (LPs X.K C g L pNil) := pa_nil.imp fun σ H Q ⟨kw, io, O, sd, s, Qd, S, he, k⟩ => k [] s io H [] he S (Stp.refl ..) .nil
theorem gp_cons (ha : PE X e (LP X.K C g L dp)) (hr : PA X es (LPs X.K C g L dps)) (hs : starEach (e :: es) X.env = (false, eval e X.env) :: starEach es X.env := by rfl) : PA X (e :: es) (LPs X.K C g L (pCons dp dps)) :=
  (pa_cons ha hr hs).imp fun σ H Q ⟨kw, io, O, sd, s, Qd, S, he, k⟩ =>
    ⟨kw, io, O, sd, s, _, S, he, fun d s1 io1 H1 v q1 S1 T1 r1 => ⟨kw, io1, O, sd, s1, _, S1, q1, fun ds s2 io2 H2 vs q2 S2 T2 r2 => k _ s2 io2 H2 _ q2 S2 (T1.trans T2) (.cons (r1.grow T2.gr T2.ow) r2)⟩⟩
abbrev lim : Nat := 10000000
theorem lim_le {n : Nat} (h : n ≤ lim) : n ≤ sizeLine := Nat.le_trans h (by decide)
theorem lim_lt {n : Nat} (h : n < lim) : n < sizeLine := Nat.lt_of_lt_of_le h (by decide)
def dTup (a : DA) : DE := fun σ s Q => a σ s fun ds s1 => ds.length ≤ lim ∧ Q (.tup ds) s1
def dLst (a : DA) : DE := fun σ s Q => a σ s fun ds s1 => ds.length ≤ lim ∧ Q (.lst ds) s1
theorem g_tup {x1} (h : PA X es (LA X.K C g L da)) : PE X (.Tuple es x1 pos) (LE X.K C g L (dTup da)) := (pe_tup h).imp fun σ H Q ⟨kw, io, O, sd, s, Qd, S, he, k⟩ => by
  refine ⟨kw, io, O, sd, s, _, S, he, fun ds s1 io1 H1 vs q S1 T1 r => ⟨?_, fun p hp => ?_⟩⟩
  · rw [r.length]; exact lim_le q.1
  · obtain ⟨S2, T2⟩ := S1.stpNew (o := .tup vs) hp
    refine k _ s1 io1 _ _ q.2 S2 (T1.trans T2) (.tup ?_ upd_same (r.grow T2.gr))
    exact (S1.free hp).1
theorem g_lst (h : PA X es (LA X.K C g L da)) : PE X (.List es pos) (LO X.K C g L (dLst da)) := (pe_lst h).imp fun σ H Q ⟨kw, io, O, sd, s, Qd, S, he, k⟩ => by
  refine ⟨kw, io, O, sd, s, _, S, he, fun ds s1 io1 H1 vs q S1 T1 r => ⟨?_, fun p hp => ?_⟩⟩
  · rw [r.length]; exact lim_le q.1
  · obtain ⟨S2, T2, hn⟩ := S1.newRes (ho := .lst vs) hp
    exact k _ s1 io1 _ p _ q.2 S2 (T1.trans T2) hn upd_same (by intro _ _ z; cases z) (.lst (r.grow T2.gr))
end
end
end G
namespace G
open PySem L2
section
variable {K : PySem.W.Frag} {C : Tbl} {g : Gw} {L : Lk}
/-! ### whole numbers -/
def oI (P : Int → Int → Prop) (f : Int → Int → D) : DOp := fun x y s Q => match x, y with
  | .v (.int i), .v (.int j) => P i j ∧ Q (f i j) s
  | _, _ => False
def oI0 (f : Int → Int → D) : DOp := fun x y s Q => match x, y with
  | .v (.int i), .v (.int j) => Q (f i j) s
  | _, _ => False
theorem opg_I {P Cc : Int → Int → Prop} {f : Int → Int → D} {f' : Int → Int → V} (hP : ∀ i j, P i j → Cc i j) (hr : ∀ w i j, RD K C w (f' i j) (f i j)) : OpG K C g L (rI Cc f') (oI P f) := by
  intro kw io O H σ sd s x y v u Qd Q S rx ry h k
  unfold oI at h
  split at h
  · cases rx with
    | v rx => cases rx; cases ry with
      | v ry => cases ry; exact ⟨_, _, rfl, rfl, hP _ _ h.1, k _ s io H _ h.2 S (Stp.refl ..) (hr _ _ _)⟩
  · exact h.elim
theorem opg_I0 {f : Int → Int → D} {f' : Int → Int → V} (hr : ∀ w i j, RD K C w (f' i j) (f i j)) : OpG K C g L (rI0 f') (oI0 f) := by
  intro kw io O H σ sd s x y v u Qd Q S rx ry h k
  unfold oI0 at h
  split at h
  · cases rx with
    | v rx => cases rx; cases ry with
      | v ry => cases ry; exact ⟨_, _, rfl, rfl, k _ s io H _ h S (Stp.refl ..) (hr _ _ _)⟩
  · exact h.elim
abbrev oSub : DOp := oI0 fun i j => .int (i - j)
abbrev oMul : DOp := oI CMulW fun i j => .int (i * j)
abbrev oDiv : DOp := oI CDivW fun i j => .int (i / j)
abbrev oMod : DOp := oI (fun _ j => 0 < j) fun i j => .int (i % j)
abbrev oPow : DOp := oI CPow fun i j => .int (i ^ j.toNat)
abbrev oShl : DOp := oI CPow fun i j => .int (i * 2 ^ j.toNat)
abbrev oShr : DOp := oI (fun _ j => 0 ≤ j) fun i j => .int (i / 2 ^ j.toNat)
abbrev oAndI : DOp := oI0 fun i j => .int (Builtin.bitAnd i j)
abbrev oOrI : DOp := oI0 fun i j => .int (Builtin.bitOr i j)
abbrev oXorI : DOp := oI0 fun i j => .int (Builtin.bitXor i j)
abbrev oLt : DOp := oI0 fun i j => .bl (decide (i < j))
abbrev oLe : DOp := oI0 fun i j => .bl (decide (i ≤ j))
abbrev oGt : DOp := oI0 fun i j => .bl (decide (j < i))
abbrev oGe : DOp := oI0 fun i j => .bl (decide (j ≤ i))
theorem og_sub : OpG K C g L (rI0 fun i j => .int (i - j)) oSub := opg_I0 fun _ _ _ => .int _
theorem og_mul : OpG K C g L (rI CMulW fun i j => .int (i * j)) oMul := opg_I (fun _ _ h => h) fun _ _ _ => .int _
theorem og_div : OpG K C g L (rI CDivW fun i j => .int (i / j)) oDiv := opg_I (fun _ _ h => h) fun _ _ _ => .int _
theorem og_mod : OpG K C g L (rI (fun _ j => 0 < j) fun i j => .int (i % j)) oMod := opg_I (fun _ _ h => h) fun _ _ _ => .int _
theorem og_pow : OpG K C g L (rI CPow fun i j => .int (i ^ j.toNat)) oPow := opg_I (fun _ _ h => h) fun _ _ _ => .int _
theorem og_shl : OpG K C g L (rI CPow fun i j => .int (i * 2 ^ j.toNat)) oShl := opg_I (fun _ _ h => h) fun _ _ _ => .int _
theorem og_shr : OpG K C g L (rI (fun _ j => 0 ≤ j) fun i j => .int (i / 2 ^ j.toNat)) oShr := opg_I (fun _ _ h => h) fun _ _ _ => .int _
theorem og_and : OpG K C g L (rI0 fun i j => .int (Builtin.bitAnd i j)) oAndI := opg_I0 fun _ _ _ => .int _
theorem og_or : OpG K C g L (rI0 fun i j => .int (Builtin.bitOr i j)) oOrI := opg_I0 fun _ _ _ => .int _
theorem og_xor : OpG K C g L (rI0 fun i j => .int (Builtin.bitXor i j)) oXorI := opg_I0 fun _ _ _ => .int _
theorem og_lt : OpG K C g L (rI0 fun i j => .bl (decide (i < j))) oLt := opg_I0 fun _ _ _ => .bl _
theorem og_le : OpG K C g L (rI0 fun i j => .bl (decide (i ≤ j))) oLe := opg_I0 fun _ _ _ => .bl _
theorem og_gt : OpG K C g L (rI0 fun i j => .bl (decide (j < i))) oGt := opg_I0 fun _ _ _ => .bl _
theorem og_ge : OpG K C g L (rI0 fun i j => .bl (decide (j ≤ i))) oGe := opg_I0 fun _ _ _ => .bl _
/-! ### + -/
/-- whole numbers, texts, tuples -/
def oAdd : DOp := fun x y s Q => match x, y with
  | .v (.int i), .v (.int j) => Q (.int (i + j)) s
  | .v (.str a), .v (.str b) => a.length + b.length ≤ lim ∧ Q (.str (a ++ b)) s
  | .v (.tup a), .v (.tup b) => a.length + b.length ≤ lim ∧ Q (.tup (a ++ b)) s
  | _, _ => False
abbrev rAddA (K : PySem.W.Frag) : R2 := fun x y H Q => rI0 (fun i j => .int (i + j)) x y H Q ∨ (∃ i j, x = .str i ∧ y = .str j ∧ i.length + j.length ≤ sizeLine ∧ Q (.str (i ++ j)) H) ∨ rCatA K x y H Q
theorem op_addA {X : Cx} : OpR X (binaryOp .Add) (rAddA X.K) := op_add.or (op_add_str.or op_catA)
theorem og_add : OpG K C g L (rAddA K) oAdd := by
  intro kw io O H σ sd s x y v u Qd Q S rx ry h k
  unfold oAdd at h
  split at h
  · cases rx with
    | v rx => cases rx; cases ry with
      | v ry => cases ry; exact .inl ⟨_, _, rfl, rfl, k _ s io H _ h S (Stp.refl ..) (.int _)⟩
  · cases rx with
    | v rx => cases rx; cases ry with
      | v ry => cases ry; exact .inr (.inl ⟨_, _, rfl, rfl, lim_le h.1, k _ s io H _ h.2 S (Stp.refl ..) (.str _)⟩)
  · cases rx with
    | v rx => cases ry with
      | v ry =>
        cases rx with
        | tup x1 h1 r1 => cases ry with
          | tup x2 h2 r2 =>
            refine .inr (.inr ⟨_, _, _, _, rfl, rfl, .inl (.inl h1), .inl (.inl h2), by rw [r1.length, r2.length]; exact lim_le h.1, fun e => ?_, fun e e2 => ?_, fun e e2 p hp => ?_⟩)
            · subst e; cases r1
              exact k _ s io H _ h.2 S (Stp.refl ..) (.tup x2 h2 r2)
            · subst e2; cases r2
              have q := h.2
              rw [List.append_nil] at q
              exact k _ s io H _ q S (Stp.refl ..) (.tup x1 h1 r1)
            · obtain ⟨S2, T2⟩ := S.stpNew (o := .tup _) hp
              exact k _ s io _ _ h.2 S2 T2 (.tup (S.free hp).1 upd_same ((r1.append r2).grow T2.gr))
  · exact h.elim
/-- lists -/
def oCat : DOp := fun x y s Q => match deref s x, deref s y with
  | .lst a, .lst b => a.length + b.length ≤ lim ∧ Q (.lst (a ++ b)) s
  | _, _ => False
theorem og_cat : OpN K C g L rCat oCat := by
  intro kw io O H σ sd s x y v u Qd Q S rx ry h k
  unfold oCat at h
  split at h
  · rename_i a b e1 e2
    obtain ⟨p1, vs1, rfl, h1, r1⟩ := rx.lst S e1
    obtain ⟨p2, vs2, rfl, h2, r2⟩ := ry.lst S e2
    refine ⟨_, _, _, _, rfl, rfl, h1, h2, by rw [r1.length, r2.length]; exact lim_le h.1, fun p hp => ?_⟩
    obtain ⟨S2, T2, hn⟩ := S.newRes (ho := .lst (vs1 ++ vs2)) hp
    exact k _ s io _ p _ h.2 S2 T2 hn upd_same (by intro _ _ z; cases z) (.lst ((r1.append r2).grow T2.gr))
  · exact h.elim
/-! ### is -/
def oIsN : DOp := fun x y s Q => match x, y with
  | .v .non, .v .non => Q (.bl true) s
  | _, .v .non => Q (.bl false) s
  | _, _ => False
def oNotN : DOp := fun x y s Q => match x, y with
  | .v .non, .v .non => Q (.bl false) s
  | _, .v .non => Q (.bl true) s
  | _, _ => False
theorem RSl.non_or {w : Vw} {O : Addr → Prop} {v : V} {x : Sl} (r : RSl K C w O v x) : (v = .non ∧ x = .v .non) ∨ (v ≠ .non ∧ x ≠ .v .non) := by
  cases r with
  | v r => cases r <;> first | exact .inl ⟨rfl, rfl⟩ | exact .inr ⟨(by intro z; cases z), (by intro z; cases z)⟩
  | o => exact .inr ⟨(by intro z; cases z), (by intro z; cases z)⟩
theorem og_isN : OpG K C g L (fun x y H Q => y = .non ∧ Q (.bl (decide (x = .non))) H) oIsN := by
  intro kw io O H σ sd s x y v u Qd Q S rx ry h k
  unfold oIsN at h
  split at h
  · cases rx with
    | v rx => cases rx; cases ry with
      | v ry => cases ry; exact ⟨rfl, k _ s io H _ h S (Stp.refl ..) (.bl _)⟩
  · rename_i nx
    cases ry with
    | v ry =>
      cases ry
      rcases rx.non_or with ⟨_, q⟩ | ⟨q, _⟩
      · exact (nx q).elim
      · exact ⟨rfl, k _ s io H _ h S (Stp.refl ..) (by rw [decide_eq_false q]; exact .bl _)⟩
  · exact h.elim
theorem og_notN : OpG K C g L (fun x y H Q => y = .non ∧ Q (.bl (!decide (x = .non))) H) oNotN := by
  intro kw io O H σ sd s x y v u Qd Q S rx ry h k
  unfold oNotN at h
  split at h
  · cases rx with
    | v rx => cases rx; cases ry with
      | v ry => cases ry; exact ⟨rfl, k _ s io H _ h S (Stp.refl ..) (.bl _)⟩
  · rename_i nx
    cases ry with
    | v ry =>
      cases ry
      rcases rx.non_or with ⟨_, q⟩ | ⟨q, _⟩
      · exact (nx q).elim
      · exact ⟨rfl, k _ s io H _ h S (Stp.refl ..) (by rw [decide_eq_false q]; exact .bl _)⟩
  · exact h.elim
def oIsB (neg : Bool) : DOp := fun x y s Q => match x, y with
  | .v (.bl a), .v (.bl b) => Q (.bl (neg ^^ decide (a = b))) s
  | _, _ => False
theorem og_isB : OpG K C g L (fun x y H Q => ∃ a b, x = .bl a ∧ y = .bl b ∧ Q (.bl (decide (a = b))) H) (oIsB false) := by
  intro kw io O H σ sd s x y v u Qd Q S rx ry h k
  unfold oIsB at h
  split at h
  · cases rx with
    | v rx => cases rx; cases ry with
      | v ry => cases ry; exact ⟨_, _, rfl, rfl, k _ s io H _ h S (Stp.refl ..) (by rw [Bool.false_xor]; exact .bl _)⟩
  · exact h.elim
theorem og_isnotB : OpG K C g L (fun x y H Q => ∃ a b, x = .bl a ∧ y = .bl b ∧ Q (.bl (!decide (a = b))) H) (oIsB true) := by
  intro kw io O H σ sd s x y v u Qd Q S rx ry h k
  unfold oIsB at h
  split at h
  · cases rx with
    | v rx => cases rx; cases ry with
      | v ry => cases ry; exact ⟨_, _, rfl, rfl, k _ s io H _ h S (Stp.refl ..) (by rw [Bool.true_xor]; exact .bl _)⟩
  · exact h.elim
/-! ### == and != -/
mutual
def pyD : D → PyData
  | .non => .none
  | .bl b => .bool b
  | .int i => .int i
  | .str x => .str x
  | .tup ds => .tuple (pyDs ds)
  | .lst ds => .list (pyDs ds)
  | .ro ds => .list (pyDs ds)
  | .dK _ => .none
  | .dT _ => .none
  | .ins _ _ => .none
  | .ref _ => .none
  | .lk _ => .none
  | .raw _ => .none
def pyDs : List D → List PyData
  | [] => []
  | d :: ds => pyD d :: pyDs ds
end
mutual
/-- plain data, not too deep -/
def okE : Nat → D → Bool
  | _, .non => true
  | _, .bl _ => true
  | _, .int _ => true
  | _, .str x => PyData.strOk x
  | n + 1, .tup ds => okEs n ds
  | n + 1, .lst ds => okEs n ds
  | n + 1, .ro ds => okEs n ds
  | _, _ => false
def okEs : Nat → List D → Bool
  | _, [] => true
  | n, d :: ds => okE n d && okEs n ds
end
def eqD (a b : D) : Bool := PyData.eqv (pyD a) (pyD b)
mutual
theorem okE_shape : ∀ (n : Nat) (d : D), okE n d = true → (pyD d).canLay0 = true ∧ (pyD d).depth ≤ n
  | _, .non, _ => ⟨rfl, Nat.zero_le _⟩
  | _, .bl _, _ => ⟨rfl, Nat.zero_le _⟩
  | _, .int _, _ => ⟨rfl, Nat.zero_le _⟩
  | _, .str x, h => ⟨by cases ‹Nat› <;> exact h, Nat.zero_le _⟩
  | 0, .tup _, h => by cases h
  | 0, .lst _, h => by cases h
  | 0, .ro _, h => by cases h
  | n + 1, .tup ds, h => by
    obtain ⟨h1, h2⟩ := okEs_shape n ds h
    exact ⟨h1, by show (PyData.tuple (pyDs ds)).depth ≤ n + 1; unfold PyData.depth; omega⟩
  | n + 1, .lst ds, h => by
    obtain ⟨h1, h2⟩ := okEs_shape n ds h
    exact ⟨h1, by show (PyData.list (pyDs ds)).depth ≤ n + 1; unfold PyData.depth; omega⟩
  | n + 1, .ro ds, h => by
    obtain ⟨h1, h2⟩ := okEs_shape n ds h
    exact ⟨h1, by show (PyData.list (pyDs ds)).depth ≤ n + 1; unfold PyData.depth; omega⟩
  | 0, .dK _, h => by cases h
  | 0, .dT _, h => by cases h
  | 0, .ins _ _, h => by cases h
  | 0, .ref _, h => by cases h
  | 0, .lk _, h => by cases h
  | 0, .raw _, h => by cases h
  | _ + 1, .raw _, h => by cases h
  | _ + 1, .dK _, h => by cases h
  | _ + 1, .dT _, h => by cases h
  | _ + 1, .ins _ _, h => by cases h
  | _ + 1, .ref _, h => by cases h
  | _ + 1, .lk _, h => by cases h
theorem okEs_shape : ∀ (n : Nat) (ds : List D), okEs n ds = true → PyData.canLayAll0 (pyDs ds) = true ∧ PyData.depthAll (pyDs ds) ≤ n
  | _, [], _ => ⟨rfl, Nat.zero_le _⟩
  | n, d :: ds, h => by
    have h' : okE n d = true ∧ okEs n ds = true := by
      have : (okE n d && okEs n ds) = true := by cases n <;> exact h
      simpa using this
    obtain ⟨h1, h2⟩ := okE_shape n d h'.1
    obtain ⟨h3, h4⟩ := okEs_shape n ds h'.2
    refine ⟨?_, ?_⟩
    · show (PyData.canLay0 (pyD d) && PyData.canLayAll0 (pyDs ds)) = true
      rw [h1, h3]; rfl
    · show max (PyData.depth (pyD d)) (PyData.depthAll (pyDs ds)) ≤ n
      omega
end
theorem okE_shaped {n : Nat} {d : D} (h : okE n d = true) (hn : n ≤ 64) : SeqAt.shaped (pyD d) = true := by
  obtain ⟨h1, h2⟩ := okE_shape n d h
  unfold SeqAt.shaped
  rw [h1, decide_eq_true (show (pyD d).depth ≤ 64 by omega)]
  rfl
mutual
theorem RD.dp {w : Vw} : ∀ (n : Nat) (d : D) (v : V), okE n d = true → RD K C w v d → Dp K w.H v (pyD d)
  | _, .non, _, _, r => by cases r; exact .non
  | _, .bl b, _, _, r => by cases r; exact .bl b
  | _, .int i, _, _, r => by cases r; exact .int i
  | _, .str x, _, _, r => by cases r; exact .str x
  | 0, .tup _, _, h, _ => by cases h
  | 0, .lst _, _, h, _ => by cases h
  | 0, .ro _, _, h, _ => by cases h
  | n + 1, .tup ds, _, h, r => by
    cases r with
    | tup x h1 r => exact .tup (.inl (.inl h1)) (RL.dp n ds _ h r)
  | n + 1, .lst ds, _, h, r => by
    cases r with
    | lst x h1 r => exact .lst (.inl (.inl h1)) (RL.dp n ds _ h r)
  | n + 1, .ro ds, _, h, r => by
    cases r with
    | ro h1 r =>
      rcases h1 with ⟨_, h1⟩ | h1
      · exact .lst (.inl h1) (RL.dp n ds _ h r)
      · exact .lst (h1 _) (RL.dp n ds _ h r)
  | 0, .dK _, _, h, _ => by cases h
  | 0, .dT _, _, h, _ => by cases h
  | 0, .ins _ _, _, h, _ => by cases h
  | 0, .ref _, _, h, _ => by cases h
  | 0, .lk _, _, h, _ => by cases h
  | _ + 1, .dK _, _, h, _ => by cases h
  | _ + 1, .dT _, _, h, _ => by cases h
  | _ + 1, .ins _ _, _, h, _ => by cases h
  | _ + 1, .ref _, _, h, _ => by cases h
  | _ + 1, .lk _, _, h, _ => by cases h
theorem RL.dp {w : Vw} : ∀ (n : Nat) (ds : List D) (vs : List V), okEs n ds = true → RL K C w vs ds → DpAll K w.H vs (pyDs ds)
  | _, [], _, _, r => by cases r; exact .nil
  | n, d :: ds, _, h, r => by
    have h' : okE n d = true ∧ okEs n ds = true := by
      have : (okE n d && okEs n ds) = true := by cases n <;> exact h
      simpa using this
    cases r with
    | cons r t => exact .cons (RD.dp n d _ h'.1 r) (RL.dp n ds _ h'.2 t)
end
section
variable {io : List Addr} {O : Addr → Prop} {H : Hp} {σ : St} {sd : DSt} {s : Store}
theorem RSl.dp (S : StOk K C g L kw io O H σ sd s) {v : V} {x : Sl} {n : Nat} (r : RSl K C (vw g io O H) O v x) (h : okE n (G.deref s x) = true) : Dp K H v (pyD (G.deref s x)) := by
  rcases r.deref S with q | ⟨a, ho, e, e2, q⟩
  · exact RD.dp n _ _ h q
  · generalize G.deref s x = d at *
    subst e
    cases q with
    | lst r => cases n with
      | zero => cases h
      | succ n => exact .lst (.inl (.inl e2)) (RL.dp n _ _ h r)
    | dK r => cases n <;> cases h
    | dT r => cases n <;> cases h
    | ins r => cases n <;> cases h
    | lk _ r => cases n <;> cases h
end
end
end G
namespace L2
open PySem Spec PyProof.Rows
variable {X : Cx}
/-- == and != of two dicts that hold the same flat things, locked or not -/
def rSameK (ans : Bool) : R2 := fun x y H Q => ∃ a b ks ls, x = .ref a ∧ y = .ref b ∧ Rd H a (.dK ks) ∧ Rd H b (.dK ls) ∧ ks.length = ls.length ∧ (∀ p ∈ ks, valV ls p.1 = some p.2 ∧ flatB p.2 = true) ∧ Q (.bl ans) H
theorem op_eq_same (hu : X.A.units < cLine) : OpR X (compareOp .Eq) (rSameK true) := fun _ t _ G _ _ _ _ _ J r1 r2 ⟨a, b, ks, ls, ex, ey, ga, gb, n, hits, q⟩ => by
  cases ex; cases ey; cases r1; cases r2
  have oa : ObjOk X.prog X.w G t.heap a (.dK ks) := ga.ok J.hok
  have ob : ObjOk X.prog X.w G t.heap b (.dK ls) := gb.ok J.hok
  obtain ⟨_, y1, _, k1, m1⟩ := oa
  obtain ⟨_, y2, _, k2, m2⟩ := ob
  refine PySem.W.keq_eq (knd := mixKind X.prog X.w) (r := true) y1 y2 m1 m2 hu (fun _ => hits_all k2 k1 hits) ?_
  exact fin_bl J q (by simp [← k1.length, ← k2.length, n])
theorem op_ne_same (hu : X.A.units < cLine) : OpR X (compareOp .NotEq) (rSameK false) := fun _ t _ G _ _ _ _ _ J r1 r2 ⟨a, b, ks, ls, ex, ey, ga, gb, n, hits, q⟩ => by
  cases ex; cases ey; cases r1; cases r2
  have oa : ObjOk X.prog X.w G t.heap a (.dK ks) := ga.ok J.hok
  have ob : ObjOk X.prog X.w G t.heap b (.dK ls) := gb.ok J.hok
  obtain ⟨_, y1, _, k1, m1⟩ := oa
  obtain ⟨_, y2, _, k2, m2⟩ := ob
  refine PySem.W.keq_ne (knd := mixKind X.prog X.w) (r := true) y1 y2 m1 m2 hu (fun _ => hits_all k2 k1 hits) ?_
  exact fin_bl J q (by simp [← k1.length, ← k2.length, n])
/-- an item of a dict -/
def rIxD2 : R2 := fun x y H Q => ∃ a v, x = .ref a ∧ DGet H a y (some v) ∧ Q v H
theorem ix_dict (hu : X.A.units + 1 < cLine) : IxR X rIxD2 := fun _ _ _ _ _ G _ _ _ _ _ J r1 r2 ⟨a, z, ex, got, q⟩ hs => by
  cases ex; cases r1
  exact tail_any (dict_typeIs J got) PySem.F.slot_dict_getitem.lookup (d_getItem hu J got r2 fun _ _ J2 r3 => ⟨z, G, J2, r3, q⟩) hs
end L2
namespace G
open PySem L2
section
variable {K : PySem.W.Frag} {C : Tbl} {g : Gw} {L : Lk}
def flatD : D → Bool
  | .non => true
  | .bl _ => true
  | .int _ => true
  | .str _ => true
  | _ => false
theorem RD.flat {w : Vw} {v : V} {d : D} (r : RD K C w v d) (h : flatD d = true) : flatV v = true ∧ flatB v = true ∧ ∀ w', RD K C w' v d := by
  cases r with
  | non => exact ⟨rfl, rfl, fun _ => .non⟩
  | bl b => exact ⟨rfl, rfl, fun _ => .bl b⟩
  | int i => exact ⟨rfl, rfl, fun _ => .int i⟩
  | str x => exact ⟨rfl, rfl, fun _ => .str x⟩
  | _ => cases h
/-- two dicts that hold the same flat things -/
def sameK (a b : List (Key × D)) : Prop := a.length = b.length ∧ ∀ p ∈ a, look b p.1 = some p.2 ∧ flatD p.2 = true
def oEq (neg : Bool) : DOp := fun x y s Q => match unlk (deref s x), unlk (deref s y) with
  | .int i, .int j => Q (.bl (neg ^^ decide (i = j))) s
  | .str a, .str b => Q (.bl (neg ^^ decide (a = b))) s
  | .bl a, .bl b => Q (.bl (neg ^^ decide (a = b))) s
  | .dK a, .dK b => sameK a b ∧ Q (.bl !neg) s
  | dx, dy => okE 40 dx = true ∧ okE 40 dy = true ∧ Q (.bl (neg ^^ eqD dx dy)) s
abbrev rEqA (K : PySem.W.Frag) : R2 := fun x y H Q => rEq x y H Q ∨ rSameK true x y H Q ∨ rEqD K x y H Q
abbrev rNeA (K : PySem.W.Frag) : R2 := fun x y H Q => rNe x y H Q ∨ rSameK false x y H Q ∨ rNeD K x y H Q
theorem op_eqA {X : Cx} {k : Nat} (hr : Room k X.A) : OpR X (compareOp .Eq) (rEqA X.K) := op_eq.or ((op_eq_same hr.units0).or (op_eqD hr.units))
theorem op_neA {X : Cx} {k : Nat} (hr : Room k X.A) : OpR X (compareOp .NotEq) (rNeA X.K) := op_ne.or ((op_ne_same hr.units0).or (op_neD hr.units))
section
variable {io : List Addr} {O : Addr → Prop} {H : Hp} {σ : St} {sd : DSt} {s : Store}
theorem unlk_ne {d e : D} (h : unlk d = e) (ne : ∀ z, d ≠ .lk z) : d = e := by
  cases d <;> first | exact h | exact absurd rfl (ne _)
theorem RSl.sc {w : Vw} {O : Addr → Prop} (S : StOk K C g L kw io O H σ sd s) {v : V} {x : Sl} {d : D} (r : RSl K C (vw g io O H) O v x) (h : unlk (G.deref s x) = d) (hf : flatD d = true) : RD K C (vw g io O H) v d := by
  have q := r.deref S
  generalize G.deref s x = y at h q
  rcases q with q | ⟨a, ho, e, e2, q⟩
  · cases q with
    | non => subst h; exact .non
    | bl b => subst h; exact .bl b
    | int i => subst h; exact .int i
    | str x => subst h; exact .str x
    | _ => subst h; cases hf
  · cases q with
    | lk h1 r1 => cases r1 <;> (subst h; cases hf)
    | _ => subst h; cases hf
end
theorem same_ok {w : Vw} {vs ws : List (Key × V)} {a b : List (Key × D)} (r1 : RK K C w vs a) (r2 : RK K C w ws b) (h : sameK a b) : vs.length = ws.length ∧ ∀ p ∈ vs, valV ws p.1 = some p.2 ∧ flatB p.2 = true := by
  obtain ⟨h1, h2⟩ := h
  refine ⟨by rw [r1.rm.length, r2.rm.length, h1], ?_⟩
  clear h1
  have r1' := r1.rm
  clear r1
  induction r1' with
  | nil => intro p hp; cases hp
  | @cons k v d vs ds hd ht ih =>
    intro p hp
    rcases (List.mem_cons).1 hp with rfl | hp
    · obtain ⟨q1, q2⟩ := h2 (k, d) List.mem_cons_self
      obtain ⟨_, f2, _⟩ := hd.flat q2
      refine ⟨?_, f2⟩
      rcases r2.rm.look k with ⟨e, _⟩ | ⟨u, d', e, e2, r⟩
      · rw [e] at q1; cases q1
      · rw [e] at q1; cases q1
        rw [e2]
        have r' : RD K C w u d := r
        have q2' : flatD d = true := q2
        show some u = some v
        cases d <;> first | (cases q2'; done) | (cases r'; cases hd; rfl)
    · exact ih (fun p hp => h2 p (List.mem_cons_of_mem _ hp)) p hp
theorem og_eqN (neg : Bool) {r0 : R2} (h0 : ∀ x y H Q, scal x y = true → Q (.bl (neg ^^ decide (x = y))) H → r0 x y H Q) {rd : R2} (hd : ∀ x y H Q d e, Dp K H x d → Dp K H y e → SeqAt.shaped d = true → SeqAt.shaped e = true → Q (.bl (neg ^^ PyData.eqv d e)) H → rd x y H Q) :
    OpG K C g L (fun x y H Q => r0 x y H Q ∨ rSameK (!neg) x y H Q ∨ rd x y H Q) (oEq neg) := by
  intro kw io O H σ sd s x y v u Qd Q S rx ry h k
  unfold oEq at h
  split at h
  · rename_i i j e1 e2
    have r1 := rx.sc S e1 rfl (w := vw g io O H) (O := O)
    have r2 := ry.sc S e2 rfl (w := vw g io O H) (O := O)
    cases r1; cases r2
    exact .inl (h0 _ _ _ _ rfl (by rw [show decide (V.int i = V.int j) = decide (i = j) from by rw [decide_eq_decide]; exact ⟨fun z => V.int.inj z, fun z => by rw [z]⟩]; exact k _ s io H _ h S (Stp.refl ..) (.bl _)))
  · rename_i i j e1 e2
    have r1 := rx.sc S e1 rfl (w := vw g io O H) (O := O)
    have r2 := ry.sc S e2 rfl (w := vw g io O H) (O := O)
    cases r1; cases r2
    exact .inl (h0 _ _ _ _ rfl (by rw [show decide (V.str i = V.str j) = decide (i = j) from by rw [decide_eq_decide]; exact ⟨fun z => V.str.inj z, fun z => by rw [z]⟩]; exact k _ s io H _ h S (Stp.refl ..) (.bl _)))
  · rename_i i j e1 e2
    have r1 := rx.sc S e1 rfl (w := vw g io O H) (O := O)
    have r2 := ry.sc S e2 rfl (w := vw g io O H) (O := O)
    cases r1; cases r2
    exact .inl (h0 _ _ _ _ rfl (by rw [show decide (V.bl i = V.bl j) = decide (i = j) from by rw [decide_eq_decide]; exact ⟨fun z => V.bl.inj z, fun z => by rw [z]⟩]; exact k _ s io H _ h S (Stp.refl ..) (.bl _)))
  · rename_i a b e1 e2
    obtain ⟨p, vs, rfl, h1, r1⟩ := rx.dK S e1
    obtain ⟨q, ws, rfl, h2, r2⟩ := ry.dK S e2
    obtain ⟨l, m⟩ := same_ok r1 r2 h.1
    exact .inr (.inl ⟨_, _, _, _, rfl, rfl, h1, h2, l, m, k _ s io H _ h.2 S (Stp.refl ..) (.bl _)⟩)
  · obtain ⟨c1, c2, h⟩ := h
    have un : ∀ {d : D}, okE 40 (unlk d) = true → unlk d = d ∨ ∃ z, d = .lk z := fun {d} _ => by cases d <;> first | exact .inl rfl | exact .inr ⟨_, rfl⟩
    have fin : ∀ {v : V} {x : Sl}, RSl K C (vw g io O H) O v x → okE 40 (unlk (deref s x)) = true → unlk (deref s x) = deref s x := fun {v x} rx c => by
      rcases un c with e | ⟨z, e⟩
      · exact e
      · exfalso
        have q := rx.deref S
        rw [e] at q c
        rcases q with q | ⟨_, _, _, _, q⟩
        · cases q
        · cases q with
          | lk h1 r1 => cases r1 with
            | lst r => cases h1
            | ins r => cases h1
            | lk h r => cases h1
            | _ => cases c
    have e1 := fin rx c1
    have e2 := fin ry c2
    rw [e1] at h c1
    rw [e2] at h c2
    exact .inr (.inr (hd _ _ _ _ _ _ (rx.dp S c1) (ry.dp S c2) (okE_shaped c1 (by decide)) (okE_shaped c2 (by decide)) (k _ s io H _ h S (Stp.refl ..) (.bl _))))
theorem og_eq : OpG K C g L (rEqA K) (oEq false) := og_eqN false (fun x y H Q h q => ⟨h, by rw [Bool.false_xor] at q; exact q⟩) fun x y H Q d e h1 h2 h3 h4 q => ⟨d, e, h1, h2, h3, h4, by rw [Bool.false_xor] at q; exact q⟩
theorem og_ne : OpG K C g L (rNeA K) (oEq true) := og_eqN true (fun x y H Q h q => ⟨h, by rw [Bool.true_xor] at q; exact q⟩) fun x y H Q d e h1 h2 h3 h4 q => ⟨d, e, h1, h2, h3, h4, by rw [Bool.true_xor] at q; exact q⟩
/-! ### an item -/
def seqOf : D → Option (List D)
  | .lst xs => some xs
  | .ro xs => some xs
  | .tup xs => some xs
  | _ => none
def optK (o : Option D) (Q : DK) (s : Store) : Prop := match o with
  | some d => Q d s
  | none => False
def keySl : Sl → Option Key
  | .v d => keyOf d
  | _ => none
def tkeySl : Sl → Option (List Key)
  | .v d => tkeyOf d
  | _ => none
def oIx : DOp := fun x y s Q => match unlk (deref s x) with
  | .lst xs => (match y with | .v (.int i) => optK (atI xs i) Q s | _ => False)
  | .ro xs => (match y with | .v (.int i) => optK (atI xs i) Q s | _ => False)
  | .tup xs => (match y with | .v (.int i) => optK (atI xs i) Q s | _ => False)
  | .dK m => (match keySl y with | some k => optK (look m k) Q s | none => False)
  | .dT m => (match tkeySl y with | some k => optK (look m k) Q s | none => False)
  | .str z => (match y with | .v (.int i) => z.length ≤ lim ∧ (match atI z.cps.toList i with | some c => Q (.str ⟨#[c]⟩) s | none => False) | _ => False)
  | _ => False
theorem optK.some {o : Option D} {Q : DK} {s : Store} (h : optK o Q s) : ∃ d, o = .some d ∧ Q d s := by
  cases o with
  | none => exact h.elim
  | some d => exact ⟨d, rfl, h⟩
theorem RL.atI {w : Vw} {vs : List V} {ds : List D} {i : Int} {d : D} (r : RL K C w vs ds) (h : L2.atI ds i = some d) : ∃ v, L2.atI vs i = some v ∧ RD K C w v d := by
  unfold L2.atI at h ⊢
  rw [r.length]
  cases e : ixN ds.length i with
  | none => simp [e] at h
  | some j =>
    rw [e] at h
    obtain ⟨v, h1, h2⟩ := r.get (i := j) (d := d) h
    exact ⟨v, h1, h2⟩
abbrev rIxA (K : PySem.W.Frag) : R2 := fun x y H Q => rIx K x y H Q ∨ rIxD2 x y H Q
theorem ix_A {X : Cx} {k : Nat} (hr : Room k X.A) : IxR X (rIxA X.K) := ix_seq.or (ix_dict (hu_of hr))
theorem RSl.key {w : Vw} {O : Addr → Prop} {v : V} {x : Sl} {k : Key} (r : RSl K C w O v x) (h : keySl x = some k) : v = kV k := by
  cases r with
  | v r => exact r.key h
  | o => cases h
theorem RSl.tkey {w : Vw} {O : Addr → Prop} {v : V} {x : Sl} {k : List Key} (r : RSl K C w O v x) (h : tkeySl x = some k) : ∃ b, v = .ref b ∧ ¬ w.X b ∧ w.H b = some (.tup (k.map kV)) := by
  cases r with
  | v r => exact r.tkey h
  | o => cases h
theorem og_ix : OpG K C g L (rIxA K) oIx := by
  intro kw io O H σ sd s x y v u Qd Q S rx ry h k
  unfold oIx at h
  have lk' : ∀ {e : D}, (∀ z, e ≠ .dK z) → (∀ z, e ≠ .dT z) → unlk (deref s x) = e → deref s x = e := fun {e} n1 n2 q => by
    have z := rx.deref S
    generalize deref s x = d at q z
    cases d with
    | lk d =>
      rcases z with z | ⟨_, _, _, _, z⟩
      · cases z
      · cases z with
        | lk h1 r1 => cases r1 with
          | dK r => exact absurd q.symm (n1 _)
          | dT r => exact absurd q.symm (n2 _)
          | lst r => cases h1
          | ins r => cases h1
          | lk h r => cases h1
    | _ => exact q
  split at h
  · rename_i xs e
    split at h
    · rename_i i
      obtain ⟨d, e1, q⟩ := h.some
      obtain ⟨a, vs, rfl, hs, r⟩ := rx.seqL S (.inl (lk' (by intro _ z; cases z) (by intro _ z; cases z) e))
      obtain ⟨z, e2, rz⟩ := r.atI e1
      cases ry with
      | v ry => cases ry; exact .inl (.inl ⟨_, _, _, _, rfl, rfl, hs, e2, k _ s io H _ q S (Stp.refl ..) rz⟩)
    · exact h.elim
  · rename_i xs e
    split at h
    · rename_i i
      obtain ⟨d, e1, q⟩ := h.some
      obtain ⟨a, vs, rfl, hs, r⟩ := rx.seqL S (.inr (lk' (by intro _ z; cases z) (by intro _ z; cases z) e))
      obtain ⟨z, e2, rz⟩ := r.atI e1
      cases ry with
      | v ry => cases ry; exact .inl (.inl ⟨_, _, _, _, rfl, rfl, hs, e2, k _ s io H _ q S (Stp.refl ..) rz⟩)
    · exact h.elim
  · rename_i xs e
    split at h
    · rename_i i
      obtain ⟨d, e1, q⟩ := h.some
      obtain ⟨a, vs, rfl, hs, r⟩ := rx.tup S (lk' (by intro _ z; cases z) (by intro _ z; cases z) e)
      obtain ⟨z, e2, rz⟩ := r.atI e1
      cases ry with
      | v ry => cases ry; exact .inl (.inr (.inl ⟨_, _, _, _, rfl, rfl, .inl (.inl hs), e2, k _ s io H _ q S (Stp.refl ..) rz⟩))
    · exact h.elim
  · rename_i m e
    split at h
    · rename_i kk ek
      obtain ⟨d, e1, q⟩ := h.some
      obtain ⟨a, vs, rfl, hs, r⟩ := rx.dK S e
      rcases r.rm.look kk with ⟨z, _⟩ | ⟨z, d', z1, z2, rz⟩
      · rw [z] at e1; cases e1
      · rw [z1] at e1; cases e1
        refine .inr ⟨_, _, rfl, .inl ⟨vs, kk, hs, ry.key ek, z2.symm⟩, k _ s io H _ q S (Stp.refl ..) rz⟩
    · exact h.elim
  · rename_i m e
    split at h
    · rename_i kk ek
      obtain ⟨d, e1, q⟩ := h.some
      obtain ⟨a, vs, rfl, hs, r⟩ := rx.dT S e
      obtain ⟨b, rfl, _, hb⟩ := ry.tkey ek
      rcases r.rm.look kk with ⟨z, _⟩ | ⟨z, d', z1, z2, rz⟩
      · rw [z] at e1; cases e1
      · rw [z1] at e1; cases e1
        refine .inr ⟨_, _, rfl, .inr ⟨vs, kk, b, hs, rfl, hb, z2.symm⟩, k _ s io H _ q S (Stp.refl ..) rz⟩
    · exact h.elim
  · rename_i z e
    split at h
    · rename_i i
      obtain ⟨hl, h⟩ := h
      split at h
      · rename_i c ec
        have r1 := rx.sc S e rfl (w := vw g io O H) (O := O)
        cases r1
        cases ry with
        | v ry => cases ry; exact .inl (.inr (.inr ⟨_, _, _, rfl, rfl, lim_le hl, ec, k _ s io H _ h S (Stp.refl ..) (.str _)⟩))
      · exact h.elim
    · exact h.elim
  · exact h.elim
end
section
variable {X : Cx} {C : Tbl} {g : Gw} {L : Lk} {pos : Pos}
theorem g_ix {a b : Expr} {da db : DP} {k : Nat} (hr : Room k X.A) (ha : PE X a (LP X.K C g L da)) (hb : PE X b (LP X.K C g L db)) (hs : PlainIx b) : PE X (.Subscript a b pos) (LE X.K C g L (dOp oIx da db)) :=
  (pe_ix (ix_A hr) ha hb hs).imp (l_op og_ix)
end
end G
namespace G
open PySem L2
section
variable {K : PySem.W.Frag} {C : Tbl} {g : Gw} {L : Lk} {kw : Vw} {io : List Addr} {O : Addr → Prop} {H : Hp} {σ : St} {sd : DSt} {s : Store}
theorem StOk.rebase {kw' : Vw} (S : StOk K C g L kw io O H σ sd s) (G : Grow kw' kw) : StOk K C g L kw' io O H σ sd s :=
  ⟨S.nio, S.dj, S.bd, S.od, S.pre, S.fr, S.fz, S.lk, S.ce, S.sl, G.trans S.kp, S.an, S.tb⟩
theorem StOk.here (S : StOk K C g L kw io O H σ sd s) : StOk K C g L (vw g io O H) io O H σ sd s :=
  ⟨S.nio, S.dj, S.bd, S.od, S.pre, S.fr, S.fz, S.lk, S.ce, S.sl, Grow.refl _, S.an, S.tb⟩
/-- the frame is left -/
theorem StOk.exit {P : Addr → Prop} (S : StOk K C g L kw io O H σ sd s) (hP : ∀ a, P a → O a) : StOk K C g L kw io P H [] [] s ∧ Grow (vw g io O H) (vw g io P H) := by
  have G : Grow (vw g io O H) (vw g io P H) := ⟨fun a u x _ z => x (z.elim .inl fun z => .inr (z.elim .inl fun z => .inr (hP a z))), fun a u x h => .inl h, [], (List.append_nil _).symm⟩
  refine ⟨⟨S.nio, fun a ha => S.dj a (hP a ha), fun a ha => ?_, fun a ha => S.od a (hP a ha), S.pre, S.fr, S.fz, S.lk, S.ce.grow G rfl fun _ _ => rfl, ⟨rfl, fun i sl e => by simp at e, fun i j d d' a e => by simp at e⟩, S.kp.trans G, S.an.trans G, S.tb.less hP⟩, G⟩
  obtain ⟨q1, q2, q3⟩ := S.bd a ha
  exact ⟨q1, fun z => q2 (hP a z), q3⟩
/-- a container that nobody has comes into a slot -/
theorem StOk.setRes {i : Nat} {p : Addr} {ho : HO} {d : D} (S : StOk K C g L kw io (ores O p) H σ sd s) (hn : ¬ O p) (hs : ∀ (i : Nat) (d : D), sd[i]? = some (some (Sl.o d)) → σ[i]? ≠ some (some (V.ref p)))
    (hp : H p = some ho) (nf : ∀ od u, ho ≠ .frz od u) (r : RC K C (vw g io (ores O p) H) ho d) : StOk K C g L kw io (ores O p) H (σ.set i (some (.ref p))) (sd.set i (some (.o d))) s := by
  obtain ⟨S2, G2⟩ := S.unres hn hs
  refine S2.setOwn (S.od p (.inr rfl)).1 (S.dj p (.inr rfl)) hn hp nf (fun e he z => ?_) S.kp S.an S.ce ⟨S.sl.len, fun j sl e => ?_, S.sl.inj⟩ r (H' := H)
  · have q := (S.lk e he).1
    rw [z, hp] at q; cases q; exact nf _ _ rfl
  · obtain ⟨v, e1, r⟩ := S.sl.get j sl e
    refine ⟨v, e1, ?_⟩
    cases r with
    | v r => exact .v r
    | @o a ho' d h oa nf r => exact .o h (oa.elim id fun z => absurd (by rw [z] at e1; exact e1) (hs j d e)) nf r
    | f r => exact .f r
end
section
variable {X : Cx} {C : Tbl} {g : Gw} {L : Lk} {e : Expr} {de : DE} {pos : Pos} {st : Stmt} {rest : List Stmt} {t u : DS}
def dNext : DS := fun D σ s => D.nx σ s
def dSeq (t u : DS) : DS := fun D σ s => t { D with nx := u D } σ s
def dSet (i : Nat) (e : DE) : DS := fun D σ s => e σ s fun d s' => D.nx (σ.set i (some (.v d))) s'
def dSetO (i : Nat) (e : DE) : DS := fun D σ s => e σ s fun d s' => D.nx (σ.set i (some (.o d))) s'
def dIf (c : DT) (t u : DS) : DS := fun D σ s => c σ s fun b s' => if b = true then t D σ s' else u D σ s'
def dRet (e : DE) : DS := fun D σ s => e σ s fun d s' => D.rt (.v d) s'
def dRetN : DS := fun D _ s => D.rt (.v .non) s
/-- an own container is handed out -/
def dRetL (e : DE) : DS := fun D σ s => e σ s fun d s' => D.rt (.o d) s'
def dRetO (i : Nat) : DS := fun D σ s => match σ[i]? with
  | some (some (.o d)) => D.rt (.o d) s
  | _ => False
def dDrop (e : DE) : DS := fun D σ s => e σ s fun _ s' => D.nx σ s'
def dBrk : DS := fun D σ s => D.bk σ s
def dCt : DS := fun D σ s => D.ct σ s
theorem gs_nil : PSs X [] (LS X.K C g L dNext) := pss_nil.imp fun T σ H ⟨kw, io, O, sd, s, D, S, h, E⟩ => E.nx io O H σ sd s h S
theorem gs_cons (h1 : PS X st (LS X.K C g L t)) (h2 : PSs X rest (LS X.K C g L u)) : PSs X (st :: rest) (LS X.K C g L (dSeq t u)) := (pss_cons h1 h2).imp fun T σ H ⟨kw, io, O, sd, s, D, S, h, E⟩ =>
  ⟨kw, io, O, sd, s, _, S, h, ⟨fun io O H σ sd s q S' => ⟨kw, io, O, sd, s, D, S', q, E⟩, E.rt, E.bk, E.ct⟩⟩
theorem gs_one (h : PS X st (LS X.K C g L t)) : PSs X [st] (LS X.K C g L t) := pss_one h
theorem gs_pass : PS X (.Pass pos) (LS X.K C g L dNext) := ps_pass.imp fun T σ H ⟨kw, io, O, sd, s, D, S, h, E⟩ => E.nx io O H σ sd s h S
theorem gs_brk : PS X (.Break pos) (LS X.K C g L dBrk) := ps_break.imp fun T σ H ⟨kw, io, O, sd, s, D, S, h, E⟩ => E.bk io O H σ sd s h S
theorem gs_ct : PS X (.Continue pos) (LS X.K C g L dCt) := ps_continue.imp fun T σ H ⟨kw, io, O, sd, s, D, S, h, E⟩ => E.ct io O H σ sd s h S
theorem gs_set {i : Nat} (h : PS X st (tAsg (LE X.K C g L de) (gName i))) : PS X st (LS X.K C g L (dSet i de)) := h.imp fun T σ H ⟨kw, io, O, sd, s, D, S, h, E⟩ =>
  ⟨kw, io, O, sd, s, _, S, h, fun d s' io' H' v q S' _ r => E.nx io' O H' _ _ s' q (S'.set r)⟩
theorem gs_setO {i : Nat} (h : PS X st (tAsg (LO X.K C g L de) (gName i))) : PS X st (LS X.K C g L (dSetO i de)) := h.imp fun T σ H ⟨kw, io, O, sd, s, D, S, h, E⟩ =>
  ⟨kw, io, O, sd, s, _, S, h, fun d s' io' H' p ho q S' _ hn hp nf r => E.nx io' (ores O p) H' _ _ s' q (S'.setRes hn (S.noOwn hn) hp nf r)⟩
theorem gs_if {c : Expr} {a b : List Stmt} {tc : DT} (hc : PT X c (LT X.K C g L tc)) (ha : PSs X a (LS X.K C g L t)) (hb : PSs X b (LS X.K C g L u)) : PS X (.If c a b pos) (LS X.K C g L (dIf tc t u)) := (ps_if hc ha hb).imp fun T σ H ⟨kw, io, O, sd, s, D, S, h, E⟩ =>
  ⟨kw, io, O, sd, s, _, S, h, fun b s' io' H' q S' _ => by
    cases b with
    | true => exact ⟨kw, io', O, sd, s', D, S', q, E⟩
    | false => exact ⟨kw, io', O, sd, s', D, S', q, E⟩⟩
theorem gs_ret (h : PE X e (LE X.K C g L de)) : PS X (.Return (some e) pos) (LS X.K C g L (dRet de)) := (ps_ret h).imp fun T σ H ⟨kw, io, O, sd, s, D, S, h, E⟩ =>
  ⟨kw, io, O, sd, s, _, S, h, fun d s' io' H' v q S' _ r => by
    obtain ⟨S2, G2⟩ := S'.exit (P := fun _ => False) (fun _ z => z.elim)
    exact E.rt _ s' io' _ H' v q S2 (.v (r.grow G2))⟩
theorem gs_retN : PS X (.Return none pos) (LS X.K C g L dRetN) := ps_retN.imp fun T σ H ⟨kw, io, O, sd, s, D, S, h, E⟩ => by
  obtain ⟨S2, G2⟩ := S.exit (P := fun _ => False) (fun _ z => z.elim)
  exact E.rt _ s io _ H .non h S2 (.v .non)
theorem gs_retL (h : PE X e (LO X.K C g L de)) : PS X (.Return (some e) pos) (LS X.K C g L (dRetL de)) := (ps_ret h).imp fun T σ H ⟨kw, io, O, sd, s, D, S, h, E⟩ =>
  ⟨kw, io, O, sd, s, _, S, h, fun d s' io' H' p ho q S' _ hn hp nf r => by
    obtain ⟨S2, G2⟩ := S'.exit (P := fun b => b = p) (fun _ z => .inr z)
    exact E.rt _ s' io' _ H' _ q S2 (.o hp nf (r.grow G2))⟩
theorem gs_retO (i : Nat) {x : Str} {p2 : Pos} (h : PE X (.Name x p2) (tVar i)) : PS X (.Return (some (.Name x p2)) pos) (LS X.K C g L (dRetO i)) := (ps_ret h).imp fun T σ H ⟨kw, io, O, sd, s, D, S, h, E⟩ => by
  unfold dRetO at h
  split at h
  · rename_i d e
    obtain ⟨a, ho, e1, e2, oa, nf, r⟩ := S.own_at e
    obtain ⟨S2, G2⟩ := S.exit (P := fun b => b = a) (fun _ z => z ▸ oa)
    exact ⟨_, e1, E.rt _ s io _ H _ h S2 (.o e2 nf (r.grow G2))⟩
  · exact h.elim
theorem gs_drop (h : PE X e (LE X.K C g L de)) (hs : swapsWith e none pos.line X.env = pure false) : PS X (.Expr e pos) (LS X.K C g L (dDrop de)) := (ps_expr h hs).imp fun T σ H ⟨kw, io, O, sd, s, D, S, h, E⟩ =>
  ⟨kw, io, O, sd, s, _, S, h, fun d s' io' H' v q S' _ r => E.nx io' O H' σ sd s' q S'⟩
theorem gs_doc {x j} {p2 : Pos} : PS X (.Expr (.Constant (.str x) j pos) p2) (LS X.K C g L dNext) := ps_doc.imp fun T σ H ⟨kw, io, O, sd, s, D, S, h, E⟩ => E.nx io O H σ sd s h S
/-! what is not in the text: an own container freezes, becomes a cell, is forgotten -/
def dFrz (i : Nat) (t : DS) : DS := fun D σ s => match σ[i]? with
  | some (some (.o d)) => t D (σ.set i (some (.v d))) s
  | _ => False
def dCell (i : Nat) (t : DS) : DS := fun D σ s => match σ[i]? with
  | some (some (.o d)) => t D (σ.set i (some (.v (.ref s.length)))) (s ++ [d])
  | _ => False
theorem gs_frz (i : Nat) (h : PS X st (LS X.K C g L t)) : PS X st (LS X.K C g L (dFrz i t)) := h.imp fun T σ H ⟨kw, io, O, sd, s, D, S, h, E⟩ => by
  unfold dFrz at h
  split at h
  · rename_i d e
    obtain ⟨O', S2, _⟩ := S.freeze e
    exact ⟨kw, io, O', _, s, D, S2, h, E⟩
  · exact h.elim
theorem gs_cell (i : Nat) (h : PS X st (LS X.K C g L t)) : PS X st (LS X.K C g L (dCell i t)) := h.imp fun T σ H ⟨kw, io, O, sd, s, D, S, h, E⟩ => by
  unfold dCell at h
  split at h
  · rename_i d e
    obtain ⟨a, O', S2, _⟩ := S.toCell e
    exact ⟨kw, io ++ [a], O', _, _, D, S2, h, E⟩
  · exact h.elim
/-! ### loops -/
abbrev DTg := D → DSt → Store → (DSt → Store → Prop) → Prop
def TgG (K : PySem.W.Frag) (C : Tbl) (g : Gw) (L : Lk) (t : TG) (dg : DTg) : Prop :=
  ∀ kw io O H σ sd s v d Qd Q, StOk K C g L kw io O H σ sd s → RD K C (vw g io O H) v d → dg d sd s Qd → (∀ sd' σ', Qd sd' s → StOk K C g L kw io O H σ' sd' s → Q σ' H) → t v σ H Q
def tgN (i : Nat) : DTg := fun d σ s Q => Q (σ.set i (some (.v d))) s
/-- names, one by one -/
def gNames : List Nat → TGs
  | [] => gNil
  | i :: is => gCons (gName i) (gNames is)
def setAll : St → List Nat → List V → St
  | σ, i :: is, v :: vs => setAll (σ.set i (some v)) is vs
  | σ, _, _ => σ
def setAllD : DSt → List Nat → List D → DSt
  | σ, i :: is, v :: vs => setAllD (σ.set i (some (.v v))) is vs
  | σ, _, _ => σ
theorem gNames_of : ∀ (is : List Nat) (vs : List V) (σ : St) (H : Hp) (Q : St → Hp → Prop), vs.length = is.length → Q (setAll σ is vs) H → gNames is vs σ H Q
  | [], [], σ, H, Q, _, h => ⟨rfl, h⟩
  | i :: is, v :: vs, σ, H, Q, hl, h => ⟨v, vs, rfl, gNames_of is vs (σ.set i (some v)) H Q (by simpa using hl) h⟩
  | [], _ :: _, _, _, _, hl, _ => by simp at hl
  | _ :: _, [], _, _, _, hl, _ => by simp at hl
def tgNs (is : List Nat) : DTg := fun d σ s Q => match d with
  | .tup ds => ds.length = is.length ∧ Q (setAllD σ is ds) s
  | _ => False
theorem tg_n {K : PySem.W.Frag} (i : Nat) : TgG K C g L (gName i) (tgN i) := fun kw io O H σ sd s v d Qd Q S r h k => k _ _ h (S.set r)
theorem StOk.setAll {K : PySem.W.Frag} {kw : Vw} {io : List Addr} {O : Addr → Prop} {H : Hp} {s : Store} : ∀ (is : List Nat) {vs : List V} {ds : List D} {σ : St} {sd : DSt}, StOk K C g L kw io O H σ sd s → RL K C (vw g io O H) vs ds → StOk K C g L kw io O H (setAll σ is vs) (setAllD sd is ds) s
  | [], _, _, _, _, S, r => by cases r <;> exact S
  | i :: is, _, _, _, _, S, .nil => S
  | i :: is, _, _, _, _, S, .cons h t => StOk.setAll is (S.set h) t
theorem tg_ns {K : PySem.W.Frag} (is : List Nat) : TgG K C g L (gTup K is.length (gNames is)) (tgNs is) := fun kw io O H σ sd s v d Qd Q S r h k => by
  unfold tgNs at h
  split at h
  · cases r with
    | tup x h1 r => exact ⟨_, _, rfl, .inl (.inl h1), by rw [r.length]; exact h.1, gNames_of _ _ _ _ _ (by rw [r.length]; exact h.1) (k _ _ h.2 (S.setAll is r))⟩
  · exact h.elim
/-- what is walked -/
def Walk (K : PySem.W.Frag) (C : Tbl) (g : Gw) (L : Lk) (v0 : Vw) (J : It) (ds : List D) (src : Store → Prop) : Prop :=
  ∀ io O H σ sd s (i : Nat), StOk K C g L v0 io O H σ sd s → src s →
    (∀ d, ds[i]? = some d → J.go i H ∧ ∀ x H', J.yld i H x H' → StOk K C g L v0 io O H' σ sd s ∧ Stp g io O H io O H' ∧ RD K C (vw g io O H') x d) ∧ (ds[i]? = none → J.stop i H)
abbrev DI := DSt → Store → (List D → (Store → Prop) → Store → Prop) → Prop
def LI (K : PySem.W.Frag) (C : Tbl) (g : Gw) (L : Lk) (di : DI) : TI := fun σ H R => ∃ kw io O sd s Qd, StOk K C g L kw io O H σ sd s ∧ di sd s Qd ∧
  ∀ ds src s' io' H' J, Qd ds src s' → StOk K C g L kw io' O H' σ sd s' → Stp g io O H io' O H' → Walk K C g L (vw g io' O H') J ds src → R J H'
theorem _root_.L2.PI.imp {X : Cx} {a b : Expr} {t t' : TI} (h : PI X a b t) (i : ∀ σ H Q, t' σ H Q → t σ H Q) : PI X a b t' := ⟨fun p s σ H Q I q => h.run p s σ H Q I (i σ H Q q)⟩
/-- a loop, by a word I that holds between two turns -/
def loopD (src : Store → Prop) (dg : DTg) (body : DS) (ds : List D) : DEnds → DSt → Store → Prop := fun D σ s => ∃ I : Nat → DSt → Store → Prop, I 0 σ s ∧
  (∀ (i : Nat) d σ s, ds[i]? = some d → I i σ s → src s ∧ dg d σ s fun σ' s' => body { nx := I (i + 1), ct := I (i + 1), bk := D.nx, rt := D.rt } σ' s') ∧ ∀ σ s, I ds.length σ s → src s ∧ D.nx σ s
def dFor (di : DI) (dg : DTg) (body : DS) : DS := fun D σ s => di σ s fun ds src s' => loopD src dg body ds D σ s'
/-- turn by turn -/
def loopR (src : Store → Prop) (dg : DTg) (body : DS) : List D → DEnds → DSt → Store → Prop
  | [], D, σ, s => src s ∧ D.nx σ s
  | d :: r, D, σ, s => src s ∧ dg d σ s fun σ' s' => body { nx := loopR src dg body r D, ct := loopR src dg body r D, bk := D.nx, rt := D.rt } σ' s'
theorem loopR.to {src : Store → Prop} {dg : DTg} {body : DS} {ds : List D} {D : DEnds} {σ : DSt} {s : Store} (h : loopR src dg body ds D σ s) : loopD src dg body ds D σ s := by
  refine ⟨fun i σ s => loopR src dg body (ds.drop i) D σ s, h, fun i d σ s e q => ?_, fun σ s q => ?_⟩
  · obtain ⟨hl, e⟩ := List.getElem?_eq_some_iff.mp e
    have q' : loopR src dg body (ds.drop i) D σ s := q
    rw [List.drop_eq_getElem_cons hl, e] at q'
    exact q'
  · have q' : loopR src dg body (ds.drop ds.length) D σ s := q
    rw [List.drop_length] at q'
    exact q'
theorem gs_for {iter tg : Expr} {body : List Stmt} {di : DI} {gt : TG} {dg : DTg} {tb : DS} (hp : PassesOwn (model X.prog X.w) X.A X.env X.xe) (hc : X.calm = true) (hi : PI X tg iter (LI X.K C g L di)) (hg : PG X tg gt) (ht : TgG X.K C g L gt dg)
    (hb : PSs X body (LS X.K C g L tb)) (hs : ∀ x, foldedSetIterable iter X.env x = pure x := by intro _; rfl) : PS X (.For tg iter body [] pos) (LS X.K C g L (dFor di dg tb)) := (ps_for hp hc hi hg hb hs).imp fun T σ H ⟨kw, io, O, sd, s, D, S, h, E⟩ => by
  refine ⟨kw, io, O, sd, s, _, S, h, fun ds src s' io' H' J q S' T' hw => ?_⟩
  obtain ⟨I, h0, hs, he⟩ := q
  refine ⟨fun i m σ1 H1 => ∃ io1 O1 sd1 s1, StOk X.K C g L (vw g io' O H') io1 O1 H1 σ1 sd1 s1 ∧ m = ds.length - i ∧ i ≤ ds.length ∧ I i sd1 s1, ⟨_, io', O, sd, s', S'.here, rfl, Nat.zero_le _, h0⟩, ?_⟩
  rintro i m σ1 H1 ⟨io1, O1, sd1, s1, S1, rfl, hi, q1⟩
  by_cases hlt : i < ds.length
  · have e : ds[i]? = some ds[i] := by simp [hlt]
    obtain ⟨src1, q1⟩ := hs i _ sd1 s1 e q1
    obtain ⟨go, yl⟩ := (hw io1 O1 H1 σ1 sd1 s1 i S1 src1).1 ds[i] e
    refine .inr ⟨go, fun σ' H' => ∃ io2 O2 sd2 s2, StOk X.K C g L (vw g io' O _) io2 O2 H' σ' sd2 s2 ∧ I (i + 1) sd2 s2, fun σ' H' ⟨io2, O2, sd2, s2, S2, q2⟩ => ⟨ds.length - (i + 1), by omega, io2, O2, sd2, s2, S2, rfl, hlt, q2⟩, fun x H2 y => ?_⟩
    obtain ⟨S2, T2, r2⟩ := yl x H2 y
    refine ht _ io1 O1 H2 σ1 sd1 s1 x _ _ _ S2 r2 q1 fun sd3 σ3 q3 S3 => ?_
    refine ⟨_, io1, O1, sd3, s1, _, S3, q3, ⟨fun io O H σ sd s q S => ⟨io, O, sd, s, S, q⟩, fun r s io P H v q S rr => E.rt r s io P H v q (S.rebase S'.kp) rr, fun io O H σ sd s q S => E.nx io O H σ sd s q (S.rebase S'.kp), fun io O H σ sd s q S => ⟨io, O, sd, s, S, q⟩⟩⟩
  · have e : i = ds.length := by omega
    subst e
    obtain ⟨src1, q1⟩ := he sd1 s1 q1
    exact .inl ⟨(hw io1 O1 H1 σ1 sd1 s1 _ S1 src1).2 (by simp), E.nx io1 O1 H1 σ1 sd1 s1 q1 (S1.rebase S'.kp)⟩
/-- while -/
def dWhile (c : DT) (body : DS) : DS := fun D σ s => ∃ W : Nat → DSt → Store → Prop, (∃ m, W m σ s) ∧ ∀ m σ s, W m σ s → c σ s fun b s1 => if b = true then body { nx := fun σ' s' => ∃ m', m' < m ∧ W m' σ' s', ct := fun σ' s' => ∃ m', m' < m ∧ W m' σ' s', bk := D.nx, rt := D.rt } σ s1 else D.nx σ s1
end
end G
namespace G
open PySem L2
section
variable {X : Cx} {C : Tbl} {g : Gw} {L : Lk} {pos : Pos}
theorem gs_while {c : Expr} {body : List Stmt} {tc : DT} {tb : DS} (hp : PassesOwn (model X.prog X.w) X.A X.env X.xe) (hc : PT X c (LT X.K C g L tc)) (hb : PSs X body (LS X.K C g L tb)) : PS X (.While c body [] pos) (LS X.K C g L (dWhile tc tb)) := (ps_while hp hc hb).imp fun T σ H ⟨kw, io, O, sd, s, D, S, ⟨W, ⟨m, hm⟩, hW⟩, E⟩ => by
  refine ⟨fun m σ1 H1 => ∃ io1 O1 sd1 s1, StOk X.K C g L kw io1 O1 H1 σ1 sd1 s1 ∧ W m sd1 s1, ⟨m, io, O, sd, s, S, hm⟩, ?_⟩
  rintro m1 σ1 H1 ⟨io1, O1, sd1, s1, S1, w1⟩
  refine ⟨kw, io1, O1, sd1, s1, _, S1, hW m1 sd1 s1 w1, fun b s2 io2 H2 q S2 T2 => ?_⟩
  cases b with
  | true =>
    refine ⟨fun σ' H' => ∃ io3 O3 sd3 s3, StOk X.K C g L kw io3 O3 H' σ' sd3 s3 ∧ ∃ m', m' < m1 ∧ W m' sd3 s3, fun σ' H' ⟨io3, O3, sd3, s3, S3, m', l, w3⟩ => ⟨m', l, io3, O3, sd3, s3, S3, w3⟩, ?_⟩
    exact ⟨kw, io2, O1, sd1, s2, _, S2, q, ⟨fun io O H σ sd s q S => ⟨io, O, sd, s, S, q⟩, E.rt, E.nx, fun io O H σ sd s q S => ⟨io, O, sd, s, S, q⟩⟩⟩
  | false => exact E.nx io2 O1 H2 σ1 sd1 s2 q S2
end
section
variable {K : PySem.W.Frag} {C : Tbl} {g : Gw} {L : Lk} {kw : Vw} {io : List Addr} {O : Addr → Prop} {H : Hp} {σ : St} {sd : DSt} {s : Store}
abbrev no : Addr → Prop := fun _ => False
abbrev gIn (g : Gw) (io : List Addr) (O : Addr → Prop) (H : Hp) : Gw := ⟨fun a => g.B a ∨ O a, io, H, kTop, []⟩
/-- the same view, its parts grouped otherwise -/
theorem vw_in : Grow (vw g io O H) (vw (gIn g io O H) io no H) := ⟨fun a u x h z => x (z.elim (fun z => z.elim .inl fun z => .inr (.inr z)) fun z => z.elim (fun z => .inr (.inl z)) False.elim), fun a u x h => .inl h, [], (List.append_nil _).symm⟩
theorem StOk.callIn (S : StOk K C g L kw io O H σ sd s) : StOk K C (gIn g io O H) [] (vw (gIn g io O H) io no H) io no H [] [] s := by
  refine ⟨S.nio, fun _ z => z.elim, fun a ha => ?_, fun _ z => z.elim, ⟨[], (List.append_nil _).symm, fun _ z => (nomatch z)⟩, fun a o h _ _ => .inl ⟨h, fun _ z => (nomatch z)⟩, fun a od u h => h, fun _ z => (nomatch z), S.ce.grow vw_in rfl fun _ _ => rfl, ⟨rfl, fun i sl e => by simp at e, fun i j d d' a e => by simp at e⟩, Grow.refl _, ⟨Grow.top _, [], rfl, fun _ z => (nomatch z)⟩, ⟨S.tb.tb, fun p hp => .inl (S.tb.b p hp), fun _ _ z => z.elim, fun a φ z => z.elim (fun z => S.bx z φ) fun z => S.tb.xo a φ z⟩⟩
  rcases ha with z | z
  · obtain ⟨q1, _, o, q3⟩ := S.bd a z
    exact ⟨q1, fun z => z, S.h0_some q3⟩
  · exact ⟨S.dj a z, fun z => z, (S.od a z).2⟩
theorem StOk.callOut {io' : List Addr} {P O' : Addr → Prop} {H' : Hp} {s' : Store} {kw' : Vw} (S : StOk K C g L kw io O H σ sd s) (R : StOk K C (gIn g io O H) [] kw' io' P H' [] [] s') (hO : ∀ a, O' a ↔ O a ∨ P a) :
    StOk K C g L kw io' O' H' σ sd s' ∧ Stp g io O H io' O' H' ∧ (∀ a, P a → ¬ O a) ∧ Grow (vw (gIn g io O H) io' P H') (vw g io' O' H') := by
  have keep : ∀ a o, H a = some o → a ∉ io → (∀ p ∈ C.tb, p.1 ≠ a) → H' a = some o := fun a o h h2 h3 => by
    rcases R.fr a o h h2 h3 with ⟨q, _⟩ | ⟨_, q⟩
    · exact q
    · cases q
  have hPO : ∀ a, P a → ¬ O a := fun a ha z => (R.bd a (.inr z)).2.1 ha
  have ow : ∀ a, O a → H' a = H a := fun a ha => by
    obtain ⟨_, o, ho⟩ := S.od a ha
    rw [ho, keep a o ho (S.dj a ha) fun p hp z => (S.bd a (z ▸ S.tb.b p hp)).2.1 ha]
  obtain ⟨l, el, hl⟩ := R.pre
  have el : io' = io ++ l := el
  have hl : ∀ a ∈ l, H a = none := hl
  have G : Grow (vw g io O H) (vw g io' O' H') := by
    refine ⟨fun a u x h z => ?_, fun a u x h => .inl (keep a u h (fun z => x (.inr (.inl z))) fun p hp z => x (.inl (z ▸ S.tb.b p hp))), l, el⟩
    rcases z with z | z | z
    · exact x (.inl z)
    · rw [el] at z
      rcases (List.mem_append).1 z with z | z
      · exact x (.inr (.inl z))
      · have : H a = some u := h
        rw [hl a z] at this; cases this
    · rcases (hO a).mp z with z | z
      · exact x (.inr (.inr z))
      · have : H a = some u := h
        have q1 : H a = none := (R.od a z).1
        rw [q1] at this; cases this
  have G2 : Grow (vw (gIn g io O H) io' P H') (vw g io' O' H') := by
    refine ⟨fun a u x h z => x ?_, fun a u x h => .inl h, [], (List.append_nil _).symm⟩
    rcases z with z | z | z
    · exact .inl (.inl z)
    · exact .inr (.inl z)
    · rcases (hO a).mp z with z | z
      · exact .inl (.inr z)
      · exact .inr (.inr z)
  refine ⟨⟨R.nio, fun a ha => ?_, fun a ha => ?_, fun a ha => ?_, ?_, fun a o h1 h2 h3 => ?_, fun a od u h => R.fz a od u (S.fz a od u h), fun e he => ?_, R.ce.grow G2 rfl fun _ _ => rfl, S.sl.grow G fun a ha => ⟨(hO a).mpr (.inl ha), ow a ha⟩, S.kp.trans G, S.an.trans G, ⟨R.tb.tb, S.tb.b, fun a φ z => ((hO a).mp z).elim (fun z => by rw [ow a z]; exact S.tb.xo a φ z) fun z => R.tb.xo a φ z, S.tb.xb⟩⟩, ⟨G, ow⟩, hPO, G2⟩
  · rcases (hO a).mp ha with z | z
    · exact (R.bd a (.inr z)).1
    · exact R.dj a z
  · obtain ⟨q1, q2, q3⟩ := S.bd a ha
    refine ⟨(R.bd a (.inl ha)).1, fun z => ?_, q3⟩
    rcases (hO a).mp z with z | z
    · exact q2 z
    · exact (R.bd a (.inl ha)).2.1 z
  · rcases (hO a).mp ha with z | z
    · obtain ⟨q1, o, q2⟩ := S.od a z
      exact ⟨q1, o, by rw [ow a z]; exact q2⟩
    · obtain ⟨q1, q2⟩ := R.od a z
      refine ⟨?_, q2⟩
      have q1 : H a = none := q1
      exact (S.free q1).2.1
  · obtain ⟨l0, e0, h0⟩ := S.pre
    refine ⟨l0 ++ l, by rw [el, e0, List.append_assoc], fun a ha => ?_⟩
    rcases (List.mem_append).1 ha with z | z
    · exact h0 a z
    · exact (S.free (hl a z)).2.1
  · have nio : a ∉ io := fun z => by
      obtain ⟨l0, e0, h0⟩ := S.pre
      rw [e0] at z
      rcases (List.mem_append).1 z with z | z
      · exact h2 z
      · rw [h0 a z] at h1; cases h1
    rcases S.fr a o h1 h2 h3 with ⟨q, z⟩ | q
    · exact .inl ⟨keep a o q nio h3, z⟩
    · exact .inr q
  · obtain ⟨q1, q2⟩ := S.lk e he
    exact ⟨R.fz _ _ _ q1, q2⟩
end
abbrev DSp := List D → Store → (Sl → Store → Prop) → (DX → Store → Prop) → Prop
/-- what a def promises -/
def LF (K : PySem.W.Frag) (C : Tbl) (sp : DSp) : Sp := fun vs H Q E => ∃ B io s ds Qd Wd, StOk K C ⟨B, io, H, kTop, []⟩ [] (vw ⟨B, io, H, kTop, []⟩ io no H) io no H [] [] s ∧ RL K C (vw ⟨B, io, H, kTop, []⟩ io no H) vs ds ∧ sp ds s Qd Wd ∧
  (∀ r s' io' H' v P, Qd r s' → StOk K C ⟨B, io, H, kTop, []⟩ [] (vw ⟨B, io, H, kTop, []⟩ io no H) io' P H' [] [] s' → RR K C (vw ⟨B, io, H, kTop, []⟩ io' P H') v r P → Q v H') ∧
  (∀ x s' io' H' cls d, Wd x s' → StOk K C ⟨B, io, H, kTop, []⟩ [] (vw ⟨B, io, H, kTop, []⟩ io no H) io' no H' [] [] s' → RX K C (vw ⟨B, io, H, kTop, []⟩ io' no H') x cls d → E cls d H')
def frzS : Sl → D
  | .v d => d
  | .o d => d
  | .f _ => .raw 0
theorem RX.grow {K : PySem.W.Frag} {C : Tbl} {w w' : Vw} {x : DX} {cls : Value} {d : Option Addr} (r : RX K C w x cls d) (G : Grow w w') : RX K C w' x cls d := by
  obtain ⟨e, r⟩ := r
  refine ⟨e, ?_⟩
  rcases r with r | ⟨dd, vs, e1, e2, e3, e4, e5⟩
  · exact .inl r
  · exact .inr ⟨dd, vs, e1, G.x _ _ e2 e3, G.eq e2 e3 rfl (by intro _ _ z; cases z), e4.grow G, e5⟩
section
variable {X : Cx} {C : Tbl} {g : Gw} {L : Lk} {pos : Pos} {kw : Vw} {io : List Addr} {O : Addr → Prop} {H : Hp} {σ : St} {sd : DSt} {s : Store}
/-- a call's promise, from the caller's state -/
theorem call_frz {K : PySem.W.Frag} {sp : DSp} {W : DW} {vs : List V} {ds : List D} {Qd : DK} {Q : VK} (S : StOk K C g L kw io O H σ sd s) (r : RL K C (vw g io O H) vs ds)
    (h : sp ds s (fun r s' => Qd (frzS r) s') (fun x s' => W x sd s'))
    (k : ∀ d s' io' H' v, Qd d s' → StOk K C g L kw io' O H' σ sd s' → Stp g io O H io' O H' → RD K C (vw g io' O H') v d → Q v H') : LF K C sp vs H Q (WE (LW K C g L W) σ) := by
  refine ⟨fun a => g.B a ∨ O a, io, s, ds, _, _, S.callIn, r.grow vw_in, h, fun r s' io' H' v P q R rr => ?_, fun x s' io' H' cls d q R rx => ?_⟩
  · cases rr with
    | v rd =>
      obtain ⟨S2, T2, _, G2⟩ := S.callOut (O' := O) R (fun a => ⟨.inl, fun z => z.elim id False.elim⟩)
      exact k _ s' io' H' v q S2 T2 (rd.grow G2)
    | @o a ho d h1 nf rc =>
      obtain ⟨S2, T2, hn, G2⟩ := S.callOut (O' := ores O a) R (fun a => Iff.rfl)
      obtain ⟨S3, G3⟩ := S2.unres (hn a rfl) (S.noOwn (hn a rfl))
      refine k _ s' io' H' (.ref a) q S3 ⟨T2.gr.trans G3, T2.ow⟩ (RC.frz ?_ h1 nf ((rc.grow G2).grow G3))
      exact fun z => z.elim (fun z => (S2.bd a z).2.1 (.inr rfl)) fun z => z.elim (S2.dj a (.inr rfl)) (hn a rfl)
  · obtain ⟨S2, T2, _, G2⟩ := S.callOut (O' := O) R (fun a => ⟨.inl, fun z => z.elim id False.elim⟩)
    exact ⟨kw, io', O, sd, s', x, S2, rx.grow G2, q⟩
theorem call_own {K : PySem.W.Frag} {sp : DSp} {W : DW} {vs : List V} {ds : List D} {Qd : DK} {Q : VK} (S : StOk K C g L kw io O H σ sd s) (r : RL K C (vw g io O H) vs ds)
    (h : sp ds s (fun r s' => match r with | .o d => Qd d s' | _ => False) (fun x s' => W x sd s'))
    (k : ∀ d s' io' H' p ho, Qd d s' → StOk K C g L kw io' (ores O p) H' σ sd s' → Stp g io O H io' (ores O p) H' → ¬ O p → H' p = some ho → (∀ od u, ho ≠ .frz od u) → RC K C (vw g io' (ores O p) H') ho d → Q (.ref p) H') : LF K C sp vs H Q (WE (LW K C g L W) σ) := by
  refine ⟨fun a => g.B a ∨ O a, io, s, ds, _, _, S.callIn, r.grow vw_in, h, fun r s' io' H' v P q R rr => ?_, fun x s' io' H' cls d q R rx => ?_⟩
  · cases rr with
    | v rd => exact q.elim
    | @o a ho d h1 nf rc =>
      obtain ⟨S2, T2, hn, G2⟩ := S.callOut (O' := ores O a) R (fun a => Iff.rfl)
      exact k _ s' io' H' a ho q S2 T2 (hn a rfl) h1 nf (rc.grow G2)
  · obtain ⟨S2, T2, _, G2⟩ := S.callOut (O' := O) R (fun a => ⟨.inl, fun z => z.elim id False.elim⟩)
    exact ⟨kw, io', O, sd, s', x, S2, rx.grow G2, q⟩
def dCall (sp : DSp) (W : DW) (dds : List D) (a : DA) : DE := fun σ s Q => a σ s fun ds s1 => sp (ds ++ dds) s1 (fun r s' => Q (frzS r) s') (fun x s' => W x σ s')
def dCallO (sp : DSp) (W : DW) (dds : List D) (a : DA) : DE := fun σ s Q => a σ s fun ds s1 => sp (ds ++ dds) s1 (fun r s' => match r with | .o d => Q d s' | _ => False) (fun x s' => W x σ s')
theorem RL.of_all {K : PySem.W.Frag} {w : Vw} {dvs : List V} {dds : List D} (h : ∀ w, RL K C w dvs dds) : RL K C w dvs dds := h w
section
variable {k : Nat} {f : Addr} {fd : FuncData} {ps : List Str} {sp : DSp} {dvs : List V} {dds : List D} {ds : List Value} {W : DW} {x : Str} {p : Pos} {e : Expr} {es : List Expr} {da : DA}
theorem g_call (F : FnOk X.prog X.w X.K X.mg X.base (L2.CX X.prog X.w) k f fd ps (LF X.K C sp)) (hr : Room k X.A) (hg : Gl X x) (hm : X.mg x = some (.ref f)) (hk : PySem.W.keepIn X.K (.ref f) = true) (hb : Binds X.K fd ps ds) (hd : Vals dvs ds) (hdd : ∀ w, RL X.K C w dvs dds)
    (tk : Takes X (LW X.K C g L W)) (ha : PA X (e :: es) (LA X.K C g L da)) (hdb : (x == ("__debug__" : Str)) = false := by decide) (he : starEach (e :: es) X.env = (false, eval e X.env) :: starEach es X.env := by rfl) (hpl : (backTo pos (starEach es X.env)).any (·.1) = false := by rfl) :
    PE X (.Call (.Name x p) (e :: es) [] pos) (LE X.K C g L (dCall sp W dds da)) := (pe_callSD (E := fun σ => WE (LW X.K C g L W) σ) F hr hg hm hk hb hd (fun σ => passAt tk σ) ha hdb he hpl).imp fun σ H Q ⟨kw, io, O, sd, s, Qd, S, h, k⟩ =>
  ⟨kw, io, O, sd, s, _, S, h, fun ds s1 io1 H1 vs q S1 T1 r => call_frz S1 (r.append (hdd _)) q fun d s' io' H' v q' S' T' r' => k d s' io' H' v q' S' (T1.trans T') r'⟩
theorem g_callO (F : FnOk X.prog X.w X.K X.mg X.base (L2.CX X.prog X.w) k f fd ps (LF X.K C sp)) (hr : Room k X.A) (hg : Gl X x) (hm : X.mg x = some (.ref f)) (hk : PySem.W.keepIn X.K (.ref f) = true) (hb : Binds X.K fd ps ds) (hd : Vals dvs ds) (hdd : ∀ w, RL X.K C w dvs dds)
    (tk : Takes X (LW X.K C g L W)) (ha : PA X (e :: es) (LA X.K C g L da)) (hdb : (x == ("__debug__" : Str)) = false := by decide) (he : starEach (e :: es) X.env = (false, eval e X.env) :: starEach es X.env := by rfl) (hpl : (backTo pos (starEach es X.env)).any (·.1) = false := by rfl) :
    PE X (.Call (.Name x p) (e :: es) [] pos) (LO X.K C g L (dCallO sp W dds da)) := (pe_callSD (E := fun σ => WE (LW X.K C g L W) σ) F hr hg hm hk hb hd (fun σ => passAt tk σ) ha hdb he hpl).imp fun σ H Q ⟨kw, io, O, sd, s, Qd, S, h, k⟩ =>
  ⟨kw, io, O, sd, s, _, S, h, fun ds s1 io1 H1 vs q S1 T1 r => call_own S1 (r.append (hdd _)) q fun d s' io' H' p ho q' S' T' => k d s' io' H' p ho q' S' (T1.trans T')⟩
end
end
/-! ### a def keeps its promise -/
def startD (n : Nat) (ds : List D) : DSt := ds.map (fun d => some (.v d)) ++ List.replicate (n - ds.length) none
theorem start_ok {K : PySem.W.Frag} {C : Tbl} {w : Vw} {O : Addr → Prop} {N : List Str} {vs : List V} {ds : List D} (r : RL K C w vs ds) : RSt K C w O (L2.start N vs) (startD N.length ds) := by
  have hl := r.length
  refine ⟨by simp [L2.start, startD, hl], fun i sl e => ?_, fun i j d d' a e => ?_⟩
  · unfold startD at e
    by_cases h : i < ds.length
    · rw [List.getElem?_append_left (by simpa using h), List.getElem?_map] at e
      have e1 : ds[i]? = some ds[i] := by simp [h]
      rw [e1] at e
      simp at e
      subst e
      obtain ⟨v, q1, q2⟩ := r.get e1
      refine ⟨v, ?_, .v q2⟩
      unfold L2.start
      rw [List.getElem?_append_left (by simp; omega), List.getElem?_map, q1]
      rfl
    · rw [List.getElem?_append_right (by simp; omega)] at e
      have := List.mem_of_getElem? e
      simp at this
  · unfold startD at e
    exfalso
    by_cases h : i < ds.length
    · rw [List.getElem?_append_left (by simpa using h), List.getElem?_map] at e
      have e1 : ds[i]? = some ds[i] := by simp [h]
      rw [e1] at e
      simp at e
    · rw [List.getElem?_append_right (by simp; omega)] at e
      have := List.mem_of_getElem? e
      simp at this
theorem LF.len {K : PySem.W.Frag} {C : Tbl} {sp : DSp} {n : Nat} (h : ∀ ds s Q W, sp ds s Q W → ds.length = n) (vs : List V) (H : Hp) (Q : VK) (E : XK) (q : LF K C sp vs H Q E) : vs.length = n := by
  obtain ⟨B, io, s, ds, Qd, Wd, S, r, hs, _⟩ := q
  rw [r.length]; exact h _ _ _ _ hs
abbrev dEnd (Q : Sl → Store → Prop) : DEnds := { nx := fun _ s => Q (.v .non) s, rt := Q }
theorem body_ok {K : PySem.W.Frag} {C : Tbl} {sp : DSp} {t : DW → DS} {N : List Str} {vs : List V} {H : Hp} {Q : VK} {E : XK} (h : LF K C sp vs H Q E) (hb : ∀ ds s Q W, sp ds s Q W → t (fun x _ s => W x s) (dEnd Q) (startD N.length ds) s) :
    ∃ (g : Gw) (W : DW), (∀ cls d σ H', LW K C g [] W cls d σ H' → E cls d H') ∧ LS K C g [] (t W) { nx := fun _ H' => Q .non H', rt := Q } (L2.start N vs) H := by
  obtain ⟨B, io, s, ds, Qd, Wd, S, r, hs, k1, k2⟩ := h
  refine ⟨⟨B, io, H, kTop, []⟩, fun x _ s => Wd x s, fun cls d σ H' ⟨kw, io', O, sd, s', x, S', rx, q⟩ => ?_, _, io, no, startD N.length ds, s, dEnd Qd, ⟨S.nio, S.dj, S.bd, S.od, S.pre, S.fr, S.fz, S.lk, S.ce, start_ok r, S.kp, ⟨Grow.top _, [], rfl, fun _ z => (nomatch z)⟩, S.tb⟩, hb ds s Qd Wd hs, ⟨fun io' O' H' σ' sd' s' q S' => ?_, fun r s' io' P H' v q S' rr => k1 r s' io' H' v P q S' rr, fun io' O' H' σ' sd' s' q => q.elim, fun io' O' H' σ' sd' s' q => q.elim⟩⟩
  · obtain ⟨S2, G2⟩ := S'.exit (P := no) (fun _ z => z.elim)
    have S3 : StOk K C ⟨B, io, H, kTop, []⟩ [] (vw ⟨B, io, H, kTop, []⟩ io no H) io' no H' [] [] s' := ⟨S2.nio, S2.dj, S2.bd, S2.od, S2.pre, S2.fr, S2.fz, S2.lk, S2.ce, S2.sl, ?_, ⟨Grow.top _, [], rfl, fun _ z => (nomatch z)⟩, S2.tb⟩
    exact k2 x s' io' H' cls d q S3 (rx.grow G2)
    refine ⟨fun a u x h z => ?_, fun a u x h => ?_, ?_⟩
    · rcases z with z | z | z
      · exact x (.inl z)
      · obtain ⟨l, e, hl⟩ := S2.pre
        have e : io' = io ++ l := e
        rw [e] at z
        rcases (List.mem_append).1 z with z | z
        · exact x (.inr (.inl z))
        · have : H a = some u := h
          have hz : H a = none := hl a z
          rw [hz] at this; cases this
      · exact z
    · rcases S2.fr a u h (fun z => x (.inr (.inl z))) (fun p hp z => x (.inl (z ▸ S2.tb.b p hp))) with ⟨q, _⟩ | ⟨_, q⟩
      · exact .inl q
      · cases q
    · obtain ⟨l, e, _⟩ := S2.pre
      exact ⟨l, e⟩
  · obtain ⟨S2, G2⟩ := S'.exit (P := no) (fun _ z => z.elim)
    exact k1 _ s' io' H' .non no q S2 (.v .non)
section
variable {P : Program} {w : World} {K : PySem.W.Frag} {mg : Str → Option Value} {base : Heap} {x qual : Str} {params : Arguments} {body : List Stmt} {scope : Scope} {dvs : List V} {kws : List (Str × V)} {f : Addr} {fd : FuncData} {C : Tbl}
theorem g_fn {N ps : List Str} {k : Nat} {sp : DSp} {t : DW → DS} (F : FunD K x qual params body scope dvs kws f fd) (S : FnScope N ps scope) (hlen : ∀ ds s Q W, sp ds s Q W → ds.length = ps.length)
    (hder : ∀ (X : Cx) (cdv : Value) (A : Around) (outer : List Env) (s : Shared) (H : Hp) (E : XK) (g : Gw) (W : DW), X = cxOf (L2.CX P w) P w K mg base N qual scope f cdv A outer s H E → Room k X.A → Takes X (LW X.K C g [] W) → PassesOwn (model X.prog X.w) X.A X.env X.xe → PSs X body (LS X.K C g [] (t W)))
    (hb : ∀ ds s Q W, sp ds s Q W → t (fun x _ s => W x s) (dEnd Q) (startD N.length ds) s) : FnOk P w K mg base (L2.CX P w) (k + 1) f fd ps (LF K C sp) := by
  refine F.ok S (LF.len hlen) fun cdv A outer s H vs Q E hr h => ?_
  obtain ⟨g, W, hE, hs⟩ := body_ok h hb (N := N) (t := t)
  refine ⟨_, hder _ cdv A outer s H E g W rfl hr ?_ (passes_of rfl), hs⟩
  exact (takes_of rfl rfl rfl rfl).imp fun cls d σ H' q => hE cls d σ H' q
/-- the law: nothing is let out -/
theorem g_law {N ps : List Str} {k : Nat} {sp : DSp} {t : DW → DS} (F : FunD K x qual params body scope dvs kws f fd) (S : FnScope N ps scope) (hlen : ∀ ds s Q W, sp ds s Q W → ds.length = ps.length)
    (hder : ∀ (X : Cx) (cdv : Value) (A : Around) (outer : List Env) (s : Shared) (H : Hp) (E : XK) (g : Gw), X = (cxOf CX0 P w K mg base N qual scope f cdv A outer s H E).nox → Room k X.A → Takes X (LW X.K C g [] fun _ _ _ => False) → PassesOwn (model X.prog X.w) X.A X.env X.xe → PSs X body (LS X.K C g [] (t fun _ _ _ => False)))
    (hsp : ∀ ds s Q W, sp ds s Q W → sp ds s Q fun _ _ => False) (hb : ∀ ds s Q, sp ds s Q (fun _ _ => False) → t (fun _ _ _ => False) (dEnd Q) (startD N.length ds) s) : FnOk P w K mg base CX0 (k + 1) f fd ps (LF K C sp) := by
  refine F.ok S (LF.len hlen) fun cdv A outer s H vs Q E hr h => ?_
  have h' : LF K C (fun ds s Q _ => sp ds s Q fun _ _ => False) vs H Q fun _ _ _ => False := by
    obtain ⟨B, io, s, ds, Qd, Wd, S, r, hs, k1, k2⟩ := h
    exact ⟨B, io, s, ds, Qd, fun _ _ => False, S, r, hsp _ _ _ _ hs, k1, fun _ _ _ _ _ _ z => z.elim⟩
  obtain ⟨g, W, hE, hs⟩ := body_ok h' (t := fun _ => t fun _ _ _ => False) (N := N) fun ds s Q W h => hb ds s Q h
  refine ⟨_, PSs.nox (hder _ cdv A outer s H E g rfl hr ?_ PassesOwn.never), hs⟩
  exact takes0.imp fun cls d σ H' ⟨_, _, _, _, _, _, _, _, z⟩ => z
end
end G
namespace L2
open PySem Spec PyProof.Rows
variable {X : Cx} {tg : Expr}
/-- what a for walks: a list, a tuple, a text -/
def iSeq (K : PySem.W.Frag) (tl : TE) : TI := fun σ H R => tl σ H fun x H1 =>
  (∃ a, x = .ref a ∧ (∃ xs, SqL K H1 a xs) ∧ R (Itl K a) H1) ∨ (∃ a, x = .ref a ∧ (∃ xs, SqT K H1 a xs) ∧ R (Itt K a) H1) ∨ (∃ z, x = .str z ∧ R (Its z) H1)
theorem pi_seq {l : Expr} {tl : TE} (hl : PE X l tl) : PI X tg l (iSeq X.K tl) := ⟨fun pins t σ G R J h => thn (hl.run pins t σ G _ J h) (by
  rintro v t1 ⟨x, G1, J1, rel, ⟨a, rfl, ⟨xs, at_⟩, go⟩ | ⟨a, rfl, ⟨xs, at_⟩, go⟩ | ⟨z, rfl, go⟩⟩
  · cases rel
    obtain ⟨_, _, its, _⟩ := J1.list at_
    exact wpAny_pyIter_list its.isList (pi_one (tk := t1.toks) J1 _ (turn_list a _) ⟨_, Heap.get?_push_size _ rfl, rfl, rfl⟩ go)
  · cases rel
    obtain ⟨its, _, is, _⟩ := J1.tuple at_
    have tup : t1.heap.IsTuple a its.toArray := is
    exact wpAny_pyIter_tuple tup (pi_one (tk := t1.toks) J1 _ (turn_tuple a _) ⟨_, Heap.get?_push_size _ rfl, rfl, rfl⟩ go)
  · obtain ⟨tok, rfl⟩ := rel
    by_cases asc : z.cps.all (· < 128) = true
    · exact wpAny_pyIter_ascii asc (pi_one (tk := t1.toks) J1 _ (turn_str _ z tok "str_ascii_iterator" (.inl rfl)) ⟨_, Heap.get?_push_size _ rfl, rfl, rfl⟩ go)
    · have wide : z.cps.all (· < 128) = false := by simpa using asc
      exact wpAny_pyIter_wide wide (pi_one (tk := t1.toks) J1 _ (turn_str _ z tok "str_iterator" (.inr rfl)) ⟨_, Heap.get?_push_size _ rfl, rfl, rfl⟩ go))⟩
end L2
namespace G
open PySem L2
section
variable {K : PySem.W.Frag} {C : Tbl} {g : Gw} {L : Lk} {kw : Vw} {io : List Addr} {O : Addr → Prop} {H : Hp} {σ : St} {sd : DSt} {s : Store}
def strD (z : Str) : List D := z.cps.toList.map fun c => .str ⟨#[c]⟩
def wSeq (e : DE) : DI := fun σ s Q => e σ s fun d s' => match d with
  | .lst ds => Q ds (fun _ => True) s'
  | .ro ds => Q ds (fun _ => True) s'
  | .tup ds => Q ds (fun _ => True) s'
  | .str z => Q (strD z) (fun _ => True) s'
  | .ref n => (match s'[n]? with
    | some (.lst ds) => Q ds (fun s2 => s2[n]? = some (.lst ds)) s'
    | _ => False)
  | _ => False
theorem walk_l {v0 : Vw} {a : Addr} {ds : List D} {src : Store → Prop} (h : ∀ io O H σ sd s, StOk K C g L v0 io O H σ sd s → src s → ∃ vs, SqL K H a vs ∧ RL K C (vw g io O H) vs ds) : Walk K C g L v0 (Itl K a) ds src := by
  intro io O H σ sd s i S hs
  obtain ⟨vs, h1, r⟩ := h io O H σ sd s S hs
  refine ⟨fun d e => ?_, fun e => ⟨vs, h1, ?_⟩⟩
  · obtain ⟨v, e1, r1⟩ := r.get e
    refine ⟨⟨vs, v, h1, e1⟩, fun x H' y => ?_⟩
    obtain ⟨rfl, y⟩ := y
    have e2 := y vs h1
    rw [e1] at e2; cases e2
    exact ⟨S, Stp.refl .., r1⟩
  · rw [r.length]; exact List.getElem?_eq_none_iff.mp e
theorem walk_t {v0 : Vw} {a : Addr} {ds : List D} {src : Store → Prop} (h : ∀ io O H σ sd s, StOk K C g L v0 io O H σ sd s → src s → ∃ vs, SqT K H a vs ∧ RL K C (vw g io O H) vs ds) : Walk K C g L v0 (Itt K a) ds src := by
  intro io O H σ sd s i S hs
  obtain ⟨vs, h1, r⟩ := h io O H σ sd s S hs
  refine ⟨fun d e => ?_, fun e => ⟨vs, h1, ?_⟩⟩
  · obtain ⟨v, e1, r1⟩ := r.get e
    refine ⟨⟨vs, v, h1, e1⟩, fun x H' y => ?_⟩
    obtain ⟨rfl, y⟩ := y
    have e2 := y vs h1
    rw [e1] at e2; cases e2
    exact ⟨S, Stp.refl .., r1⟩
  · rw [r.length]; exact List.getElem?_eq_none_iff.mp e
theorem walk_s {v0 : Vw} {z : Str} {src : Store → Prop} : Walk K C g L v0 (Its z) (strD z) src := by
  intro io O H σ sd s i S hs
  refine ⟨fun d e => ?_, fun e => ?_⟩
  · unfold strD at e
    rw [List.getElem?_map] at e
    cases q : z.cps.toList[i]? with
    | none => simp [q] at e
    | some c =>
      rw [q] at e; cases e
      have q' : z.cps[i]? = some c := by rw [← Array.getElem?_toList]; exact q
      refine ⟨(Array.getElem?_eq_some_iff.mp q').1, fun x H' y => ?_⟩
      obtain ⟨rfl, c', e1, rfl⟩ := y
      rw [q'] at e1; cases e1
      exact ⟨S, Stp.refl .., .str _⟩
  · have := List.getElem?_eq_none_iff.mp e
    simp [strD] at this
    exact this
theorem l_seq {e : DE} (σ : St) (H : Hp) (R : It → Hp → Prop) (h : LI K C g L (wSeq e) σ H R) : iSeq K (LE K C g L e) σ H R := by
  obtain ⟨kw, io, O, sd, s, Qd, S, h, k⟩ := h
  refine ⟨kw, io, O, sd, s, _, S, h, fun d s' io' H' v q S' T' r => ?_⟩
  cases r with
  | @lst a vs ds x h1 r1 =>
    refine .inl ⟨_, rfl, ⟨_, .inl (.inl h1)⟩, k _ _ s' io' H' _ q S' T' (walk_l fun io O H σ sd s S2 _ => ?_)⟩
    exact ⟨vs, .inl (.inl (S2.kp.eq x h1 rfl (by intro _ _ z; cases z))), r1.grow S2.kp⟩
  | @ro a vs ds h1 r1 =>
    rcases h1 with ⟨x, h1⟩ | h1
    · refine .inl ⟨_, rfl, ⟨_, .inl h1⟩, k _ _ s' io' H' _ q S' T' (walk_l fun io O H σ sd s S2 _ => ⟨vs, .inl (S2.kp.rd x h1), r1.grow S2.kp⟩)⟩
    · refine .inl ⟨_, rfl, ⟨_, h1 _⟩, k _ _ s' io' H' _ q S' T' (walk_l fun io O H σ sd s S2 _ => ⟨vs, h1 _, r1.grow S2.kp⟩)⟩
  | @tup a vs ds x h1 r1 =>
    refine .inr (.inl ⟨_, rfl, ⟨_, .inl (.inl h1)⟩, k _ _ s' io' H' _ q S' T' (walk_t fun io O H σ sd s S2 _ => ?_)⟩)
    exact ⟨vs, .inl (.inl (S2.kp.eq x h1 rfl (by intro _ _ z; cases z))), r1.grow S2.kp⟩
  | str z => exact .inr (.inr ⟨z, rfl, k _ _ s' io' H' _ q S' T' walk_s⟩)
  | @ref n a hn =>
    have q : (match s'[n]? with
      | some (.lst ds) => Qd ds (fun s2 => s2[n]? = some (.lst ds)) s'
      | _ => False) := q
    split at q
    · rename_i ds es
      have get : ∀ io O H σ sd s, StOk K C g L (vw g io' _ H') io O H σ sd s → s[n]? = some (.lst ds) → ∃ vs, SqL K H a vs ∧ RL K C (vw g io O H) vs ds := fun io O H σ sd s S2 e2 => by
        obtain ⟨b, ho, e3, e4, rc⟩ := S2.ce.get n _ e2
        have e5 : io[n]? = some a := S2.kp.get hn
        have e3 : io[n]? = some b := e3
        rw [e5] at e3; cases e3
        cases rc with
        | lst r => exact ⟨_, .inl (.inl e4), r⟩
      obtain ⟨vs, h1, _⟩ := get io' _ H' _ _ s' S'.here es
      exact .inl ⟨_, rfl, ⟨vs, h1⟩, k _ _ s' io' H' _ q S' T' (walk_l get)⟩
    · exact q.elim
  | _ => exact False.elim q
def lm : Int := 2 ^ 62
def rg1 (s' : Store) (Q : List D → (Store → Prop) → Store → Prop) : List D → Prop
  | [.int j] => -(2 ^ 62) ≤ j ∧ j < 2 ^ 62 ∧ Q ((List.range j.toNat).map fun (i : Nat) => .int (i : Int)) (fun _ => True) s'
  | _ => False
def wRg1 (a : DA) : DI := fun σ s Q => a σ s fun ds s' => rg1 s' Q ds
def rg2 (s' : Store) (Q : List D → (Store → Prop) → Store → Prop) : List D → Prop
  | [.int i, .int j] => (-(2 ^ 62) ≤ i ∧ i < 2 ^ 62 ∧ -(2 ^ 62) ≤ j ∧ j < 2 ^ 62) ∧ Q ((List.range (j - i).toNat).map fun (k : Nat) => .int (i + (k : Int))) (fun _ => True) s'
  | _ => False
def wRg2 (a : DA) : DI := fun σ s Q => a σ s fun ds s' => rg2 s' Q ds
theorem walk_r {v0 : Vw} {lo : Int} {n : Nat} {f : Nat → D} (hf : ∀ i, f i = .int (lo + (i : Int))) {src : Store → Prop} : Walk K C g L v0 (Itr lo n) ((List.range n).map f) src := by
  intro io O H σ sd s i S hs
  refine ⟨fun d e => ?_, fun e => ?_⟩
  · rw [List.getElem?_map] at e
    by_cases h : i < n
    · rw [List.getElem?_range h] at e
      cases e
      refine ⟨h, fun x H' y => ?_⟩
      obtain ⟨rfl, rfl⟩ := y
      refine ⟨S, Stp.refl .., ?_⟩
      rw [hf]; exact .int _
    · rw [List.getElem?_eq_none (by simp; omega)] at e
      cases e
  · have := List.getElem?_eq_none_iff.mp e
    simp at this
    exact this
theorem l_rg1 {a : DA} (σ : St) (H : Hp) (R : It → Hp → Prop) (h : LI K C g L (wRg1 a) σ H R) : iRng1 (LA K C g L a) σ H R := by
  obtain ⟨kw, io, O, sd, s, Qd, S, h, k⟩ := h
  refine ⟨kw, io, O, sd, s, _, S, h, fun ds s' io' H' vs q S' T' r => ?_⟩
  have q : rg1 s' Qd ds := q
  unfold rg1 at q
  split at q
  · cases r with
    | cons r t => cases t; cases r; exact ⟨_, rfl, q.1, q.2.1, k _ _ s' io' H' _ q.2.2 S' T' (walk_r fun i => by rw [Int.zero_add])⟩
  · exact q.elim
theorem l_rg2 {a : DA} (σ : St) (H : Hp) (R : It → Hp → Prop) (h : LI K C g L (wRg2 a) σ H R) : iRng2 (LA K C g L a) σ H R := by
  obtain ⟨kw, io, O, sd, s, Qd, S, h, k⟩ := h
  refine ⟨kw, io, O, sd, s, _, S, h, fun ds s' io' H' vs q S' T' r => ?_⟩
  have q : rg2 s' Qd ds := q
  unfold rg2 at q
  split at q
  · cases r with
    | cons r t => cases t with
      | cons r2 t => cases t; cases r; cases r2; exact ⟨_, _, rfl, q.1, k _ _ s' io' H' _ q.2 S' T' (walk_r fun i => rfl)⟩
  · exact q.elim
end
section
variable {X : Cx} {C : Tbl} {g : Gw} {L : Lk} {pos p : Pos} {tg a b : Expr}
theorem gi_seq {l : Expr} {e : DE} (h : PE X l (LE X.K C g L e)) : PI X tg l (LI X.K C g L (wSeq e)) := (pi_seq h).imp fun σ H R => l_seq σ H R
theorem gi_rg1 {da : DA} (hg : Gl X "range") (hm : X.mg "range" = none) (ha : PA X [a] (LA X.K C g L da)) (hs : starEach [a] X.env = [(false, eval a X.env)] := by rfl) : PI X tg (.Call (.Name "range" p) [a] [] pos) (LI X.K C g L (wRg1 da)) := (pi_range1 hg hm ha hs).imp fun σ H R => l_rg1 σ H R
theorem gi_rg2 {da : DA} (hg : Gl X "range") (hm : X.mg "range" = none) (ha : PA X [a, b] (LA X.K C g L da)) (hs : starEach [a, b] X.env = [(false, eval a X.env), (false, eval b X.env)] := by rfl) (hs2 : starEach [b] X.env = [(false, eval b X.env)] := by rfl) :
    PI X tg (.Call (.Name "range" p) [a, b] [] pos) (LI X.K C g L (wRg2 da)) := (pi_range2 hg hm ha hs hs2).imp fun σ H R => l_rg2 σ H R
end
/-! ### comprehensions -/
def wipeD (σ : DSt) : List Nat → DSt
  | [] => σ
  | v :: vs => (wipeD σ vs).set v none
theorem wipeD_length (σ : DSt) : ∀ vs : List Nat, (wipeD σ vs).length = σ.length
  | [] => rfl
  | v :: vs => by unfold wipeD; rw [List.length_set, wipeD_length σ vs]
section
variable {K : PySem.W.Frag} {C : Tbl} {g : Gw} {L : Lk} {kw : Vw} {io : List Addr} {O : Addr → Prop} {H : Hp} {σ : St} {sd : DSt} {s : Store}
theorem RSt.wipe {w : Vw} (S : RSt K C w O σ sd) : ∀ vs, RSt K C w O (L2.wipe σ vs) (wipeD sd vs)
  | [] => S
  | v :: vs => by
    have S' := RSt.wipe S vs
    have get : ∀ (i : Nat) (sl : Sl), ((wipeD sd vs).set v none)[i]? = some (some sl) → v ≠ i ∧ (wipeD sd vs)[i]? = some (some sl) := fun i sl e => by
      rcases set_cases e with ⟨_, e, _⟩ | ⟨h, e⟩
      · cases e
      · exact ⟨h, e⟩
    refine ⟨by show ((L2.wipe σ vs).set v none).length = ((wipeD sd vs).set v none).length; rw [List.length_set, List.length_set]; exact S'.len, fun i sl e => ?_, fun i j d d' a e1 e2 e3 e4 => ?_⟩
    · obtain ⟨h, e⟩ := get i sl e
      obtain ⟨x, q, r⟩ := S'.get i sl e
      exact ⟨x, by show ((L2.wipe σ vs).set v none)[i]? = _; rw [List.getElem?_set_ne h]; exact q, r⟩
    · obtain ⟨h1, e1⟩ := get i _ e1
      obtain ⟨h2, e2⟩ := get j _ e2
      have e3 : ((L2.wipe σ vs).set v none)[i]? = some (some (.ref a)) := e3
      have e4 : ((L2.wipe σ vs).set v none)[j]? = some (some (.ref a)) := e4
      rw [List.getElem?_set_ne h1] at e3
      rw [List.getElem?_set_ne h2] at e4
      exact S'.inj i j d d' a e1 e2 e3 e4
theorem StOk.reslot {σ' : St} {sd' : DSt} (S : StOk K C g L kw io O H σ sd s) (R : RSt K C (vw g io O H) O σ' sd') : StOk K C g L kw io O H σ' sd' s :=
  ⟨S.nio, S.dj, S.bd, S.od, S.pre, S.fr, S.fz, S.lk, S.ce, R, S.kp, S.an, S.tb⟩
/-- a target stores at these slots alone -/
def TgW (t : TG) (is : List Nat) : Prop := ∀ v σ H Q, t v σ H Q → t v σ H fun σ' H' => Q σ' H' ∧ σ'.length = σ.length ∧ ∀ j, j ∉ is → σ'[j]? = σ[j]?
theorem tw_n (i : Nat) : TgW (gName i) [i] := fun v σ H Q h => ⟨h, by simp, fun j hj => List.getElem?_set_ne (by intro z; exact hj (by simp [z]))⟩
theorem setAll_at : ∀ (is : List Nat) (vs : List V) (σ : St), (setAll σ is vs).length = σ.length ∧ ∀ j, j ∉ is → (setAll σ is vs)[j]? = σ[j]?
  | [], vs, σ => by cases vs <;> exact ⟨rfl, fun _ _ => rfl⟩
  | i :: is, [], σ => ⟨rfl, fun _ _ => rfl⟩
  | i :: is, v :: vs, σ => by
    obtain ⟨h1, h2⟩ := setAll_at is vs (σ.set i (some v))
    refine ⟨by show (setAll (σ.set i (some v)) is vs).length = _; rw [h1, List.length_set], fun j hj => ?_⟩
    have := h2 j fun z => hj (List.mem_cons_of_mem _ z)
    show (setAll (σ.set i (some v)) is vs)[j]? = _
    rw [this, List.getElem?_set_ne (by intro z; exact hj (by simp [z]))]
theorem gm_n (i : Nat) : ∀ v σ H (Q Q' : St → Hp → Prop), (∀ σ' H', Q σ' H' → Q' σ' H') → gName i v σ H Q → gName i v σ H Q' := fun v σ H Q Q' h q => h _ _ q
theorem gNames_to : ∀ (is : List Nat) (vs : List V) (σ : St) (H : Hp) (Q : St → Hp → Prop), gNames is vs σ H Q → vs.length = is.length ∧ Q (setAll σ is vs) H
  | [], _, σ, H, Q, ⟨e, h⟩ => by subst e; exact ⟨rfl, h⟩
  | i :: is, _, σ, H, Q, ⟨v, vs, e, h⟩ => by
    subst e
    obtain ⟨h1, h2⟩ := gNames_to is vs (σ.set i (some v)) H Q h
    exact ⟨by simp [h1], h2⟩
theorem tw_ns (is : List Nat) {n : Nat} : TgW (gTup K n (gNames is)) is := fun v σ H Q ⟨a, xs, e, h1, h2, h⟩ => by
  obtain ⟨l, q⟩ := gNames_to is xs σ H Q h
  obtain ⟨h3, h4⟩ := setAll_at is xs σ
  exact ⟨a, xs, e, h1, h2, gNames_of is xs σ H _ l ⟨q, h3, h4⟩⟩
theorem gm_ns (is : List Nat) {n : Nat} : ∀ v σ H (Q Q' : St → Hp → Prop), (∀ σ' H', Q σ' H' → Q' σ' H') → gTup K n (gNames is) v σ H Q → gTup K n (gNames is) v σ H Q' := fun v σ H Q Q' hq ⟨a, xs, e, h1, h2, h⟩ => by
  obtain ⟨l, q⟩ := gNames_to is xs σ H Q h
  exact ⟨a, xs, e, h1, h2, gNames_of is xs σ H _ l (hq _ _ q)⟩
theorem wipe_at (σ : St) : ∀ (vs : List Nat) (j : Nat), (L2.wipe σ vs)[j]? = if j ∈ vs then (if j < σ.length then some none else none) else σ[j]?
  | [], j => by simp [L2.wipe]
  | v :: vs, j => by
    show ((L2.wipe σ vs).set v none)[j]? = _
    by_cases h : v = j
    · subst h
      rw [List.getElem?_set]
      simp [L2.wipe_length]
    · rw [List.getElem?_set_ne h, wipe_at σ vs j]
      have : j ∈ v :: vs ↔ j ∈ vs := by simp [show ¬ j = v from fun z => h z.symm]
      simp only [this]
theorem wipe_back {σ σ' : St} {vs is : List Nat} (hl : σ'.length = σ.length) (h : ∀ j, j ∉ is → σ'[j]? = (L2.wipe σ vs)[j]?) (hs : ∀ j ∈ is, j ∈ vs) : L2.wipe σ' vs = L2.wipe σ vs := by
  apply List.ext_getElem?
  intro j
  rw [wipe_at, wipe_at, hl]
  by_cases hj : j ∈ vs
  · simp [hj]
  · simp only [hj, if_false]
    rw [h j fun z => hj (hs j z), wipe_at]
    simp [hj]
theorem wipeD_at (σ : DSt) : ∀ (vs : List Nat) (j : Nat) (x : Sl), (wipeD σ vs)[j]? = some (some x) → σ[j]? = some (some x) ∧ j ∉ vs
  | [], j, x, h => ⟨h, by simp⟩
  | v :: vs, j, x, h => by
    rcases set_cases (show ((wipeD σ vs).set v none)[j]? = some (some x) from h) with ⟨_, e, _⟩ | ⟨n, e⟩
    · cases e
    · obtain ⟨h1, h2⟩ := wipeD_at σ vs j x e
      exact ⟨h1, by simp only [List.mem_cons, not_or]; exact ⟨fun z => n z.symm, h2⟩⟩
theorem StOk.writeRes {p : Addr} {ho u : HO} (S : StOk K C g L kw io (ores O p) H σ sd s) (hn : ¬ O p) (hs : ∀ (i : Nat) (d : D), sd[i]? = some (some (Sl.o d)) → σ[i]? ≠ some (some (V.ref p))) (hp : H p = some u) (nf : ∀ od v, u ≠ .frz od v) (ux : ∀ φ, u ≠ .ext φ := by intro _ z; cases z) (ut : ∀ ps, u ≠ .tbl ps := by intro _ z; cases z) (hx : ∀ φ, ho ≠ .ext φ := by intro _ z; cases z) :
    StOk K C g L kw io (ores O p) (upd H p ho) σ sd s ∧ Grow (vw g io (ores O p) H) (vw g io (ores O p) (upd H p ho)) := by
  have op : ores O p p := .inr rfl
  have G : Grow (vw g io (ores O p) H) (vw g io (ores O p) (upd H p ho)) := by
    refine ⟨fun b v x h => x, fun b v x h => .inl ?_, [], (List.append_nil _).symm⟩
    have : b ≠ p := fun z => x (.inr (.inr (z ▸ op)))
    show upd H p ho b = some v
    rw [upd_ne this]; exact h
  have lkne : ∀ e ∈ L, e.1 ≠ p := fun e he z => by
    have := (S.lk e he).1
    rw [z, hp] at this; cases this; exact nf _ _ rfl
  refine ⟨⟨S.nio, S.dj, S.bd, fun b hb => ?_, S.pre, fun b v h1 h2 h3 => ?_, fun b od v h => ?_, fun e he => ?_, S.ce.grow G rfl fun b hb => ?_, ⟨S.sl.len, fun j sl e => ?_, S.sl.inj⟩, S.kp.trans G, S.an.trans G, S.tb.upd hp ut ux hx⟩, G⟩
  · obtain ⟨h1, v, h2⟩ := S.od b hb
    refine ⟨h1, ?_⟩
    by_cases z : b = p
    · exact ⟨ho, by rw [z]; exact upd_same⟩
    · exact ⟨v, by rw [upd_ne z]; exact h2⟩
  · have : b ≠ p := fun z => by rw [z, (S.od p op).1] at h1; cases h1
    rcases S.fr b v h1 h2 h3 with ⟨q, z⟩ | q
    · exact .inl ⟨by rw [upd_ne this]; exact q, z⟩
    · exact .inr q
  · have : b ≠ p := fun z => by rw [z, (S.od p op).1] at h; cases h
    rw [upd_ne this]; exact S.fz b od v h
  · obtain ⟨h1, h2⟩ := S.lk e he
    exact ⟨by rw [upd_ne (lkne e he)]; exact h1, h2⟩
  · have : b ≠ p := fun z => S.dj p op (z ▸ hb)
    show upd H p ho b = H b
    rw [upd_ne this]
  · obtain ⟨v, e1, r1⟩ := S.sl.get j sl e
    refine ⟨v, e1, ?_⟩
    cases r1 with
    | v r1 => exact .v (r1.grow G)
    | @o b hb db q1 q2 q3 q4 =>
      have : b ≠ p := fun z => hs j _ e (by rw [z] at e1; exact e1)
      exact .o (by show upd H p ho b = some hb; rw [upd_ne this]; exact q1) q2 q3 (q4.grow G)
    | f r1 => exact .f (r1.grow G)
def dYes : DT := fun _ s Q => Q true s
def lcD (src : Store → Prop) (dg : DTg) (dt : DT) (de : DE) (σ : DSt) : List D → List D → Store → (List D → Store → Prop) → Prop
  | [], acc, s, Q => src s ∧ Q acc s
  | d :: r, acc, s, Q => src s ∧ dg d σ s fun σ' s1 => dt σ' s1 fun b s2 => if b = true then de σ' s2 fun y s3 => acc.length < lim ∧ lcD src dg dt de σ r (acc ++ [y]) s3 Q else lcD src dg dt de σ r acc s2 Q
/-- [elt for target in iter if ..]; vs: the block's own slots -/
def dLc (di : DI) (dg : DTg) (dt : DT) (de : DE) (vs : List Nat) : DE := fun σ s Q => di σ s fun ds src s' => lcD src dg dt de (wipeD σ vs) ds [] s' fun acc s2 => Q (.lst acc) s2
theorem l_lc {di : DI} {gt : TG} {dg : DTg} {dt : DT} {de : DE} {vs is : List Nat} {wi : TI} {tt : TT} (hw : ∀ σ H R, LI K C g L di σ H R → wi σ H R) (ht : TgG K C g L gt dg) (hgw : TgW gt is) (hmono : ∀ v σ H (Q Q' : St → Hp → Prop), (∀ σ' H', Q σ' H' → Q' σ' H') → gt v σ H Q → gt v σ H Q') (his : ∀ j ∈ is, j ∈ vs) (htt : ∀ σ H Q, LT K C g L dt σ H Q → tt σ H Q)
    (σ : St) (H : Hp) (Q : VK) (h : LO K C g L (dLc di dg dt de vs) σ H Q) : tLc wi gt tt (LE K C g L de) vs σ H Q := by
  obtain ⟨kw, io, O, sd, s, Qd, S, h, k⟩ := h
  refine hw _ _ _ ⟨kw, io, O, sd, s, _, S, h, fun ds src s' io' H1 J q S1 T1 hwalk => ?_⟩
  intro Dl hD
  obtain ⟨S2, T2, hn⟩ := S1.newRes (ho := .lst []) hD
  have len0 : σ.length = sd.length := S.sl.len
  refine ⟨fun i m H2 => ∃ io2 s2 acc accV, StOk K C g L (vw g io' O H1) io2 (ores O Dl) H2 (L2.wipe σ vs) (wipeD sd vs) s2 ∧ Stp g io' O H1 io2 (ores O Dl) H2 ∧ H2 Dl = some (.lst accV) ∧ RL K C (vw g io2 (ores O Dl) H2) accV acc ∧ m = ds.length - i ∧ i ≤ ds.length ∧
    lcD src dg dt de (wipeD sd vs) (ds.drop i) acc s2 fun acc s3 => Qd (.lst acc) s3, ⟨_, io', s', [], [], (S2.here.rebase T2.gr).reslot (S2.sl.wipe vs), T2, upd_same, .nil, rfl, Nat.zero_le _, q⟩, ?_⟩
  rintro i m H2 ⟨io2, s2, acc, accV, S3, T3, hH, ra, rfl, hi, q2⟩
  by_cases hlt : i < ds.length
  · have e : ds.drop i = ds[i] :: ds.drop (i + 1) := List.drop_eq_getElem_cons hlt
    rw [e] at q2
    obtain ⟨src1, q2⟩ := q2
    obtain ⟨go, yl⟩ := (hwalk io2 (ores O Dl) H2 _ _ s2 i S3 src1).1 ds[i] (by simp [hlt])
    refine .inr ⟨go, fun H' => ∃ io2 s2 acc accV, StOk K C g L (vw g io' O H1) io2 (ores O Dl) H' (L2.wipe σ vs) (wipeD sd vs) s2 ∧ Stp g io' O H1 io2 (ores O Dl) H' ∧ H' Dl = some (.lst accV) ∧ RL K C (vw g io2 (ores O Dl) H') accV acc ∧
      lcD src dg dt de (wipeD sd vs) (ds.drop (i + 1)) acc s2 fun acc s3 => Qd (.lst acc) s3, fun H' ⟨io2, s2, acc, accV, a1, a2, a3, a4, a5⟩ => ⟨ds.length - (i + 1), by omega, io2, s2, acc, accV, a1, a2, a3, a4, rfl, hlt, a5⟩, fun x H3 y => ?_⟩
    obtain ⟨S4, T4, rx⟩ := yl x H3 y
    have y2 := hgw x (L2.wipe σ vs) H3 _ (ht _ io2 (ores O Dl) H3 _ _ s2 x _ _ (fun σ' H' => ∃ sd', H' = H3 ∧ StOk K C g L (vw g io' O H1) io2 (ores O Dl) H3 σ' sd' s2 ∧ dt sd' s2 fun b s3 => if b = true then de sd' s3 fun y s4 => acc.length < lim ∧ lcD src dg dt de (wipeD sd vs) (ds.drop (i + 1)) (acc ++ [y]) s4 (fun acc s3 => Qd (.lst acc) s3) else lcD src dg dt de (wipeD sd vs) (ds.drop (i + 1)) acc s3 fun acc s3 => Qd (.lst acc) s3) S4 rx q2 fun sd' σ' q S => ⟨sd', rfl, S, q⟩)
    refine hmono x (L2.wipe σ vs) H3 _ _ (fun σ' H' z => ?_) y2
    obtain ⟨⟨sd', rfl, S5, q3⟩, l5, f5⟩ := z
    refine ⟨wipe_back (by rw [l5, L2.wipe_length]) f5 his, htt _ _ _ ⟨_, io2, ores O Dl, sd', s2, _, S5, q3, fun b s3 io3 H3' q4 S6 T6 => ?_⟩⟩
    have R3 : RSt K C (vw g io3 (ores O Dl) H3') (ores O Dl) (L2.wipe σ vs) (wipeD sd vs) := S4.sl.grow T6.gr fun a ha => ⟨ha, T6.ow a ha⟩
    cases b with
    | false =>
      refine ⟨io3, s3, acc, accV, S6.reslot R3, (T3.trans T4 (fun _ z => .inl z)).trans T6 (fun _ z => .inl z), ?_, (ra.grow T4.gr).grow T6.gr, q4⟩
      rw [T6.ow Dl (.inr rfl), T4.ow Dl (.inr rfl), hH]
    | true =>
      refine ⟨_, io3, ores O Dl, sd', s3, _, S6, q4, fun y s4 io4 H4 v q5 S7 T7 ry => ?_⟩
      have hH4 : H4 Dl = some (.lst accV) := by rw [T7.ow Dl (.inr rfl), T6.ow Dl (.inr rfl), T4.ow Dl (.inr rfl), hH]
      have R4 : RSt K C (vw g io4 (ores O Dl) H4) (ores O Dl) (L2.wipe σ vs) (wipeD sd vs) := R3.grow T7.gr fun a ha => ⟨ha, T7.ow a ha⟩
      have ra4 := ((ra.grow T4.gr).grow T6.gr).grow T7.gr
      have hno : ∀ (j : Nat) (d : D), (wipeD sd vs)[j]? = some (some (Sl.o d)) → (L2.wipe σ vs)[j]? ≠ some (some (V.ref Dl)) := fun j d e z => by
        obtain ⟨e1, e2⟩ := wipeD_at sd vs j _ e
        refine S1.noOwn hn j d e1 ?_
        rw [wipe_at, if_neg e2] at z
        exact z
      obtain ⟨S8, G8⟩ := (S7.reslot R4).writeRes (ho := .lst (accV ++ [v])) hn hno hH4 (by intro _ _ z; cases z)
      have T47 := ((T3.trans T4 (fun _ z => .inl z)).trans T6 (fun _ z => .inl z)).trans T7 (fun _ z => .inl z)
      refine ⟨accV, hH4, by rw [ra4.length]; exact lim_lt q5.1, io4, s4, acc ++ [y], accV ++ [v], S8, ⟨T47.gr.trans G8, fun a ha => ?_⟩, upd_same, (ra4.append (.cons ry .nil)).grow G8, q5.2⟩
      have na : a ≠ Dl := fun z => hn (by rw [← z]; exact ha)
      rw [upd_ne na]
      exact T47.ow a ha
  · have e : ds.drop i = [] := List.drop_eq_nil_of_le (by omega)
    rw [e] at q2
    obtain ⟨src1, q2⟩ := q2
    refine .inl ⟨(hwalk io2 _ H2 _ _ s2 i S3 src1).2 (by simp; omega), ?_⟩
    have R : RSt K C (vw g io2 (ores O Dl) H2) (ores O Dl) σ sd := S.sl.grow (T1.trans T3).gr fun a ha => ⟨.inl ha, (T1.trans T3).ow a ha⟩
    exact k _ s2 io2 H2 Dl _ q2 ((S3.reslot R).rebase (S1.kp)) (T1.trans T3) hn hH (by intro _ _ z; cases z) (.lst ra)
end
section
variable {X : Cx} {C : Tbl} {g : Gw} {L : Lk} {pos spos py p : Pos}
/-- the block's own derivations -/
abbrev Blk (X : Cx) (scope : Scope) (F : Cx → Prop) : Prop := ∀ (s : Shared) (H : Hp) (C : Addr) (cl : List (Str × Addr)) (fp : List Addr), F (X.blk s H scope (compEnvC scope cl C X.env) fp)
theorem gt_yes {X : Cx} : PTs X [] (LT X.K C g L dYes) := ⟨fun pins s σ H Q I ⟨kw, io, O, sd, s', Qd, S, h, k⟩ => (pts_nil (X := X)).run pins s σ H Q I (k true s' io H h S (Stp.refl ..))⟩
theorem gt_one {X : Cx} {c : Expr} {dt : DT} (h : PT X c (LT X.K C g L dt)) : PTs X [c] (LT X.K C g L dt) := pts_one h
theorem g_lc {elt tg iter : Expr} {ifs : List Expr} {scope : Scope} {own : List (Str × Nat)} {di : DI} {gt : TG} {dg : DTg} {dt : DT} {de : DE} {is : List Nat} (hc : X.calm = true) (hN : X.N.Nodup) (hi : PI X tg iter (LI X.K C g L di)) (ok : BlkOk X.N X.env.scope scope own)
    (hg : Blk X scope fun Y => PG Y tg gt) (ht : TgG X.K C g L gt dg) (hw : TgW gt is) (hm : ∀ v σ H (Q Q' : St → Hp → Prop), (∀ σ' H', Q σ' H' → Q' σ' H') → gt v σ H Q → gt v σ H Q') (his : ∀ j ∈ is, j ∈ own.map (·.2))
    (hif : Blk X scope fun Y => PTs Y ifs (LT X.K C g L dt)) (he : Blk X scope fun Y => PE Y elt (LE X.K C g L de)) (hs : ∀ x, foldedSetIterable iter X.env x = pure x := by intro _; rfl) :
    PE X (.ListComp elt [⟨tg, iter, ifs, 0⟩] scope pos) (LO X.K C g L (dLc di dg dt de (own.map (·.2)))) :=
  (pe_lc hc hN hi ok hg hif he hs).imp fun σ H Q q => l_lc (fun _ _ _ h => h) ht hw hm his (fun _ _ _ h => h) σ H Q q
theorem g_setLc {i : Nat} {y : Str} {elt tg iter : Expr} {ifs : List Expr} {scope : Scope} {own : List (Str × Nat)} {di : DI} {gt : TG} {dg : DTg} {dt : DT} {de : DE} {is : List Nat} (hc : X.calm = true) (hN : X.N.Nodup) (hy : X.N[i]? = some y) (hyl : X.env.scope.names.lookup y = some .local)
    (hsw : swapsWith (.ListComp elt [⟨tg, iter, ifs, 0⟩] scope pos) (some (.Name y py)) spos.line X.env = pure true) (hi : PI X tg iter (LI X.K C g L di)) (ok : BlkOk X.N X.env.scope scope own)
    (hg : Blk X scope fun Y => PG Y tg gt) (ht : TgG X.K C g L gt dg) (hw : TgW gt is) (hm : ∀ v σ H (Q Q' : St → Hp → Prop), (∀ σ' H', Q σ' H' → Q' σ' H') → gt v σ H Q → gt v σ H Q') (his : ∀ j ∈ is, j ∈ own.map (·.2))
    (hif : Blk X scope fun Y => PTs Y ifs (LT X.K C g L dt)) (he : Blk X scope fun Y => PE Y elt (LE X.K C g L de)) (hs : ∀ x, foldedSetIterable iter X.env x = pure x := by intro _; rfl) :
    PS X (.Assign [.Name y py] (.ListComp elt [⟨tg, iter, ifs, 0⟩] scope pos) spos) (tAsg (LO X.K C g L (dLc di dg dt de (own.map (·.2)))) (gName i)) :=
  (ps_setLc hc hN hy hyl hsw hi ok hg hif he hs).imp fun D σ H q => l_lc (fun _ _ _ h => h) ht hw hm his (fun _ _ _ h => h) σ H _ q
theorem g_asgF {st : Stmt} {i : Nat} {de : DE} (h : PS X st (tAsg (LO X.K C g L de) (gName i))) : PS X st (tAsg (LE X.K C g L de) (gName i)) := h.imp fun D σ H q => LO.frz q
theorem g_asgN {st : Stmt} {i : Nat} {de : DE} (h : PS X st (tAsg (LO X.K C g L de) (gName i))) : PS X st (tAsg (LE X.K C g L (dNew de)) (gName i)) := h.imp fun D σ H q => LO.cell q
end
end G
namespace L2
open PySem Spec PyProof.Rows
variable {X : Cx}
/-- len of a dict, locked or not -/
def rLenK : List V → Hp → VK → Prop := fun xs H Q => ∃ a, xs = [V.ref a] ∧ ((∃ kvs, Rd H a (.dK kvs) ∧ Q (.int kvs.length) H))
theorem call_lenK : CallR X (.builtin "len") rLenK := by
  intro pins t σ H xs us Q I r h
  obtain ⟨a, rfl, kvs, ha, q⟩ := h
  obtain ⟨u, rfl, rel⟩ := vals1 r
  cases rel
  exact d_len I ha fun t s' I' => ⟨.int kvs.length, H, I', ⟨t, rfl⟩, q⟩
def rLenA (K : PySem.W.Frag) : List V → Hp → VK → Prop := fun xs H Q => (∃ x n, xs = [x] ∧ LenV K x H n ∧ Q (.int n) H) ∨ rLenK xs H Q
theorem call_lenA : CallR X (.builtin "len") (rLenA X.K) := call_len.or call_lenK
end L2
namespace G
open PySem L2
section
variable {K : PySem.W.Frag} {C : Tbl} {g : Gw} {L : Lk}
abbrev DCl := List Sl → Store → DK → Prop
def ClG (K : PySem.W.Frag) (C : Tbl) (g : Gw) (L : Lk) (r : List V → Hp → VK → Prop) (o : DCl) : Prop :=
  ∀ kw io O H σ sd s xs vs Qd Q, StOk K C g L kw io O H σ sd s → RSls K C (vw g io O H) O vs xs → o xs s Qd →
    (∀ d s' io' H' z, Qd d s' → StOk K C g L kw io' O H' σ sd s' → Stp g io O H io' O H' → RD K C (vw g io' O H') z d → Q z H') → r vs H Q
def ClN (K : PySem.W.Frag) (C : Tbl) (g : Gw) (L : Lk) (r : List V → Hp → VK → Prop) (o : DCl) : Prop :=
  ∀ kw io O H σ sd s xs vs Qd Q, StOk K C g L kw io O H σ sd s → RSls K C (vw g io O H) O vs xs → o xs s Qd →
    (∀ d s' io' H' p ho, Qd d s' → StOk K C g L kw io' (ores O p) H' σ sd s' → Stp g io O H io' (ores O p) H' → ¬ O p → H' p = some ho → (∀ od u, ho ≠ .frz od u) → RC K C (vw g io' (ores O p) H') ho d → Q (.ref p) H') → r vs H Q
def dBi (o : DCl) (a : DPs) : DE := fun σ s Q => a σ s fun xs s1 => o xs s1 Q
theorem l_bi {r : List V → Hp → VK → Prop} {o : DCl} {a : DPs} (h : ClG K C g L r o) (σ : St) (H : Hp) (Q : VK) (q : LE K C g L (dBi o a) σ H Q) : tCB r (LPs K C g L a) σ H Q := by
  obtain ⟨kw, io, O, sd, s, Qd, S, he, k⟩ := q
  exact ⟨kw, io, O, sd, s, _, S, he, fun xs s1 io1 H1 vs q1 S1 T1 r1 => h kw io1 O H1 σ sd s1 xs vs Qd Q S1 r1 q1 fun d s' io' H' z q2 S2 T2 => k d s' io' H' z q2 S2 (T1.trans T2)⟩
theorem l_biN {r : List V → Hp → VK → Prop} {o : DCl} {a : DPs} (h : ClN K C g L r o) (σ : St) (H : Hp) (Q : VK) (q : LO K C g L (dBi o a) σ H Q) : tCB r (LPs K C g L a) σ H Q := by
  obtain ⟨kw, io, O, sd, s, Qd, S, he, k⟩ := q
  exact ⟨kw, io, O, sd, s, _, S, he, fun xs s1 io1 H1 vs q1 S1 T1 r1 => h kw io1 O H1 σ sd s1 xs vs Qd Q S1 r1 q1 fun d s' io' H' p ho q2 S2 T2 => k d s' io' H' p ho q2 S2 (T1.trans T2)⟩
/-! the calls -/
def oLen : DCl := fun xs s Q => match xs with
  | [x] => (match unlk (deref s x) with
    | .lst ds => Q (.int ds.length) s
    | .ro ds => Q (.int ds.length) s
    | .tup ds => Q (.int ds.length) s
    | .dK m => Q (.int m.length) s
    | .str z => z.length ≤ lim ∧ Q (.int z.length) s
    | _ => False)
  | _ => False
theorem RSl.unlk {kw : Vw} {io : List Addr} {O : Addr → Prop} {H : Hp} {σ : St} {sd : DSt} {s : Store} (S : StOk K C g L kw io O H σ sd s) {v : V} {x : Sl} {e : D} (r : RSl K C (vw g io O H) O v x) (h : G.unlk (G.deref s x) = e) (n1 : ∀ z, e ≠ .dK z) (n2 : ∀ z, e ≠ .dT z) : G.deref s x = e := by
  have z := r.deref S
  generalize G.deref s x = d at h z
  cases d with
  | lk d =>
    rcases z with z | ⟨_, _, _, _, z⟩
    · cases z
    · cases z with
      | lk h1 r1 => cases r1 with
        | dK r => exact absurd h.symm (n1 _)
        | dT r => exact absurd h.symm (n2 _)
        | lst r => cases h1
        | ins r => cases h1
        | lk h r => cases h1
  | _ => exact h
theorem oc_len : ClG K C g L (rLenA K) oLen := by
  intro kw io O H σ sd s xs vs Qd Q S rx h k
  unfold oLen at h
  split at h
  · obtain ⟨v, rfl, ry⟩ := rx.one
    split at h
    · rename_i ds e
      obtain ⟨a, ws, rfl, hs, r⟩ := ry.seqL S (.inl (ry.unlk S e (by intro _ z; cases z) (by intro _ z; cases z)))
      exact .inl ⟨_, _, rfl, .inl ⟨_, hs, rfl⟩, by rw [r.length]; exact k _ s io H _ h S (Stp.refl ..) (.int _)⟩
    · rename_i ds e
      obtain ⟨a, ws, rfl, hs, r⟩ := ry.seqL S (.inr (ry.unlk S e (by intro _ z; cases z) (by intro _ z; cases z)))
      exact .inl ⟨_, _, rfl, .inl ⟨_, hs, rfl⟩, by rw [r.length]; exact k _ s io H _ h S (Stp.refl ..) (.int _)⟩
    · rename_i ds e
      obtain ⟨a, ws, rfl, hs, r⟩ := ry.tup S (ry.unlk S e (by intro _ z; cases z) (by intro _ z; cases z))
      exact .inl ⟨_, _, rfl, .inr ⟨_, .inl (.inl hs), rfl⟩, by rw [r.length]; exact k _ s io H _ h S (Stp.refl ..) (.int _)⟩
    · rename_i m e
      obtain ⟨a, ws, rfl, hs, r⟩ := ry.dK S e
      exact .inr ⟨_, rfl, _, hs, by rw [r.rm.length]; exact k _ s io H _ h S (Stp.refl ..) (.int _)⟩
    · rename_i z e
      have r1 := ry.sc S e rfl (w := vw g io O H) (O := O)
      cases r1
      exact .inl ⟨_, _, rfl, ⟨lim_le h.1, rfl⟩, k _ s io H _ h.2 S (Stp.refl ..) (.int _)⟩
    · exact h.elim
  · exact h.elim
/-- the type's name of plain things -/
def tyN : D → String
  | .non => "NoneType"
  | .bl _ => "bool"
  | .int _ => "int"
  | .str _ => "str"
  | .tup _ => "tuple"
  | .lst _ => "list"
  | .ro _ => "list"
  | .dK _ => "dict"
  | _ => ""
def isB (T : String) (n : String) : Bool := n == T || (n == "bool" && T == "int")
/-- isinstance(x, T), T a built-in type -/
def dIsi (T : String) (e : DP) : DE := fun σ s Q => e σ s fun x s' => tyN (deref s' x) ≠ "" ∧ Q (.bl (isB T (tyN (deref s' x)))) s'
theorem kit_isB {T n : String} (hT : T ∈ ["int", "bool", "str", "list", "tuple", "dict"]) (hn : n ∈ ["NoneType", "bool", "int", "str", "tuple", "list", "dict"]) : kitB n T = some (isB T n) := by
  have all : ∀ T ∈ ["int", "bool", "str", "list", "tuple", "dict"], ∀ n ∈ ["NoneType", "bool", "int", "str", "tuple", "list", "dict"], kitB n T = some (isB T n) := by decide +kernel
  exact all T hT n hn
theorem RSl.tyX {kw : Vw} {io : List Addr} {O : Addr → Prop} {H : Hp} {σ : St} {sd : DSt} {s : Store} (S : StOk K C g L kw io O H σ sd s) {v : V} {x : Sl} (r : RSl K C (vw g io O H) O v x) (h : tyN (G.deref s x) ≠ "") :
    TyX K H v (.type (tyN (G.deref s x))) ∧ tyN (G.deref s x) ∈ ["NoneType", "bool", "int", "str", "tuple", "list", "dict"] := by
  rcases r.deref S with q | ⟨a, ho, e, e2, q⟩
  · generalize G.deref s x = d at *
    cases q with
    | non => exact ⟨.base .non, by simp [tyN]⟩
    | bl b => exact ⟨.base (.bl b), by simp [tyN]⟩
    | int i => exact ⟨.base (.int i), by simp [tyN]⟩
    | str z => exact ⟨.base (.str z), by simp [tyN]⟩
    | ref hh => exact absurd rfl h
    | raw _ => exact absurd rfl h
    | ro h1 r1 =>
      have h1 : Rd H _ (.lst _) ∨ KL K _ _ := h1.imp And.right id
      have sq : SqL K H _ _ := h1.elim Or.inl fun q => q H
      rcases sq with (h1 | ⟨o, h1⟩) | ⟨o, its, n, h1, h2, _⟩
      · exact ⟨.base (.lst h1), by simp [tyN]⟩
      · exact ⟨.base (.frz h1), by simp [tyN]⟩
      · exact ⟨.kList h1 h2, by simp [tyN]⟩
    | lst x h1 r1 => exact ⟨.base (.lst h1), by simp [tyN]⟩
    | tup x h1 r1 => exact ⟨.base (.tup h1), by simp [tyN]⟩
    | dK x h1 r1 =>
      rcases h1 with h1 | ⟨o, h1⟩
      · exact ⟨.base (.dK h1), by simp [tyN]⟩
      · exact ⟨.fDict h1, by simp [tyN]⟩
    | dT x h1 r1 => exact absurd rfl h
    | ins x h1 r1 => exact absurd rfl h
  · generalize G.deref s x = d at *
    subst e
    cases q with
    | lst r1 => exact ⟨.base (.lst e2), by simp [tyN]⟩
    | dK r1 => exact ⟨.base (.dK e2), by simp [tyN]⟩
    | dT r1 => exact absurd rfl h
    | ins r1 => exact absurd rfl h
    | lk _ _ => exact absurd rfl h
end
end G
namespace G
open PySem L2
section
variable {X : Cx} {C : Tbl} {g : Gw} {L : Lk} {pos p p2 : Pos} {e : Expr} {es : List Expr} {de : DE} {dp : DP}
theorem g_isi {T : String} {x : Str} {pT : Pos} (hT : T ∈ ["int", "bool", "str", "list", "tuple", "dict"]) (hg : Gl X "isinstance") (hm : X.mg "isinstance" = none) (ht : PE X (.Name x pT) (tC (.ty T))) (h : PE X e (LP X.K C g L dp))
    (s1 : starEach [e, .Name x pT] X.env = (false, eval e X.env) :: starEach [.Name x pT] X.env := by rfl) (s2 : starEach [.Name x pT] X.env = (false, eval (.Name x pT) X.env) :: starEach [] X.env := by rfl) (hpl : (backTo pos (starEach [.Name x pT] X.env)).any (·.1) = false := by rfl) :
    PE X (.Call (.Name "isinstance" p) [e, .Name x pT] [] pos) (LE X.K C g L (dIsi T dp)) :=
  (pe_callB call_isi hg hm (by decide +kernel) (pa_cons h (pa_cons ht pa_nil s2) s1) (he := s1) (hpl := hpl)).imp fun σ H Q ⟨kw, io, O, sd, s, Qd, S, h, k⟩ => by
  refine ⟨kw, io, O, sd, s, _, S, h, fun x s' io' H' v q S' T' r => ?_⟩
  obtain ⟨t1, t2⟩ := r.tyX S' q.1
  exact ⟨v, .ty T, _, _, _, rfl, .ty T, t1, kit_ty (kit_isB hT t2), k _ s' io' H' _ q.2 S' T' (.bl _)⟩
/-- a built-in function | type of frozen or peeked things -/
theorem g_bi {id : String} {x : Str} {r : List V → Hp → VK → Prop} {o : DCl} {dps : DPs} (hc : CallR X (.builtin id) r) (ho : ClG X.K C g L r o) (hg : Gl X x) (hm : X.mg x = none) (hv : bootBuiltins x = some (.builtin id)) (ha : PA X (e :: es) (LPs X.K C g L dps)) (hn : x ≠ "__name__" := by decide) (hdb : (x == ("__debug__" : Str)) = false := by decide)
    (he : starEach (e :: es) X.env = (false, eval e X.env) :: starEach es X.env := by rfl) (hpl : (backTo pos (starEach es X.env)).any (·.1) = false := by rfl) : PE X (.Call (.Name x p) (e :: es) [] pos) (LE X.K C g L (dBi o dps)) := (pe_callB hc hg hm hv ha hn hdb he hpl).imp (l_bi ho)
theorem g_biN {id : String} {x : Str} {r : List V → Hp → VK → Prop} {o : DCl} {dps : DPs} (hc : CallR X (.builtin id) r) (ho : ClN X.K C g L r o) (hg : Gl X x) (hm : X.mg x = none) (hv : bootBuiltins x = some (.builtin id)) (ha : PA X (e :: es) (LPs X.K C g L dps)) (hn : x ≠ "__name__" := by decide) (hdb : (x == ("__debug__" : Str)) = false := by decide)
    (he : starEach (e :: es) X.env = (false, eval e X.env) :: starEach es X.env := by rfl) (hpl : (backTo pos (starEach es X.env)).any (·.1) = false := by rfl) : PE X (.Call (.Name x p) (e :: es) [] pos) (LO X.K C g L (dBi o dps)) := (pe_callB hc hg hm hv ha hn hdb he hpl).imp (l_biN ho)
theorem g_ty {T : String} {x : Str} {r : List V → Hp → VK → Prop} {o : DCl} {dps : DPs} (hc : CallR X (.type T) r) (ho : ClG X.K C g L r o) (hg : Gl X x) (hm : X.mg x = none) (hv : bootBuiltins x = some (.type T)) (ha : PA X (e :: es) (LPs X.K C g L dps)) (hn : x ≠ "__name__" := by decide) (hdb : (x == ("__debug__" : Str)) = false := by decide)
    (he : starEach (e :: es) X.env = (false, eval e X.env) :: starEach es X.env := by rfl) (hpl : (backTo pos (starEach es X.env)).any (·.1) = false := by rfl) : PE X (.Call (.Name x p) (e :: es) [] pos) (LE X.K C g L (dBi o dps)) := (pe_callTy hc hg hm hv ha hn hdb he hpl).imp (l_bi ho)
theorem g_tyN {T : String} {x : Str} {r : List V → Hp → VK → Prop} {o : DCl} {dps : DPs} (hc : CallR X (.type T) r) (ho : ClN X.K C g L r o) (hg : Gl X x) (hm : X.mg x = none) (hv : bootBuiltins x = some (.type T)) (ha : PA X (e :: es) (LPs X.K C g L dps)) (hn : x ≠ "__name__" := by decide) (hdb : (x == ("__debug__" : Str)) = false := by decide)
    (he : starEach (e :: es) X.env = (false, eval e X.env) :: starEach es X.env := by rfl) (hpl : (backTo pos (starEach es X.env)).any (·.1) = false := by rfl) : PE X (.Call (.Name x p) (e :: es) [] pos) (LO X.K C g L (dBi o dps)) := (pe_callTy hc hg hm hv ha hn hdb he hpl).imp (l_biN ho)
end
section
variable {K : PySem.W.Frag} {C : Tbl} {g : Gw} {L : Lk} {kw : Vw} {io : List Addr} {O : Addr → Prop} {H : Hp} {σ : St} {sd : DSt} {s : Store}
theorem RSl.seq (S : StOk K C g L kw io O H σ sd s) {v : V} {x : Sl} {ds : List D} (r : RSl K C (vw g io O H) O v x) (h : seqOf (G.deref s x) = some ds) : ∃ a vs, v = .ref a ∧ (SqL K H a vs ∨ SqT K H a vs) ∧ RL K C (vw g io O H) vs ds := by
  generalize e : G.deref s x = d at h
  cases d <;> first | cases h | skip
  · obtain ⟨a, vs, e1, e2, r⟩ := r.tup S e; exact ⟨a, vs, e1, .inr (.inl (.inl e2)), r⟩
  · obtain ⟨a, vs, e1, e2, r⟩ := r.seqL S (.inl e); exact ⟨a, vs, e1, .inl e2, r⟩
  · obtain ⟨a, vs, e1, e2, r⟩ := r.seqL S (.inr e); exact ⟨a, vs, e1, .inl e2, r⟩
def oList : DCl := fun xs s Q => match xs with
  | [x] => (match seqOf (deref s x) with
    | some ds => Q (.lst ds) s
    | none => False)
  | _ => False
theorem oc_list : ClN K C g L (fun xs H Q => ∃ p ys, xs = [.ref p] ∧ (SqL K H p ys ∨ SqT K H p ys) ∧ ∀ l, H l = none → Q (.ref l) (upd H l (.lst ys))) oList := by
  intro kw io O H σ sd s xs vs Qd Q S rx h k
  unfold oList at h
  split at h
  · obtain ⟨v, rfl, ry⟩ := rx.one
    split at h
    · rename_i ds e
      obtain ⟨a, ws, rfl, hs, r⟩ := ry.seq S e
      refine ⟨_, _, rfl, hs, fun l hl => ?_⟩
      obtain ⟨S2, T2, hn⟩ := S.newRes (ho := .lst ws) hl
      exact k _ s io _ l _ h S2 T2 hn upd_same (by intro _ _ z; cases z) (.lst (r.grow T2.gr))
    · exact h.elim
  · exact h.elim
def oTuple : DCl := fun xs s Q => match xs with
  | [x] => (match seqOf (deref s x) with
    | some ds => Q (.tup ds) s
    | none => False)
  | _ => False
theorem oc_tuple : ClG K C g L (fun xs H Q => ∃ p ys, xs = [.ref p] ∧ ((SqL K H p ys ∧ ∀ l, H l = none → Q (.ref l) (upd H l (.tup ys))) ∨ (SqT K H p ys ∧ Q (.ref p) H))) oTuple := by
  intro kw io O H σ sd s xs vs Qd Q S rx h k
  unfold oTuple at h
  split at h
  · rename_i x
    obtain ⟨v, rfl, ry⟩ := rx.one
    have mk : ∀ {a ws ds}, v = .ref a → SqL K H a ws → RL K C (vw g io O H) ws ds → Qd (.tup ds) s → ∃ p ys, [v] = [V.ref p] ∧ ((SqL K H p ys ∧ ∀ l, H l = none → Q (.ref l) (upd H l (.tup ys))) ∨ (SqT K H p ys ∧ Q (.ref p) H)) := fun {a ws ds} e hs r h => by
      refine ⟨a, ws, by rw [e], .inl ⟨hs, fun l hl => ?_⟩⟩
      obtain ⟨S2, T2⟩ := S.stpNew (o := .tup ws) hl
      exact k _ s io _ _ h S2 T2 (.tup (S.free hl).1 upd_same (r.grow T2.gr))
    generalize e : deref s x = d at h
    cases d with
    | tup ds =>
      have h : Qd (.tup ds) s := h
      rcases ry.deref S with q | ⟨_, _, _, _, q⟩
      · rw [e] at q
        cases q with
        | tup x1 h1 r1 => exact ⟨_, _, rfl, .inr ⟨.inl (.inl h1), k _ s io H _ h S (Stp.refl ..) (.tup x1 h1 r1)⟩⟩
      · rw [e] at q; cases q
    | lst ds =>
      obtain ⟨a, ws, e1, e2, r⟩ := ry.seqL S (.inl e)
      exact mk e1 e2 r h
    | ro ds =>
      obtain ⟨a, ws, e1, e2, r⟩ := ry.seqL S (.inr e)
      exact mk e1 e2 r h
    | _ => exact h.elim
  · exact h.elim
def oDict : DCl := fun xs s Q => match xs with
  | [x] => (match unlk (deref s x) with
    | .dK m => Q (.dK m) s
    | _ => False)
  | _ => False
theorem oc_dict : ClN K C g L (fun xs H Q => ∃ (a : Addr) (kvs : List (Key × V)), xs = [.ref a] ∧ Rd H a (.dK kvs) ∧ ∀ p, H p = none → Q (.ref p) (upd H p (.dK kvs))) oDict := by
  intro kw io O H σ sd s xs vs Qd Q S rx h k
  unfold oDict at h
  split at h
  · obtain ⟨v, rfl, ry⟩ := rx.one
    split at h
    · rename_i m e
      obtain ⟨a, ws, rfl, hs, r⟩ := ry.dK S e
      refine ⟨_, _, rfl, hs, fun l hl => ?_⟩
      obtain ⟨S2, T2, hn⟩ := S.newRes (ho := .dK ws) hl
      exact k _ s io _ l _ h S2 T2 hn upd_same (by intro _ _ z; cases z) (.dK (r.grow T2.gr))
    · exact h.elim
  · exact h.elim
/-! whole numbers in a list -/
def intsOf : List D → Option (List Int)
  | [] => some []
  | .int i :: ds => (intsOf ds).map (i :: ·)
  | _ => none
theorem RL.ints {w : Vw} : ∀ {vs : List V} {ds : List D} {ns : List Int}, RL K C w vs ds → intsOf ds = some ns → vs = ns.map V.int
  | _, _, _, .nil, h => by simp [intsOf] at h; subst h; rfl
  | _, _, _, .cons (d := d) (ds := ds) h t, e => by
    cases d with
    | int i =>
      cases h
      simp only [intsOf, Option.map_eq_some_iff] at e
      obtain ⟨ns, e1, rfl⟩ := e
      rw [RL.ints t e1]; rfl
    | _ => cases e
theorem intsOf_map (ns : List Int) : intsOf (ns.map D.int) = some ns := by
  induction ns with
  | nil => rfl
  | cons n ns ih => simp [intsOf, ih]
def oSum : DCl := fun xs s Q => match xs with
  | [x] => (match deref s x with
    | .lst ds => (match intsOf ds with | some ns => Q (.int ns.sum) s | none => False)
    | _ => False)
  | _ => False
theorem oc_sum : ClG K C g L (rSum K) oSum := by
  intro kw io O H σ sd s xs vs Qd Q S rx h k
  unfold oSum at h
  split at h
  · obtain ⟨v, rfl, ry⟩ := rx.one
    split at h
    · rename_i ds e
      split at h
      · rename_i ns e2
        obtain ⟨a, ws, rfl, hs, r⟩ := ry.lst S e
        have := r.ints e2
        subst this
        exact ⟨a, ns, rfl, .inl (.inl hs), k _ s io H _ h S (Stp.refl ..) (.int _)⟩
      · exact h.elim
    · exact h.elim
  · exact h.elim
def minL : Int → List Int → Int := List.foldl fun a b => if b < a then b else a
def maxL : Int → List Int → Int := List.foldl fun a b => if a < b then b else a
theorem minL_spec : ∀ (ns : List Int) (n : Int), (minL n ns ∈ n :: ns) ∧ ∀ y ∈ n :: ns, minL n ns ≤ y
  | [], n => ⟨by simp [minL], by simp [minL]⟩
  | m :: ns, n => by
    have ih := minL_spec ns (if m < n then m else n)
    have e : minL n (m :: ns) = minL (if m < n then m else n) ns := rfl
    rw [e]
    obtain ⟨h1, h2⟩ := ih
    refine ⟨?_, fun y hy => ?_⟩
    · rcases (List.mem_cons).1 h1 with h | h
      · rw [h]; split <;> simp
      · simp [h]
    · have hz := h2 _ List.mem_cons_self
      rcases (List.mem_cons).1 hy with rfl | hy
      · split at hz <;> split <;> omega
      · rcases (List.mem_cons).1 hy with rfl | hy
        · split at hz <;> split <;> omega
        · exact h2 y (List.mem_cons_of_mem _ hy)
theorem maxL_spec : ∀ (ns : List Int) (n : Int), (maxL n ns ∈ n :: ns) ∧ ∀ y ∈ n :: ns, y ≤ maxL n ns
  | [], n => ⟨by simp [maxL], by simp [maxL]⟩
  | m :: ns, n => by
    have ih := maxL_spec ns (if n < m then m else n)
    have e : maxL n (m :: ns) = maxL (if n < m then m else n) ns := rfl
    rw [e]
    obtain ⟨h1, h2⟩ := ih
    refine ⟨?_, fun y hy => ?_⟩
    · rcases (List.mem_cons).1 h1 with h | h
      · rw [h]; split <;> simp
      · simp [h]
    · have hz := h2 _ List.mem_cons_self
      rcases (List.mem_cons).1 hy with rfl | hy
      · split at hz <;> split <;> omega
      · rcases (List.mem_cons).1 hy with rfl | hy
        · split at hz <;> split <;> omega
        · exact h2 y (List.mem_cons_of_mem _ hy)
/-- min, max of a list of whole numbers, or of two -/
def oMin : DCl := fun xs s Q => match xs with
  | [x] => (match deref s x with
    | .lst ds => (match intsOf ds with | some (n :: ns) => Q (.int (minL n ns)) s | _ => False)
    | _ => False)
  | [.v (.int i), .v (.int j)] => Q (.int (if j < i then j else i)) s
  | _ => False
def oMax : DCl := fun xs s Q => match xs with
  | [x] => (match deref s x with
    | .lst ds => (match intsOf ds with | some (n :: ns) => Q (.int (maxL n ns)) s | _ => False)
    | _ => False)
  | [.v (.int i), .v (.int j)] => Q (.int (if j > i then j else i)) s
  | _ => False
theorem RSls.two {w : Vw} {vs : List V} {i j : D} (h : RSls K C w O vs [.v i, .v j]) : ∃ v u, vs = [v, u] ∧ RD K C w v i ∧ RD K C w u j := by
  cases h with
  | cons h t => cases t with
    | cons h2 t => cases t; cases h with
      | v h => cases h2 with
        | v h2 => exact ⟨_, _, rfl, h, h2⟩
theorem oc_min : ClG K C g L (fun xs H Q => rMin K xs H Q ∨ ∃ i j, xs = [.int i, .int j] ∧ Q (.int (if j < i then j else i)) H) oMin := by
  intro kw io O H σ sd s xs vs Qd Q S rx h k
  unfold oMin at h
  split at h
  · obtain ⟨v, rfl, ry⟩ := rx.one
    split at h
    · rename_i ds e
      split at h
      · rename_i n ns e2
        obtain ⟨a, ws, rfl, hs, r⟩ := ry.lst S e
        have := r.ints e2
        subst this
        refine .inl ⟨a, n :: ns, rfl, .inl (.inl hs), by simp, fun m hm hle => ?_⟩
        obtain ⟨h1, h2⟩ := minL_spec ns n
        have e3 : m = minL n ns := Int.le_antisymm (hle _ h1) (h2 m hm)
        rw [e3]
        exact k _ s io H _ h S (Stp.refl ..) (.int _)
      · exact h.elim
    · exact h.elim
  · obtain ⟨v, u, rfl, r1, r2⟩ := rx.two
    cases r1; cases r2
    exact .inr ⟨_, _, rfl, k _ s io H _ h S (Stp.refl ..) (.int _)⟩
  · exact h.elim
theorem oc_max : ClG K C g L (fun xs H Q => rMax K xs H Q ∨ ∃ i j, xs = [.int i, .int j] ∧ Q (.int (if j > i then j else i)) H) oMax := by
  intro kw io O H σ sd s xs vs Qd Q S rx h k
  unfold oMax at h
  split at h
  · obtain ⟨v, rfl, ry⟩ := rx.one
    split at h
    · rename_i ds e
      split at h
      · rename_i n ns e2
        obtain ⟨a, ws, rfl, hs, r⟩ := ry.lst S e
        have := r.ints e2
        subst this
        refine .inl ⟨a, n :: ns, rfl, .inl (.inl hs), by simp, fun m hm hle => ?_⟩
        obtain ⟨h1, h2⟩ := maxL_spec ns n
        have e3 : m = maxL n ns := Int.le_antisymm (h2 m hm) (hle _ h1)
        rw [e3]
        exact k _ s io H _ h S (Stp.refl ..) (.int _)
      · exact h.elim
    · exact h.elim
  · obtain ⟨v, u, rfl, r1, r2⟩ := rx.two
    cases r1; cases r2
    exact .inr ⟨_, _, rfl, k _ s io H _ h S (Stp.refl ..) (.int _)⟩
  · exact h.elim
def blsOf : List D → Option (List Bool)
  | [] => some []
  | .bl i :: ds => (blsOf ds).map (i :: ·)
  | _ => none
theorem RL.bls {w : Vw} : ∀ {vs : List V} {ds : List D} {ns : List Bool}, RL K C w vs ds → blsOf ds = some ns → vs = ns.map V.bl
  | _, _, _, .nil, h => by simp [blsOf] at h; subst h; rfl
  | _, _, _, .cons (d := d) (ds := ds) h t, e => by
    cases d with
    | bl i =>
      cases h
      simp only [blsOf, Option.map_eq_some_iff] at e
      obtain ⟨ns, e1, rfl⟩ := e
      rw [RL.bls t e1]; rfl
    | _ => cases e
theorem blsOf_map (ns : List Bool) : blsOf (ns.map D.bl) = some ns := by
  induction ns with
  | nil => rfl
  | cons n ns ih => simp [blsOf, ih]
def oBls (f : List Bool → Bool) : DCl := fun xs s Q => match xs with
  | [x] => (match deref s x with
    | .lst ds => (match blsOf ds with | some ns => Q (.bl (f ns)) s | none => False)
    | _ => False)
  | _ => False
theorem oc_bls {f : List Bool → Bool} : ClG K C g L (fun vs H Q => ∃ (a : Addr) (bs : List Bool), vs = [V.ref a] ∧ SqL K H a (bs.map V.bl) ∧ Q (.bl (f bs)) H) (oBls f) := by
  intro kw io O H σ sd s xs vs Qd Q S rx h k
  unfold oBls at h
  split at h
  · obtain ⟨v, rfl, ry⟩ := rx.one
    split at h
    · rename_i ds e
      split at h
      · rename_i ns e2
        obtain ⟨a, ws, rfl, hs, r⟩ := ry.lst S e
        have := r.bls e2
        subst this
        exact ⟨a, ns, rfl, .inl (.inl hs), k _ s io H _ h S (Stp.refl ..) (.bl _)⟩
      · exact h.elim
    · exact h.elim
  · exact h.elim
end
/-! ### slices -/
abbrev DPt := DSt → Store → (Option Int → Store → Prop) → Prop
def ptNo : DPt := fun _ s Q => Q none s
def ptE (e : DE) : DPt := fun σ s Q => e σ s fun d s' => match d with
  | .int i => Q (some i) s'
  | _ => False
def LPt (K : PySem.W.Frag) (C : Tbl) (g : Gw) (L : Lk) (e : DPt) : TO := fun σ H Q => ∃ kw io O sd s Qd, StOk K C g L kw io O H σ sd s ∧ e sd s Qd ∧
  ∀ b s' io' H', Qd b s' → StOk K C g L kw io' O H' σ sd s' → Stp g io O H io' O H' → Q b H'
def cut {α : Type} (xs : List α) (lo hi : Option Int) : List α := (xs.drop (HT.sIx xs.length 0 lo)).take (HT.sIx xs.length xs.length hi - HT.sIx xs.length 0 lo)
/-- of a list: a new one | of a tuple, a text -/
def oSl (x : Sl) (lo hi : Option Int) (s : Store) (Q : DK) : Prop := match deref s x with
  | .tup ds => Q (.tup (cut ds lo hi)) s
  | .str z => z.length ≤ lim ∧ Q (.str (cutS z lo hi)) s
  | _ => False
def oSlL (x : Sl) (lo hi : Option Int) (s : Store) (Q : DK) : Prop := match deref s x with
  | .lst ds => Q (.lst (cut ds lo hi)) s
  | .ro ds => Q (.lst (cut ds lo hi)) s
  | _ => False
def dSl (o : Sl → Option Int → Option Int → Store → DK → Prop) (e : DP) (lo hi : DPt) : DE := fun σ s Q => e σ s fun x s1 => lo σ s1 fun l s2 => hi σ s2 fun h s3 => o x l h s3 Q
section
variable {X : Cx} {C : Tbl} {g : Gw} {L : Lk} {pos p p2 : Pos} {e : Expr} {es : List Expr} {de : DE} {dp : DP} {lo hi : Option Expr} {dl dh : DPt}
theorem gpt_no : PO X none (LPt X.K C g L ptNo) := ⟨fun pins s σ H Q I ⟨kw, io, O, sd, s', Qd, S, h, k⟩ => (po_none (X := X)).run pins s σ H Q I (k none s' io H h S (Stp.refl ..))⟩
theorem gpt_e (h : PE X e (LE X.K C g L de)) : PO X (some e) (LPt X.K C g L (ptE de)) := ⟨fun pins s σ H Q I ⟨kw, io, O, sd, s', Qd, S, q, k⟩ => (po_some h).run pins s σ H Q I ⟨kw, io, O, sd, s', _, S, q, fun d s1 io1 H1 v q1 S1 T1 r => by
  cases r with
  | int i => exact ⟨i, rfl, k _ s1 io1 H1 q1 S1 T1⟩
  | _ => exact False.elim q1⟩⟩
theorem cutV_eq (xs : List V) (lo hi : Option Int) : cutV xs lo hi = cut xs lo hi := rfl
theorem RL.cut {K : PySem.W.Frag} {w : Vw} {vs : List V} {ds : List D} (r : RL K C w vs ds) (lo hi : Option Int) : RL K C w (G.cut vs lo hi) (G.cut ds lo hi) := by
  unfold G.cut
  rw [r.length]
  exact (r.drop _).take _
theorem cut_whole {α : Type} {xs : List α} {lo hi : Option Int} (h : HT.sIx xs.length 0 lo = 0 ∧ HT.sIx xs.length xs.length hi = xs.length) : G.cut xs lo hi = xs := by
  unfold G.cut
  rw [h.1, h.2]
  simp
theorem l_sl {r : V → Option Int → Option Int → Hp → VK → Prop} {o : Sl → Option Int → Option Int → Store → DK → Prop} {K : PySem.W.Frag}
    (h : ∀ kw io O H σ sd s x v l u Qd Q, StOk K C g L kw io O H σ sd s → RSl K C (vw g io O H) O v x → o x l u s Qd → (∀ d s' io' H' z, Qd d s' → StOk K C g L kw io' O H' σ sd s' → Stp g io O H io' O H' → RD K C (vw g io' O H') z d → Q z H') → r v l u H Q)
    (σ : St) (H : Hp) (Q : VK) (q : LE K C g L (dSl o dp dl dh) σ H Q) : tSl r (LP K C g L dp) (LPt K C g L dl) (LPt K C g L dh) σ H Q := by
  obtain ⟨kw, io, O, sd, s, Qd, S, q, k⟩ := q
  refine ⟨kw, io, O, sd, s, _, S, q, fun x s1 io1 H1 v q1 S1 T1 r1 => ⟨kw, io1, O, sd, s1, _, S1, q1, fun l s2 io2 H2 q2 S2 T2 => ⟨kw, io2, O, sd, s2, _, S2, q2, fun u s3 io3 H3 q3 S3 T3 => ?_⟩⟩⟩
  exact h kw io3 O H3 σ sd s3 x v l u Qd Q S3 ((r1.grow T2.gr T2.ow).grow T3.gr T3.ow) q3 fun d s' io' H' z q4 S4 T4 => k d s' io' H' z q4 S4 (((T1.trans T2).trans T3).trans T4)
theorem l_slN {r : V → Option Int → Option Int → Hp → VK → Prop} {o : Sl → Option Int → Option Int → Store → DK → Prop} {K : PySem.W.Frag}
    (h : ∀ kw io O H σ sd s x v l u Qd Q, StOk K C g L kw io O H σ sd s → RSl K C (vw g io O H) O v x → o x l u s Qd → (∀ d s' io' H' p ho, Qd d s' → StOk K C g L kw io' (ores O p) H' σ sd s' → Stp g io O H io' (ores O p) H' → ¬ O p → H' p = some ho → (∀ od u, ho ≠ .frz od u) → RC K C (vw g io' (ores O p) H') ho d → Q (.ref p) H') → r v l u H Q)
    (σ : St) (H : Hp) (Q : VK) (q : LO K C g L (dSl o dp dl dh) σ H Q) : tSl r (LP K C g L dp) (LPt K C g L dl) (LPt K C g L dh) σ H Q := by
  obtain ⟨kw, io, O, sd, s, Qd, S, q, k⟩ := q
  refine ⟨kw, io, O, sd, s, _, S, q, fun x s1 io1 H1 v q1 S1 T1 r1 => ⟨kw, io1, O, sd, s1, _, S1, q1, fun l s2 io2 H2 q2 S2 T2 => ⟨kw, io2, O, sd, s2, _, S2, q2, fun u s3 io3 H3 q3 S3 T3 => ?_⟩⟩⟩
  exact h kw io3 O H3 σ sd s3 x v l u Qd Q S3 ((r1.grow T2.gr T2.ow).grow T3.gr T3.ow) q3 fun d s' io' H' p ho q4 S4 T4 => k d s' io' H' p ho q4 S4 (((T1.trans T2).trans T3).trans T4)
abbrev rSlTS (K : PySem.W.Frag) : V → Option Int → Option Int → Hp → VK → Prop := fun x lo hi H Q => rSlA K x lo hi H Q ∨ rSlS x lo hi H Q
theorem g_sl (he : PE X e (LP X.K C g L dp)) (hl : PO X lo (LPt X.K C g L dl)) (hu : PO X hi (LPt X.K C g L dh)) : PE X (.Subscript e (.Slice lo hi none p2) pos) (LE X.K C g L (dSl oSl dp dl dh)) :=
  (pe_slice (r := rSlTS X.K) (sl_tupA.or sl_str) he hl hu).imp (l_sl fun kw io O H σ sd s x v l u Qd Q S rx h k => by
    unfold oSl at h
    split at h
    · rename_i ds e
      obtain ⟨a, ws, rfl, hs, r⟩ := rx.tup S e
      refine .inl ⟨_, _, rfl, .inl (.inl hs), fun hw => ?_, fun hw p hp => ?_⟩
      · have hw' : HT.sIx ds.length 0 l = 0 ∧ HT.sIx ds.length ds.length u = ds.length := by rw [← r.length]; exact hw
        rw [cut_whole hw'] at h
        rcases rx.deref S with q | ⟨_, _, _, _, q⟩
        · rw [e] at q; exact k _ s io H _ h S (Stp.refl ..) q
        · rw [e] at q; cases q
      · obtain ⟨S2, T2⟩ := S.stpNew (o := .tup (cutV ws l u)) hp
        exact k _ s io _ _ h S2 T2 (.tup (S.free hp).1 upd_same ((r.cut l u).grow T2.gr))
    · rename_i z e
      have q := rx.deref S
      rw [e] at q
      rcases q with q | ⟨_, _, _, _, q⟩
      · cases q
        exact .inr ⟨_, rfl, lim_le h.1, k _ s io H _ h.2 S (Stp.refl ..) (.str _)⟩
      · cases q
    · exact h.elim)
theorem g_slL (he : PE X e (LP X.K C g L dp)) (hl : PO X lo (LPt X.K C g L dl)) (hu : PO X hi (LPt X.K C g L dh)) : PE X (.Subscript e (.Slice lo hi none p2) pos) (LO X.K C g L (dSl oSlL dp dl dh)) :=
  (pe_slice sl_list he hl hu).imp (l_slN fun kw io O H σ sd s x v l u Qd Q S rx h k => by
    have go : ∀ ds, (deref s x = .lst ds ∨ deref s x = .ro ds) → Qd (.lst (cut ds l u)) s → rSlL X.K v l u H Q := fun ds e h => by
      obtain ⟨a, ws, rfl, hs, r⟩ := rx.seqL S e
      refine ⟨_, _, rfl, hs, fun p hp => ?_⟩
      obtain ⟨S2, T2, hn⟩ := S.newRes (ho := .lst (cutV ws l u)) hp
      exact k _ s io _ p _ h S2 T2 hn upd_same (by intro _ _ z; cases z) (.lst ((r.cut l u).grow T2.gr))
    unfold oSlL at h
    split at h
    · rename_i ds e; exact go ds (.inl e) h
    · rename_i ds e; exact go ds (.inr e) h
    · exact h.elim)
/-- xs[::-1] -/
def dRev (e : DP) : DE := fun σ s Q => e σ s fun x s1 => match deref s1 x with
  | .lst ds => Q (.lst ds.reverse) s1
  | .ro ds => Q (.lst ds.reverse) s1
  | _ => False
theorem RL.reverse {K : PySem.W.Frag} {w : Vw} : ∀ {vs : List V} {ds : List D}, RL K C w vs ds → RL K C w vs.reverse ds.reverse
  | _, _, .nil => .nil
  | _, _, .cons h t => by simp only [List.reverse_cons]; exact (RL.reverse t).append (.cons h .nil)
theorem g_rev {k : Nat} {p1 p2 p3 : Pos} (he : PE X e (LP X.K C g L dp)) : PE X (.Subscript e (.Slice none none (some (.UnaryOp .USub (.Constant (.int 1) k p1) p2)) p3) pos) (LO X.K C g L (dRev dp)) := (pe_revL he).imp fun σ H Q ⟨kw, io, O, sd, s, Qd, S, q, k⟩ => by
  refine ⟨kw, io, O, sd, s, _, S, q, fun x s1 io1 H1 v q1 S1 T1 r1 => ?_⟩
  have go : ∀ ds, (deref s1 x = .lst ds ∨ deref s1 x = .ro ds) → Qd (.lst ds.reverse) s1 → ∃ a xs, v = .ref a ∧ SqL X.K H1 a xs ∧ ∀ p, H1 p = none → Q (.ref p) (upd H1 p (.lst xs.reverse)) := fun ds e h => by
    obtain ⟨a, ws, rfl, hs, r⟩ := r1.seqL S1 e
    refine ⟨_, _, rfl, hs, fun p hp => ?_⟩
    obtain ⟨S2, T2, hn⟩ := S1.newRes (ho := .lst ws.reverse) hp
    exact k _ s1 io1 _ p _ h S2 (T1.trans T2) hn upd_same (by intro _ _ z; cases z) (.lst (r.reverse.grow T2.gr))
  split at q1
  · rename_i ds e; exact go ds (.inl e) q1
  · rename_i ds e; exact go ds (.inr e) q1
  · exact q1.elim
/-- - and ~ of whole numbers -/
def dUn (f : Int → Int) (e : DE) : DE := fun σ s Q => e σ s fun x s1 => match x with
  | .int i => Q (.int (f i)) s1
  | _ => False
theorem g_un {op : UnaryOp} {f : Int → Int} (hr : UnR X (unaryOp op) (rU fun i => .int (f i))) (he : PE X e (LE X.K C g L de)) : PE X (.UnaryOp op e pos) (LE X.K C g L (dUn f de)) := (pe_un hr he).imp fun σ H Q ⟨kw, io, O, sd, s, Qd, S, q, k⟩ =>
  ⟨kw, io, O, sd, s, _, S, q, fun x s1 io1 H1 v q1 S1 T1 r1 => by
    cases r1 with
    | int i => exact ⟨i, rfl, k _ s1 io1 H1 _ q1 S1 T1 (.int _)⟩
    | _ => exact False.elim q1⟩
end
end G
namespace L2
open PySem Spec PyProof.Rows
variable {X : Cx}
def rInK (neg : Bool) : R2 := fun x y H Q => ∃ a o, y = .ref a ∧ DGet H a x o ∧ Q (.bl (neg ^^ o.isSome)) H
theorem op_inK (hu : X.A.units + 1 < cLine) : OpR X (compareOp .In) (rInK false) := by
  intro pins t σ H x y v u Q I rx ry h
  obtain ⟨a, o, rfl, g, q⟩ := h
  cases ry
  exact d_in hu I g rx fun s' I' => ⟨.bl o.isSome, H, I', rfl, by rw [Bool.false_xor] at q; exact q⟩
theorem op_notInK (hu : X.A.units + 1 < cLine) : OpR X (compareOp .NotIn) (rInK true) := by
  intro pins t σ H x y v u Q I rx ry h
  obtain ⟨a, o, rfl, g, q⟩ := h
  cases ry
  exact d_notIn hu I g rx fun s' I' => ⟨.bl (!o.isSome), H, I', rfl, by rw [Bool.true_xor] at q; exact q⟩
def rInC (neg : Bool) : R2 := fun x y H Q => ∃ (c : Nat) (z : Str), x = .str ⟨#[c]⟩ ∧ y = .str z ∧ Q (.bl (neg ^^ decide (c ∈ z.cps.toList))) H
theorem op_inC : OpR X (compareOp .In) (rInC false) := by
  intro pins t σ H x y v u Q I rx ry h
  obtain ⟨c, z, e1, e2, q⟩ := h
  exact op_in_sign pins t σ H x y v u Q I rx ry ⟨c, z, e1, e2, by rw [Bool.false_xor] at q; exact q⟩
theorem op_notInC : OpR X (compareOp .NotIn) (rInC true) := by
  intro pins t σ H x y v u Q I rx ry h
  obtain ⟨c, z, e1, e2, q⟩ := h
  exact op_notIn_sign pins t σ H x y v u Q I rx ry ⟨c, z, e1, e2, by rw [Bool.true_xor] at q; exact q⟩
def rInL (K : PySem.W.Frag) (neg : Bool) : R2 := fun x y H Q => ∃ d ds, Dp K H x d ∧ Dp K H y (.list ds) ∧ SeqAt.shaped d = true ∧ SeqAt.shaped (.list ds) = true ∧ Q (.bl (neg ^^ ds.any fun z => PyData.eqv z d)) H
theorem op_inL (hu : X.A.units + 65 < cLine) : OpR X (compareOp .In) (rInL X.K false) := by
  intro pins t σ H x y v u Q I rx ry h
  obtain ⟨d, ds, e1, e2, e3, e4, q⟩ := h
  exact op_inD hu pins t σ H x y v u Q I rx ry ⟨d, ds, e1, e2, e3, e4, by rw [Bool.false_xor] at q; exact q⟩
theorem op_notInL (hu : X.A.units + 65 < cLine) : OpR X (compareOp .NotIn) (rInL X.K true) := by
  intro pins t σ H x y v u Q I rx ry h
  obtain ⟨d, ds, e1, e2, e3, e4, q⟩ := h
  exact op_notInD hu pins t σ H x y v u Q I rx ry ⟨d, ds, e1, e2, e3, e4, by rw [Bool.true_xor] at q; exact q⟩
def rInA (K : PySem.W.Frag) (neg : Bool) : R2 := fun x y H Q => rInL K neg x y H Q ∨ rInK neg x y H Q ∨ rInC neg x y H Q ∨ rIn K neg x y H Q
theorem room65 {k : Nat} (hr : Room k X.A) : X.A.units + 65 < cLine := by have := hr.un; omega
theorem op_inA {k : Nat} (hr : Room k X.A) : OpR X (compareOp .In) (rInA X.K false) := (op_inL (room65 hr)).or ((op_inK (hu_of hr)).or (op_inC.or op_in_seq))
theorem op_notInA {k : Nat} (hr : Room k X.A) : OpR X (compareOp .NotIn) (rInA X.K true) := (op_notInL (room65 hr)).or ((op_notInK (hu_of hr)).or (op_notInC.or op_notIn_seq))
end L2
namespace G
open PySem L2
section
variable {K : PySem.W.Frag} {C : Tbl} {g : Gw} {L : Lk}
theorem pyDs_any (f : PyData → Bool) : ∀ ds : List D, (pyDs ds).any f = ds.any fun d => f (pyD d)
  | [] => rfl
  | d :: ds => by
    show (f (pyD d) || (pyDs ds).any f) = _
    rw [pyDs_any f ds]; rfl
def oIn (neg : Bool) : DOp := fun x y s Q => match unlk (deref s y) with
  | .lst ds => okE 30 (deref s x) = true ∧ okEs 30 ds = true ∧ Q (.bl (neg ^^ ds.any fun z => eqD z (deref s x))) s
  | .ro ds => okE 30 (deref s x) = true ∧ okEs 30 ds = true ∧ Q (.bl (neg ^^ ds.any fun z => eqD z (deref s x))) s
  | .tup ds => flatD (deref s x) = true ∧ ds.all flatD = true ∧ Q (.bl (neg ^^ ds.any fun z => eqD z (deref s x))) s
  | .dK m => (match keySl x with | some k => Q (.bl (neg ^^ (look m k).isSome)) s | none => False)
  | .dT m => (match tkeySl x with | some k => Q (.bl (neg ^^ (look m k).isSome)) s | none => False)
  | .str z => (match x with | .v (.str a) => (match a.cps.toList with | [c] => Q (.bl (neg ^^ decide (c ∈ z.cps.toList))) s | _ => False) | _ => False)
  | _ => False
theorem okE_pyD_ne {d : D} {n : Nat} (h : okE n d = true) : ∀ m, okE (n + m) d = true → True := fun _ _ => trivial
theorem RL.flats {w : Vw} : ∀ {vs : List V} {ds : List D}, RL K C w vs ds → ds.all flatD = true → vs.all flatV = true ∧ ∀ x d w', RD K C w' x d → flatD d = true → vs.any (fun y => eqV y x) = ds.any fun z => eqD z d
  | _, _, .nil, _ => ⟨rfl, fun _ _ _ _ _ => rfl⟩
  | _, _, .cons (v := v) (d := e) h t, hf => by
    simp only [Bool.and_eq_true, List.all_cons] at hf
    obtain ⟨h1, h2⟩ := RL.flats t hf.2
    obtain ⟨f1, _, _⟩ := h.flat hf.1
    refine ⟨by simp only [List.all_cons, f1, h1, Bool.and_self], fun x d w' rx hd => ?_⟩
    simp only [List.any_cons]
    rw [h2 x d w' rx hd]
    congr 1
    have hf1 := hf.1
    cases h <;> first | (cases hf1; done) | (cases rx <;> first | (cases hd; done) | rfl)
theorem og_in (neg : Bool) : OpG K C g L (rInA K neg) (oIn neg) := by
  intro kw io O H σ sd s x y v u Qd Q S rx ry h k
  unfold oIn at h
  have lcase : ∀ ds, (deref s y = .lst ds ∨ deref s y = .ro ds) → okE 30 (deref s x) = true → okEs 30 ds = true → Qd (.bl (neg ^^ ds.any fun z => eqD z (deref s x))) s → rInA K neg v u H Q := fun ds e c1 c2 h => by
    have c3 : okE 31 (deref s y) = true := by rcases e with e | e <;> (rw [e]; exact c2)
    have e3 : pyD (deref s y) = .list (pyDs ds) := by rcases e with e | e <;> (rw [e]; rfl)
    have d2 := ry.dp S c3
    have sh := okE_shaped c3 (by decide)
    rw [e3] at d2 sh
    refine .inl ⟨_, _, rx.dp S c1, d2, okE_shaped c1 (by decide), sh, ?_⟩
    rw [pyDs_any]
    exact k _ s io H _ h S (Stp.refl ..) (.bl _)
  split at h
  · rename_i ds e
    exact lcase ds (.inl (ry.unlk S e (by intro _ z; cases z) (by intro _ z; cases z))) h.1 h.2.1 h.2.2
  · rename_i ds e
    exact lcase ds (.inr (ry.unlk S e (by intro _ z; cases z) (by intro _ z; cases z))) h.1 h.2.1 h.2.2
  · rename_i ds e
    obtain ⟨a, ws, rfl, hs, r⟩ := ry.tup S (ry.unlk S e (by intro _ z; cases z) (by intro _ z; cases z))
    obtain ⟨f1, f2⟩ := r.flats h.2.1
    have rx' : RD K C (vw g io O H) v (deref s x) := by
      rcases rx.deref S with q | ⟨_, _, _, _, q⟩
      · exact q
      · exfalso
        have hf := h.1
        generalize deref s x = d at hf q
        cases q <;> cases hf
    obtain ⟨g1, _, _⟩ := rx'.flat h.1
    refine .inr (.inr (.inr ⟨_, _, rfl, .inr (.inl (.inl hs)), g1, f1, ?_⟩))
    have e2 : (if neg = true then !inV v ws else inV v ws) = (neg ^^ ds.any fun z => eqD z (deref s x)) := by
      unfold inV
      rw [f2 v _ _ rx' h.1]
      cases neg <;> simp
    rw [e2]
    exact k _ s io H _ h.2.2 S (Stp.refl ..) (.bl _)
  · rename_i m e
    split at h
    · rename_i kk ek
      obtain ⟨a, ws, rfl, hs, r⟩ := ry.dK S e
      refine .inr (.inl ⟨_, _, rfl, .inl ⟨ws, kk, hs, rx.key ek, rfl⟩, ?_⟩)
      rcases r.rm.look kk with ⟨z1, z2⟩ | ⟨z, d', z1, z2, rz⟩
      · rw [z1] at h; rw [z2]; exact k _ s io H _ h S (Stp.refl ..) (.bl _)
      · rw [z1] at h; rw [z2]; exact k _ s io H _ h S (Stp.refl ..) (.bl _)
    · exact h.elim
  · rename_i m e
    split at h
    · rename_i kk ek
      obtain ⟨a, ws, rfl, hs, r⟩ := ry.dT S e
      obtain ⟨b, rfl, _, hb⟩ := rx.tkey ek
      refine .inr (.inl ⟨_, _, rfl, .inr ⟨ws, kk, b, hs, rfl, hb, rfl⟩, ?_⟩)
      rcases r.rm.look kk with ⟨z1, z2⟩ | ⟨z, d', z1, z2, rz⟩
      · rw [z1] at h; rw [z2]; exact k _ s io H _ h S (Stp.refl ..) (.bl _)
      · rw [z1] at h; rw [z2]; exact k _ s io H _ h S (Stp.refl ..) (.bl _)
    · exact h.elim
  · rename_i z e
    split at h
    · rename_i a
      split at h
      · rename_i c ec
        have r1 := ry.sc S e rfl (w := vw g io O H) (O := O)
        cases r1
        cases rx with
        | v rx =>
          cases rx
          have ea : a = ⟨#[c]⟩ := by
            cases a with
            | mk cps => congr 1; apply Array.ext'; exact ec
          exact .inr (.inr (.inl ⟨c, z, by rw [ea], rfl, k _ s io H _ h S (Stp.refl ..) (.bl _)⟩))
      · exact h.elim
    · exact h.elim
  · exact h.elim
/-! ### what changes -/
inductive Pl where
  | own (i : Nat) | cell (n : Nat)
/-- where a name's container stands -/
def plN (σ : DSt) (i : Nat) : Option Pl := match σ[i]? with
  | some (some (.o _)) => some (.own i)
  | some (some (.v (.ref n))) => some (.cell n)
  | _ => none
def plV : D → Option Pl
  | .ref n => some (.cell n)
  | _ => none
def Pl.get (σ : DSt) (s : Store) : Pl → Option D
  | .own i => match σ[i]? with
    | some (some (.o d)) => some d
    | _ => none
  | .cell n => s[n]?
def Pl.setS (σ : DSt) (d : D) : Pl → DSt
  | .own i => σ.set i (some (.o d))
  | .cell _ => σ
def Pl.setC (s : Store) (d : D) : Pl → Store
  | .own _ => s
  | .cell n => s.set n d
section
variable {kw : Vw} {io : List Addr} {O : Addr → Prop} {H : Hp} {σ : St} {sd : DSt} {s : Store}
/-- a place's address -/
def PlAt (σ : St) (io : List Addr) (a : Addr) : Pl → Prop
  | .own i => σ[i]? = some (some (.ref a))
  | .cell n => io[n]? = some a
theorem Pl.at_ok (S : StOk K C g L kw io O H σ sd s) {p : Pl} {d : D} {a : Addr} (h : p.get sd s = some d) (ha : PlAt σ io a p) (nl : ∀ z, d ≠ .lk z) : ∃ ho, H a = some ho ∧ RC K C (vw g io O H) ho d ∧ (∀ od u, ho ≠ .frz od u) ∧
    ∀ ho' d', (∀ od u, ho' ≠ .frz od u) → RC K C (vw g io O H) ho' d' → StOk K C g L kw io O (upd H a ho') σ (p.setS sd d') (p.setC s d') ∧ Grow (vw g io O H) (vw g io O (upd H a ho')) := by
  cases p with
  | own i =>
    have h : (match sd[i]? with | some (some (.o d)) => some d | _ => none) = some d := h
    split at h
    · rename_i d0 e
      cases h
      obtain ⟨b, ho, e1, e2, oa, nf, r⟩ := S.own_at e
      have ha : σ[i]? = some (some (.ref a)) := ha
      rw [ha] at e1; cases e1
      exact ⟨ho, e2, r, nf, fun ho' d' nf' r' => S.writeOwn e ha nf' r'⟩
    · cases h
  | cell n =>
    have h : s[n]? = some d := h
    have ha : io[n]? = some a := ha
    obtain ⟨b, ho, e1, e2, r⟩ := S.ce.get n d h
    have e1 : io[n]? = some b := e1
    rw [ha] at e1; cases e1
    have nf : ∀ od u, ho ≠ .frz od u := fun od u z => by
      rw [z] at r
      cases r with
      | lk h r => exact nl _ rfl
    exact ⟨ho, e2, r, nf, fun ho' d' nf' r' => S.write ha e2 nf r'⟩
end
/-- what a method does to a container: new content, result -/
abbrev DMu := D → List D → Store → (D → D → Prop) → Prop
def MuG (K : PySem.W.Frag) (C : Tbl) (r : V → List V → Hp → VK → Prop) (f : DMu) : Prop :=
  ∀ (w : Vw) a ho c vs ds s Kd Q, w.H a = some ho → RC K C w ho c → RL K C w vs ds → (∀ z, c ≠ .lk z) → f c ds s Kd →
    (∀ c' x' ho' v, Kd c' x' → (∀ od u, ho' ≠ .frz od u) → RC K C w ho' c' → RD K C w v x' → Q v (upd w.H a ho')) → r (.ref a) vs w.H Q
/-- what kind of container -/
def tyC (T : String) : D → Bool
  | .lst _ => T == "list"
  | .dK _ => T == "dict"
  | .dT _ => T == "dict"
  | _ => false
theorem tyC_ty {w : Vw} {T : String} {c : D} {a : Addr} {ho : HO} (h : tyC T c = true) (r : RC K C w ho c) (e : w.H a = some ho) : tyV K T (.ref a) w.H := by
  cases r with
  | lst r => have : T = "list" := by simpa [tyC] using h
             exact .inl ⟨this, _, .inl (.inl e)⟩
  | dK r => have : T = "dict" := by simpa [tyC] using h
            exact .inr (.inr (.inl ⟨this, .inl ⟨_, e⟩⟩))
  | dT r => have : T = "dict" := by simpa [tyC] using h
            exact .inr (.inr (.inl ⟨this, .inr ⟨_, e⟩⟩))
  | _ => cases h
theorem tyC_lk {T : String} {c : D} (h : tyC T c = true) : ∀ z, c ≠ .lk z := fun z e => by rw [e] at h; cases h
/-- o.m(..) of a cell -/
def dMuE (T : String) (f : DMu) (o : DE) (a : DA) : DE := fun σ s Q => o σ s fun x s1 => match x with
  | .ref n => (match s1[n]? with
    | some c0 => tyC T c0 = true ∧ a σ s1 fun ds s2 => (match s2[n]? with
      | some c => tyC T c = true ∧ f c ds s2 fun c' y => Q y (s2.set n c')
      | none => False)
    | none => False)
  | _ => False
/-- x.m(..), x an own slot: as a statement; y = x.m(..) -/
def dMuO (T : String) (f : DMu) (i : Nat) (a : DA) : DS := fun D σ s => match σ[i]? with
  | some (some (.o c)) => tyC T c = true ∧ a σ s fun ds s1 => f c ds s1 fun c' _ => D.nx (σ.set i (some (.o c'))) s1
  | _ => False
def dMuOS (T : String) (f : DMu) (i j : Nat) (a : DA) : DS := fun D σ s => match σ[i]? with
  | some (some (.o c)) => tyC T c = true ∧ a σ s fun ds s1 => f c ds s1 fun c' y => D.nx ((σ.set i (some (.o c'))).set j (some (.v y))) s1
  | _ => False
theorem l_muE {T : String} {f : DMu} {r : V → List V → Hp → VK → Prop} {o : DE} {a : DA} (hf : MuG K C r f) (σ : St) (H : Hp) (Q : VK) (h : LE K C g L (dMuE T f o a) σ H Q) : tBM K T r (LE K C g L o) (LA K C g L a) σ H Q := by
  obtain ⟨kw, io, O, sd, s, Qd, S, h, k⟩ := h
  refine ⟨kw, io, O, sd, s, _, S, h, fun x s1 io1 H1 v q1 S1 T1 r1 => ?_⟩
  cases r1 with
  | @ref n b hb =>
    have q1 : (match s1[n]? with
      | some c0 => tyC T c0 = true ∧ a sd s1 fun ds s2 => (match s2[n]? with
        | some c => tyC T c = true ∧ f c ds s2 fun c' y => Qd y (s2.set n c')
        | none => False)
      | none => False) := q1
    split at q1
    · rename_i c0 e0
      obtain ⟨ty, q1⟩ := q1
      obtain ⟨ho, e1, rc, nf, _⟩ := Pl.at_ok S1 (p := .cell n) (d := c0) e0 hb (tyC_lk ty)
      refine ⟨tyC_ty (w := vw g io1 O H1) ty rc e1, kw, io1, O, sd, s1, _, S1, q1, fun ds s2 io2 H2 vs q2 S2 T2 r2 => ?_⟩
      split at q2
      · rename_i c e2
        obtain ⟨ty2, q2⟩ := q2
        have hb2 : io2[n]? = some b := T2.gr.get hb
        obtain ⟨ho2, e3, rc2, nf2, wr⟩ := Pl.at_ok S2 (p := .cell n) (d := c) e2 hb2 (tyC_lk ty2)
        refine hf (vw g io2 O H2) b ho2 c vs ds s2 _ Q e3 rc2 r2 (tyC_lk ty2) q2 fun c' x' ho' z q3 nf' rc' rz => ?_
        obtain ⟨S3, G3⟩ := wr ho' c' nf' rc'
        refine k x' _ io2 _ z q3 S3 ((T1.trans T2).trans ⟨G3, fun y hy => ?_⟩) (rz.grow G3)
        have : y ≠ b := fun e => S2.dj y hy (by rw [e]; exact List.mem_of_getElem? hb2)
        rw [upd_ne this]; rfl
      · exact q2.elim
    · exact q1.elim
  | _ => exact False.elim q1
theorem l_muO {T : String} {f : DMu} {r : V → List V → Hp → VK → Prop} {i : Nat} {a : DA} (hf : MuG K C r f) (Tn : Ends) (σ : St) (H : Hp) (h : LS K C g L (dMuO T f i a) Tn σ H) : tDrop (tBM K T r (tVar i) (LA K C g L a)) Tn σ H := by
  obtain ⟨kw, io, O, sd, s, D, S, h, E⟩ := h
  unfold dMuO at h
  split at h
  · rename_i c e
    obtain ⟨ty, h⟩ := h
    obtain ⟨b, ho, e1, e2, oa, nf, rc⟩ := S.own_at e
    refine ⟨_, e1, tyC_ty (w := vw g io O H) ty rc e2, kw, io, O, sd, s, _, S, h, fun ds s2 io2 H2 vs q2 S2 T2 r2 => ?_⟩
    obtain ⟨ho2, e3, rc2, nf2, wr⟩ := Pl.at_ok S2 (p := .own i) (d := c) (by show (match sd[i]? with | some (some (.o d)) => some d | _ => none) = some c; rw [e]) (show σ[i]? = _ from e1) (tyC_lk ty)
    refine hf (vw g io2 O H2) b ho2 c vs ds s2 _ _ e3 rc2 r2 (tyC_lk ty) q2 fun c' x' ho' z q3 nf' rc' rz => ?_
    obtain ⟨S3, G3⟩ := wr ho' c' nf' rc'
    exact E.nx io2 O _ σ _ s2 q3 S3
  · exact h.elim
theorem l_muOS {T : String} {f : DMu} {r : V → List V → Hp → VK → Prop} {i j : Nat} {a : DA} (hf : MuG K C r f) (Tn : Ends) (σ : St) (H : Hp) (h : LS K C g L (dMuOS T f i j a) Tn σ H) : tAsg (tBM K T r (tVar i) (LA K C g L a)) (gName j) Tn σ H := by
  obtain ⟨kw, io, O, sd, s, D, S, h, E⟩ := h
  unfold dMuOS at h
  split at h
  · rename_i c e
    obtain ⟨ty, h⟩ := h
    obtain ⟨b, ho, e1, e2, oa, nf, rc⟩ := S.own_at e
    refine ⟨_, e1, tyC_ty (w := vw g io O H) ty rc e2, kw, io, O, sd, s, _, S, h, fun ds s2 io2 H2 vs q2 S2 T2 r2 => ?_⟩
    obtain ⟨ho2, e3, rc2, nf2, wr⟩ := Pl.at_ok S2 (p := .own i) (d := c) (by show (match sd[i]? with | some (some (.o d)) => some d | _ => none) = some c; rw [e]) (show σ[i]? = _ from e1) (tyC_lk ty)
    refine hf (vw g io2 O H2) b ho2 c vs ds s2 _ _ e3 rc2 r2 (tyC_lk ty) q2 fun c' x' ho' z q3 nf' rc' rz => ?_
    obtain ⟨S3, G3⟩ := wr ho' c' nf' rc'
    exact E.nx io2 O _ _ _ s2 q3 (S3.set (rz.grow G3))
  · exact h.elim
/-! the methods -/
def mApp : DMu := fun c ds _ Q => match c, ds with
  | .lst xs, [d] => xs.length < lim ∧ Q (.lst (xs ++ [d])) .non
  | _, _ => False
theorem mu_app : MuG K C rAppend mApp := fun w a ho c vs ds s Kd Q e rc r nl h k => by
  unfold mApp at h
  split at h
  · cases rc with
    | lst rc => cases r with
      | cons r t =>
        cases t
        exact ⟨_, _, _, rfl, rfl, e, by rw [rc.length]; exact lim_lt h.1, k _ _ _ _ h.2 (by intro _ _ z; cases z) (.lst (rc.append (.cons r .nil))) .non⟩
  · exact h.elim
def mPop : DMu := fun c ds _ Q => match c, ds with
  | .lst xs, [] => (match xs[xs.length - 1]? with | some d => Q (.lst xs.dropLast) d | none => False)
  | _, _ => False
theorem RL.dropLast {w : Vw} {vs : List V} {ds : List D} (r : RL K C w vs ds) : RL K C w vs.dropLast ds.dropLast := by
  rw [List.dropLast_eq_take, List.dropLast_eq_take, r.length]
  exact r.take _
theorem mu_pop : MuG K C rPop mPop := fun w a ho c vs ds s Kd Q e rc r nl h k => by
  unfold mPop at h
  split at h
  · cases rc with
    | lst rc => cases r with
      | nil =>
        split at h
        · rename_i d ed
          obtain ⟨v, e1, r1⟩ := rc.get ed
          exact ⟨_, _, v, rfl, rfl, e, by rw [rc.length]; exact e1, k _ _ _ _ h (by intro _ _ z; cases z) (.lst rc.dropLast) r1⟩
        · exact h.elim
  · exact h.elim
/-! x[k] = v -/
def setIt : D → D → D → Option D
  | .lst xs, .int i, v => (ixN xs.length i).map fun j => .lst (xs.set j v)
  | .dK m, k, v => if m.length < lim then (keyOf k).map fun q => .dK (put m q v) else none
  | .dT m, k, v => if m.length < lim then (tkeyOf k).map fun q => .dT (put m q v) else none
  | _, _, _ => none
def rSetA : TSet := fun o i v H Q => rSetL o i v H Q ∨ ∃ a H', o = .ref a ∧ DPut H a i v H' ∧ Q H'
theorem setIt_ok {w : Vw} {c k x c' : D} {a : Addr} {ho : HO} {vk vx : V} (h : setIt c k x = some c') (e : w.H a = some ho) (rc : RC K C w ho c) (rk : RD K C w vk k) (rx : RD K C w vx x) :
    ∃ ho', (∀ od u, ho' ≠ .frz od u) ∧ RC K C w ho' c' ∧ ∀ Q : Hp → Prop, Q (upd w.H a ho') → rSetA (.ref a) vk vx w.H Q := by
  cases rc with
  | lst rc =>
    rename_i xs ds
    cases rk with
    | int i =>
      simp only [setIt, Option.map_eq_some_iff] at h
      obtain ⟨j, h1, rfl⟩ := h
      exact ⟨.lst (xs.set j vx), (by intro _ _ z; cases z), .lst (RL.set rx j rc), fun Q q => .inl ⟨_, _, _, _, rfl, rfl, e, by rw [rc.length]; exact h1, q⟩⟩
    | _ => cases h
  | dK rc =>
    rename_i xs ds
    simp only [setIt] at h
    split at h
    · rename_i hl
      rw [Option.map_eq_some_iff] at h
      obtain ⟨q, h1, rfl⟩ := h
      exact ⟨.dK (putK xs q vx), (by intro _ _ z; cases z), .dK (rc.rm.put q rx).rk, fun Q z => .inr ⟨_, _, rfl, .inl ⟨_, q, e, rk.key h1, by rw [rc.rm.length]; exact lim_lt hl, rfl⟩, z⟩⟩
    · cases h
  | dT rc =>
    rename_i xs ds
    simp only [setIt] at h
    split at h
    · rename_i hl
      rw [Option.map_eq_some_iff] at h
      obtain ⟨q, h1, rfl⟩ := h
      obtain ⟨b, rfl, _, hb⟩ := rk.tkey h1
      exact ⟨.dT (putK xs q vx), (by intro _ _ z; cases z), .dT (rc.rm.put q rx).rt, fun Q z => .inr ⟨_, _, rfl, .inr ⟨_, q, b, e, rfl, hb, by rw [rc.rm.length]; exact lim_lt hl, rfl⟩, z⟩⟩
    · cases h
  | ins r => cases h
  | lk _ _ => cases h
def dStO (i : Nat) (k v : DE) : DS := fun D σ s => match σ[i]? with
  | some (some (.o c)) => v σ s fun x s1 => k σ s1 fun q s2 => (match setIt c q x with
    | some c' => D.nx (σ.set i (some (.o c'))) s2
    | none => False)
  | _ => False
def dStE (o k v : DE) : DS := fun D σ s => v σ s fun x s1 => o σ s1 fun p s2 => k σ s2 fun q s3 => match p with
  | .ref n => (match s3[n]? with
    | some c => (match setIt c q x with
      | some c' => D.nx σ (s3.set n c')
      | none => False)
    | none => False)
  | _ => False
theorem setIt_lk {c q x c' : D} (h : setIt c q x = some c') : ∀ z, c ≠ .lk z := fun z e => by rw [e] at h; cases h
theorem l_stO {i : Nat} {k v : DE} (T : Ends) (σ : St) (H : Hp) (h : LS K C g L (dStO i k v) T σ H) : tAsg (LE K C g L v) (gSub (tVar i) (LE K C g L k) rSetA) T σ H := by
  obtain ⟨kw, io, O, sd, s, D, S, h, E⟩ := h
  unfold dStO at h
  split at h
  · rename_i c ec
    obtain ⟨b, ho0, eb, _, ob, _, _⟩ := S.own_at ec
    refine ⟨kw, io, O, sd, s, _, S, h, fun x s1 io1 H1 vx q1 S1 T1 r1 => ⟨_, eb, kw, io1, O, sd, s1, _, S1, q1, fun q s2 io2 H2 vk q2 S2 T2 r2 => ?_⟩⟩
    split at q2
    · rename_i c' e'
      obtain ⟨ho, e3, rc, nf, wr⟩ := Pl.at_ok S2 (p := .own i) (d := c) (by show (match sd[i]? with | some (some (.o d)) => some d | _ => none) = some c; rw [ec]) (show σ[i]? = _ from eb) (setIt_lk e')
      obtain ⟨ho', nf', rc', go⟩ := setIt_ok (w := vw g io2 O H2) e' e3 rc r2 (r1.grow T2.gr)
      obtain ⟨S3, G3⟩ := wr ho' c' nf' rc'
      exact go _ (E.nx io2 O _ σ _ s2 q2 S3)
    · exact q2.elim
  · exact h.elim
theorem l_stE {o k v : DE} (T : Ends) (σ : St) (H : Hp) (h : LS K C g L (dStE o k v) T σ H) : tAsg (LE K C g L v) (gSub (LE K C g L o) (LE K C g L k) rSetA) T σ H := by
  obtain ⟨kw, io, O, sd, s, D, S, h, E⟩ := h
  refine ⟨kw, io, O, sd, s, _, S, h, fun x s1 io1 H1 vx q1 S1 T1 r1 => ⟨kw, io1, O, sd, s1, _, S1, q1, fun p s2 io2 H2 vp q2 S2 T2 rp => ⟨kw, io2, O, sd, s2, _, S2, q2, fun q s3 io3 H3 vk q3 S3 T3 r3 => ?_⟩⟩⟩
  split at q3
  · cases rp with
    | @ref _ b hb =>
      split at q3
      · rename_i c ec
        split at q3
        · rename_i c' e'
          have hb3 := T3.gr.get hb
          obtain ⟨ho, e3, rc, nf, wr⟩ := Pl.at_ok S3 (p := .cell _) (d := c) ec hb3 (setIt_lk e')
          obtain ⟨ho', nf', rc', go⟩ := setIt_ok (w := vw g io3 O H3) e' e3 rc r3 ((r1.grow T2.gr).grow T3.gr)
          obtain ⟨S4, G4⟩ := wr ho' c' nf' rc'
          exact go _ (E.nx io3 O _ σ _ _ q3 S4)
        · exact q3.elim
      · exact q3.elim
  · exact q3.elim
end
section
variable {X : Cx} {C : Tbl} {g : Gw} {L : Lk} {pos pos' : Pos}
theorem set_dict {k : Nat} (hr : Room k X.A) : PSet X rSetA := fun pins s σ H o i v ov iv u Q I ro ri rv h => by
  rcases h with h | ⟨a, H', rfl, dp, q⟩
  · exact set_list pins s σ H o i v ov iv u Q I ro ri rv h
  · cases ro
    exact d_setItem (hu_of hr) I dp ri rv fun s' I' => ⟨H', I', q⟩
theorem gs_muO {T : String} {f : DMu} {r : V → List V → Hp → VK → Prop} {i : Nat} {a : DA} {st : Stmt} (hf : MuG X.K C r f) (h : PS X st (tDrop (tBM X.K T r (tVar i) (LA X.K C g L a)))) : PS X st (LS X.K C g L (dMuO T f i a)) := h.imp fun Tn σ H q => l_muO hf Tn σ H q
theorem gs_muOS {T : String} {f : DMu} {r : V → List V → Hp → VK → Prop} {i j : Nat} {a : DA} {st : Stmt} (hf : MuG X.K C r f) (h : PS X st (tAsg (tBM X.K T r (tVar i) (LA X.K C g L a)) (gName j))) : PS X st (LS X.K C g L (dMuOS T f i j a)) := h.imp fun Tn σ H q => l_muOS hf Tn σ H q
theorem g_muE {T : String} {f : DMu} {r : V → List V → Hp → VK → Prop} {o : DE} {a : DA} {e : Expr} (hf : MuG X.K C r f) (h : PE X e (tBM X.K T r (LE X.K C g L o) (LA X.K C g L a))) : PE X e (LE X.K C g L (dMuE T f o a)) := h.imp fun σ H Q q => l_muE hf σ H Q q
theorem gs_stO {i : Nat} {k v : DE} {st : Stmt} (h : PS X st (tAsg (LE X.K C g L v) (gSub (tVar i) (LE X.K C g L k) rSetA))) : PS X st (LS X.K C g L (dStO i k v)) := h.imp fun Tn σ H q => l_stO Tn σ H q
theorem gs_stE {o k v : DE} {st : Stmt} (h : PS X st (tAsg (LE X.K C g L v) (gSub (LE X.K C g L o) (LE X.K C g L k) rSetA))) : PS X st (LS X.K C g L (dStE o k v)) := h.imp fun Tn σ H q => l_stE Tn σ H q
/-! ### a dict's get -/
def dGet1 (d k : DE) : DE := fun σ s Q => d σ s fun x s1 => k σ s1 fun q s2 => match unlk (deref s2 (.v x)) with
  | .dK m => (match keyOf q with | some z => Q ((look m z).getD .non) s2 | none => False)
  | .dT m => (match tkeyOf q with | some z => Q ((look m z).getD .non) s2 | none => False)
  | _ => False
end
end G
namespace G
open PySem L2
section
variable {K : PySem.W.Frag} {C : Tbl} {g : Gw} {L : Lk}
/-! ### * where one factor is small, or both are bounded -/
def CMu (i j : Int) : Prop := CMul i j ∨ CMulW i j
def oMulA : DOp := oI CMu fun i j => .int (i * j)
abbrev rMulA : R2 := fun x y H Q => rI CMul (fun i j => .int (i * j)) x y H Q ∨ rI CMulW (fun i j => .int (i * j)) x y H Q
theorem op_mulA {X : Cx} : OpR X (binaryOp .Mult) rMulA := op_mul.or op_mulW
theorem og_mulA : OpG K C g L rMulA oMulA := by
  intro kw io O H σ sd s x y v u Qd Q S rx ry h k
  unfold oMulA oI at h
  split at h
  · cases rx with
    | v rx => cases rx; cases ry with
      | v ry =>
        cases ry
        rcases h with ⟨h1 | h1, h2⟩
        · exact .inl ⟨_, _, rfl, rfl, h1, k _ s io H _ h2 S (Stp.refl ..) (.int _)⟩
        · exact .inr ⟨_, _, rfl, rfl, h1, k _ s io H _ h2 S (Stp.refl ..) (.int _)⟩
  · exact h.elim
/-! ### + of all kinds, lists frozen -/
def oAddL : DOp := fun x y s Q => match deref s x, deref s y with
  | .int i, .int j => Q (.int (i + j)) s
  | .str a, .str b => a.length + b.length ≤ lim ∧ Q (.str (a ++ b)) s
  | .tup a, .tup b => a.length + b.length ≤ lim ∧ Q (.tup (a ++ b)) s
  | .lst a, .lst b => a.length + b.length ≤ lim ∧ Q (.lst (a ++ b)) s
  | _, _ => False
abbrev rAddL (K : PySem.W.Frag) : R2 := fun x y H Q => rAddA K x y H Q ∨ rCat x y H Q
theorem op_addL {X : Cx} : OpR X (binaryOp .Add) (rAddL X.K) := op_addA.or op_cat
theorem deref_v {s : Store} {x : Sl} {d : D} {kw : Vw} {io : List Addr} {O : Addr → Prop} {H : Hp} {σ : St} {sd : DSt} (S : StOk K C g L kw io O H σ sd s) {v : V} (r : RSl K C (vw g io O H) O v x) (h : deref s x = d)
    (hn : (∃ i, d = .int i) ∨ (∃ z, d = .str z) ∨ ∃ l, d = .tup l) : RD K C (vw g io O H) v d := by
  rcases r.deref S with q | ⟨_, _, _, _, q⟩
  · rw [h] at q; exact q
  · rw [h] at q
    rcases hn with ⟨_, rfl⟩ | ⟨_, rfl⟩ | ⟨_, rfl⟩ <;> cases q
theorem og_addL : OpG K C g L (rAddL K) oAddL := by
  intro kw io O H σ sd s x y v u Qd Q S rx ry h k
  unfold oAddL at h
  split at h
  · rename_i i j e1 e2
    exact .inl (og_add kw io O H σ sd s (.v (.int i)) (.v (.int j)) v u Qd Q S (.v (deref_v S rx e1 (.inl ⟨_, rfl⟩))) (.v (deref_v S ry e2 (.inl ⟨_, rfl⟩))) h k)
  · rename_i i j e1 e2
    exact .inl (og_add kw io O H σ sd s (.v (.str i)) (.v (.str j)) v u Qd Q S (.v (deref_v S rx e1 (.inr (.inl ⟨_, rfl⟩)))) (.v (deref_v S ry e2 (.inr (.inl ⟨_, rfl⟩)))) h k)
  · rename_i i j e1 e2
    exact .inl (og_add kw io O H σ sd s (.v (.tup i)) (.v (.tup j)) v u Qd Q S (.v (deref_v S rx e1 (.inr (.inr ⟨_, rfl⟩)))) (.v (deref_v S ry e2 (.inr (.inr ⟨_, rfl⟩)))) h k)
  · rename_i a b e1 e2
    obtain ⟨p1, vs1, rfl, h1, r1⟩ := rx.lst S e1
    obtain ⟨p2, vs2, rfl, h2, r2⟩ := ry.lst S e2
    refine .inr ⟨_, _, _, _, rfl, rfl, h1, h2, by rw [r1.length, r2.length]; exact lim_le h.1, fun p hp => ?_⟩
    obtain ⟨S2, T2⟩ := S.stpNew (o := .lst (vs1 ++ vs2)) hp
    exact k _ s io _ _ h.2 S2 T2 (.lst (S.free hp).1 upd_same ((r1.append r2).grow T2.gr))
  · exact h.elim
end
/-- a slice of any kind, frozen -/
def oSlA (x : Sl) (lo hi : Option Int) (s : Store) (Q : DK) : Prop := match deref s x with
  | .lst ds => Q (.lst (cut ds lo hi)) s
  | .ro ds => Q (.lst (cut ds lo hi)) s
  | .tup ds => Q (.tup (cut ds lo hi)) s
  | .str z => z.length ≤ lim ∧ Q (.str (cutS z lo hi)) s
  | _ => False
section
variable {X : Cx} {C : Tbl} {g : Gw} {L : Lk} {pos p p2 cpos apos : Pos} {e : Expr} {es : List Expr} {de : DE} {dp : DP} {lo hi : Option Expr} {dl dh : DPt}
theorem g_slA (he : PE X e (LP X.K C g L dp)) (hl : PO X lo (LPt X.K C g L dl)) (hu : PO X hi (LPt X.K C g L dh)) : PE X (.Subscript e (.Slice lo hi none p2) pos) (LE X.K C g L (dSl oSlA dp dl dh)) :=
  (pe_slice (r := fun x lo hi H Q => rSlL X.K x lo hi H Q ∨ rSlTS X.K x lo hi H Q) (sl_list.or (sl_tupA.or sl_str)) he hl hu).imp (l_sl fun kw io O H σ sd s x v l u Qd Q S rx h k => by
    have go : ∀ ds, (deref s x = .lst ds ∨ deref s x = .ro ds) → Qd (.lst (cut ds l u)) s → rSlL X.K v l u H Q := fun ds e h => by
      obtain ⟨a, ws, rfl, hs, r⟩ := rx.seqL S e
      refine ⟨_, _, rfl, hs, fun p hp => ?_⟩
      obtain ⟨S2, T2⟩ := S.stpNew (o := .lst (cutV ws l u)) hp
      exact k _ s io _ _ h S2 T2 (.lst (S.free hp).1 upd_same ((r.cut l u).grow T2.gr))
    unfold oSlA at h
    split at h
    · rename_i ds e; exact .inl (go ds (.inl e) h)
    · rename_i ds e; exact .inl (go ds (.inr e) h)
    · rename_i ds e
      obtain ⟨a, ws, rfl, hs, r⟩ := rx.tup S e
      refine .inr (.inl ⟨_, _, rfl, .inl (.inl hs), fun hw => ?_, fun hw p hp => ?_⟩)
      · have hw' : HT.sIx ds.length 0 l = 0 ∧ HT.sIx ds.length ds.length u = ds.length := by rw [← r.length]; exact hw
        rw [cut_whole hw'] at h
        exact k _ s io H _ h S (Stp.refl ..) (deref_v S rx e (.inr (.inr ⟨_, rfl⟩)))
      · obtain ⟨S2, T2⟩ := S.stpNew (o := .tup (cutV ws l u)) hp
        exact k _ s io _ _ h S2 T2 (.tup (S.free hp).1 upd_same ((r.cut l u).grow T2.gr))
    · rename_i z e
      have q := deref_v S rx e (.inr (.inl ⟨_, rfl⟩))
      cases q
      exact .inr (.inr ⟨_, rfl, lim_le h.1, k _ s io H _ h.2 S (Stp.refl ..) (.str _)⟩)
    · exact h.elim)
theorem g_newK : PE X (.Dict [] [] pos) (LO X.K C g L (dC (.dK []))) := pe_dnewK.imp fun σ H Q ⟨kw, io, O, sd, s, Qd, S, h, k⟩ p hp => by
  obtain ⟨S2, T2, hn⟩ := S.newRes (ho := .dK []) hp
  exact k _ s io _ p _ h S2 T2 hn upd_same (by intro _ _ z; cases z) (.dK .nil)
theorem g_newT : PE X (.Dict [] [] pos) (LO X.K C g L (dC (.dT []))) := pe_dnewT.imp fun σ H Q ⟨kw, io, O, sd, s, Qd, S, h, k⟩ p hp => by
  obtain ⟨S2, T2, hn⟩ := S.newRes (ho := .dT []) hp
  exact k _ s io _ p _ h S2 T2 hn upd_same (by intro _ _ z; cases z) (.dT .nil)
/-! a dict's get: the dict is looked at behind the key and the default -/
def isDc : D → Bool
  | .dK _ => true
  | .dT _ => true
  | _ => false
def dGet2 (d : DP) (k x : DE) : DE := fun σ s Q => d σ s fun o s1 => isDc (unlk (deref s1 o)) = true ∧ k σ s1 fun q s2 => x σ s2 fun z s3 => match unlk (deref s3 o) with
  | .dK m => (match keyOf q with | some t => Q ((look m t).getD z) s3 | none => False)
  | .dT m => (match tkeyOf q with | some t => Q ((look m t).getD z) s3 | none => False)
  | _ => False
theorem RSl.isD {K : PySem.W.Frag} {kw : Vw} {io : List Addr} {O : Addr → Prop} {H : Hp} {σ : St} {sd : DSt} {s : Store} (S : StOk K C g L kw io O H σ sd s) {v : V} {x : Sl} (r : RSl K C (vw g io O H) O v x) (h : isDc (G.unlk (G.deref s x)) = true) : ∃ a, v = .ref a ∧ IsD H a := by
  cases e : G.unlk (G.deref s x) with
  | dK m => obtain ⟨a, ws, rfl, hs, _⟩ := r.dK S e; exact ⟨a, rfl, .inl ⟨_, hs⟩⟩
  | dT m => obtain ⟨a, ws, rfl, hs, _⟩ := r.dT S e; exact ⟨a, rfl, .inr ⟨_, hs⟩⟩
  | _ => rw [e] at h; cases h
theorem g_get2 {o f : Expr} {k : Nat} {dk dx : DE} (hr : Room k X.A) (ho : PE X o (LP X.K C g L dp)) (he : PE X e (LE X.K C g L dk)) (hf : PE X f (LE X.K C g L dx)) (m : M2 X o "get" apos e f cpos) : PE X (.Call (.Attribute o "get" apos) [e, f] [] cpos) (LE X.K C g L (dGet2 dp dk dx)) :=
  (pe_dget2 (hu_of hr) ho he hf m).imp fun σ H Q ⟨kw, io, O, sd, s, Qd, S, h, k⟩ => by
  refine ⟨kw, io, O, sd, s, _, S, h, fun x s1 io1 H1 v q1 S1 T1 r1 => ?_⟩
  obtain ⟨a, rfl, hd⟩ := r1.isD S1 q1.1
  refine ⟨a, rfl, hd, kw, io1, O, sd, s1, _, S1, q1.2, fun y s2 io2 H2 vy q2 S2 T2 r2 => ⟨kw, io2, O, sd, s2, _, S2, q2, fun z s3 io3 H3 vz q3 S3 T3 r3 => ?_⟩⟩
  have rx := (r1.grow T2.gr T2.ow).grow T3.gr T3.ow
  have ry := r2.grow T3.gr
  split at q3
  · rename_i mm e1
    split at q3
    · rename_i t et
      obtain ⟨b, ws, eb, hs, r⟩ := rx.dK S3 e1
      cases eb
      refine ⟨_, .inl ⟨ws, t, hs, ry.key et, rfl⟩, ?_⟩
      rcases r.rm.look t with ⟨z1, z2⟩ | ⟨z, d', z1, z2, rz⟩
      · rw [z1] at q3; rw [z2]; exact k _ s3 io3 H3 _ q3 S3 ((T1.trans T2).trans T3) r3
      · rw [z1] at q3; rw [z2]; exact k _ s3 io3 H3 _ q3 S3 ((T1.trans T2).trans T3) rz
    · exact q3.elim
  · rename_i mm e1
    split at q3
    · rename_i t et
      obtain ⟨b, ws, eb, hs, r⟩ := rx.dT S3 e1
      cases eb
      obtain ⟨c, rfl, _, hc⟩ := ry.tkey et
      refine ⟨_, .inr ⟨ws, t, c, hs, rfl, hc, rfl⟩, ?_⟩
      rcases r.rm.look t with ⟨z1, z2⟩ | ⟨z, d', z1, z2, rz⟩
      · rw [z1] at q3; rw [z2]; exact k _ s3 io3 H3 _ q3 S3 ((T1.trans T2).trans T3) r3
      · rw [z1] at q3; rw [z2]; exact k _ s3 io3 H3 _ q3 S3 ((T1.trans T2).trans T3) rz
    · exact q3.elim
  · exact q3.elim
end
/-! ### the law's start -/
theorem RL.of_ints {K : PySem.W.Frag} {C : Tbl} {w : Vw} : ∀ ns : List Int, RL K C w (ns.map V.int) (ns.map D.int)
  | [] => .nil
  | n :: ns => .cons (.int n) (RL.of_ints ns)
theorem law_start {K : PySem.W.Frag} {C : Tbl} {sp : DSp} {H : Hp} {a : Addr} {ns : List Int} (h : sp [.ro (ns.map D.int)] [] (fun r _ => r = .v (.bl true)) fun _ _ => False) (hS : SqL K H a (ns.map V.int)) (hT : C.tb = [] := by rfl) : LF K C sp [.ref a] H (fun v _ => v = .bl true) fun _ _ _ => False := by
  have rl : ∀ w, RL K C w (ns.map V.int) (ns.map D.int) := fun w => RL.of_ints ns
  refine ⟨fun _ => False, [], [], [.ro (ns.map D.int)], _, _, ⟨List.nodup_nil, fun _ z => z.elim, fun _ z => z.elim, fun _ z => z.elim, ⟨[], rfl, fun _ z => (nomatch z)⟩, fun a o h _ _ => .inl ⟨h, fun _ z => (nomatch z)⟩, fun _ _ _ h => h, fun _ z => (nomatch z), ⟨rfl, fun n d e => by simp at e⟩, ⟨rfl, fun i sl e => by simp at e, fun i j d d' a e => by simp at e⟩, Grow.refl _, ⟨Grow.top _, [], rfl, fun _ z => (nomatch z)⟩, ⟨fun p hp => (by rw [hT] at hp; cases hp), fun p hp => (by rw [hT] at hp; cases hp), fun _ _ z => z.elim, fun _ _ z => z.elim⟩⟩, .cons (.ro ?_ (rl _)) .nil, h, fun r s' io' H' v P q S rr => ?_, fun x s' io' H' cls d q => q.elim⟩
  · rcases hS with hS | hS
    · exact .inl ⟨fun z => z.elim id fun z => z.elim (fun z => nomatch z) id, hS⟩
    · exact .inr fun _ => .inr hS
  · subst q
    cases rr with
    | v r => cases r; rfl
end G
namespace G
open PySem L2
/-! ### running a data term: what unfolds -/
theorem startD_eq (n : Nat) (ds : List D) : startD n ds = ds.map (fun d => some (.v d)) ++ List.replicate (n - ds.length) none := rfl
end G
namespace G
open PySem L2
/-- a statement, and what is behind it, kept shut -/
theorem seqI {t u : DS} {D : DEnds} {σ : DSt} {s : Store} (h : ∀ N, N = u D → t { D with nx := N } σ s) : dSeq t u D σ s := h _ rfl
theorem borN (a b : Nat) : PySem.Builtin.bitOr (a : Int) (b : Int) = ((a ||| b : Nat) : Int) := by
  have e : ∀ n : Nat, PySem.Builtin.bitNot (n : Int) = -(n : Int) - 1 := fun n => by unfold PySem.Builtin.bitNot; omega
  unfold PySem.Builtin.bitOr PySem.Builtin.bitAnd
  rw [e, e]
  have h1 : ¬ (0 ≤ -(a : Int) - 1) := by omega
  have h2 : ¬ (0 ≤ -(b : Int) - 1) := by omega
  simp only [h1, h2, decide_false]
  have e2 : ∀ n : Nat, (PySem.Builtin.bitNot (-(n : Int) - 1)).toNat = n := fun n => by unfold PySem.Builtin.bitNot; omega
  rw [e2, e2]
  unfold PySem.Builtin.bitNot
  omega
theorem bandN (a b : Nat) : PySem.Builtin.bitAnd (a : Int) (b : Int) = ((a &&& b : Nat) : Int) := PySem.W.os_band a b
theorem bandN1 (a : Nat) : PySem.Builtin.bitAnd (a : Int) 1 = ((a &&& 1 : Nat) : Int) := PySem.W.os_band a 1
theorem borN1 (b : Nat) : PySem.Builtin.bitOr 0 (b : Int) = (b : Int) := by have := borN 0 b; simpa using this
theorem shlN1 (b : Nat) : (1 : Int) * (2 : Int) ^ ((b : Int).toNat) = ((1 <<< b : Nat) : Int) := by
  rw [Nat.shiftLeft_eq]; simp
theorem shrN (a b : Nat) : (a : Int) / 2 ^ ((b : Int).toNat) = ((a >>> b : Nat) : Int) := by
  rw [Nat.shiftRight_eq_div_pow]; simp
theorem cpow1 {b : Nat} (h : b ≤ 1000000) : CPow 1 (b : Int) := ⟨by omega, by omega, by decide⟩
/-! walking a mapped list -/
theorem lc_filterMap {src : Store → Prop} {dg : DTg} {dt : DT} {de : DE} {σ : DSt} {s : Store} {Q : List D → Store → Prop} (f : D → Option D) (hs : src s) : ∀ (ds acc : List D), acc.length + ds.length < lim →
    (∀ d ∈ ds, ∀ (Ky : D → Store → Prop) (Kn : Store → Prop), (match f d with | some y => Ky y s | none => Kn s) → dg d σ s fun σ' s1 => dt σ' s1 fun b s2 => if b = true then de σ' s2 Ky else Kn s2) → Q (acc ++ ds.filterMap f) s → lcD src dg dt de σ ds acc s Q
  | [], acc, _, _, q => ⟨hs, by simpa using q⟩
  | d :: r, acc, hl, h, q => by
    have hl' : acc.length + (r.length + 1) < lim := hl
    refine ⟨hs, h d List.mem_cons_self _ _ ?_⟩
    cases e : f d with
    | some y =>
      refine ⟨by omega, lc_filterMap f hs r _ (by simp; omega) (fun d hd => h d (List.mem_cons_of_mem _ hd)) ?_⟩
      simpa [e] using q
    | none =>
      refine lc_filterMap f hs r _ (by omega) (fun d hd => h d (List.mem_cons_of_mem _ hd)) ?_
      simpa [e] using q
theorem lc_map {src : Store → Prop} {dg : DTg} {de : DE} {σ : DSt} {s : Store} {Q : List D → Store → Prop} (f : D → D) (hs : src s) (ds acc : List D) (hl : acc.length + ds.length < lim)
    (h : ∀ d ∈ ds, ∀ (K : D → Store → Prop), K (f d) s → dg d σ s fun σ' s1 => de σ' s1 K) (q : Q (acc ++ ds.map f) s) : lcD src dg dYes de σ ds acc s Q := by
  refine lc_filterMap (fun d => some (f d)) hs ds acc hl (fun d hd Ky Kn k => ?_) (by simpa using q)
  have := h d hd Ky k
  unfold dYes
  simpa using this
theorem atI_nat {α : Type} {xs : List α} {k : Nat} {d : α} (h : xs[k]? = some d) : atI xs (k : Int) = some d := by
  have c := (List.getElem?_eq_some_iff.mp h).1
  have e : ixN xs.length (k : Int) = some k := by
    unfold ixN
    simp only [show (0 : Int) ≤ k by omega, show (k : Int) < xs.length by omega, if_true]
    simp
  unfold atI
  rw [e]
  exact h
theorem oIx_lst {xs : List D} {k : Nat} {d : D} {s : Store} {Q : DK} (c : xs[k]? = some d) (q : Q d s) : oIx (.v (.lst xs)) (.v (.int k)) s Q := by
  show optK (atI xs k) Q s
  rw [atI_nat c]
  exact q
theorem oIx_lstI {xs : List D} {i : Int} {d : D} {s : Store} {Q : DK} (h : 0 ≤ i) (c : xs[i.toNat]? = some d) (q : Q d s) : oIx (.v (.lst xs)) (.v (.int i)) s Q := by
  rw [show i = ((i.toNat : Nat) : Int) by omega]
  exact oIx_lst c q
theorem oIx_ro {ns : List Int} {k : Nat} {s : Store} {Q : DK} (c : k < ns.length) (q : Q (.int ns[k]) s) : oIx (.v (.ro (ns.map D.int))) (.v (.int k)) s Q := by
  show optK (atI (ns.map D.int) k) Q s
  rw [atI_nat (d := .int ns[k]) (by simp [c])]
  exact q
theorem cut_map {α β : Type} (f : α → β) (xs : List α) (lo hi : Option Int) : cut (xs.map f) lo hi = (cut xs lo hi).map f := by
  unfold cut
  rw [List.length_map, List.map_take, List.map_drop]
theorem cut_len {α : Type} (xs : List α) (lo hi : Option Int) : (cut xs lo hi).length ≤ xs.length := by
  unfold cut
  simp only [List.length_take, List.length_drop]
  omega
theorem lc_mapTo {src : Store → Prop} {dg : DTg} {de : DE} {σ : DSt} {s : Store} {Q : List D → Store → Prop} {α : Type} (g : α → D) (f : α → D) (hs : src s) (ds : List α) {r : List D} (e : ds.map f = r) (hl : ds.length < lim)
    (h : ∀ a ∈ ds, ∀ (K : D → Store → Prop), K (f a) s → dg (g a) σ s fun σ' s1 => de σ' s1 K) (q : Q r s) : lcD src dg dYes de σ (ds.map g) [] s Q := by
  have go : ∀ (ds : List α) (acc : List D), acc.length + ds.length < lim → (∀ a ∈ ds, ∀ (K : D → Store → Prop), K (f a) s → dg (g a) σ s fun σ' s1 => de σ' s1 K) → Q (acc ++ ds.map f) s → lcD src dg dYes de σ (ds.map g) acc s Q := by
    intro ds
    induction ds with
    | nil => intro acc _ _ q; exact ⟨hs, by simpa using q⟩
    | cons d r ih =>
      intro acc hl h q
      have hl' : acc.length + (r.length + 1) < lim := hl
      refine ⟨hs, ?_⟩
      have h1 := h d List.mem_cons_self (fun y s3 => acc.length < lim ∧ lcD src dg dYes de σ (r.map g) (acc ++ [y]) s3 Q) ⟨by omega, ih _ (by simp; omega) (fun d hd => h d (List.mem_cons_of_mem _ hd)) (by simpa using q)⟩
      exact h1
  exact go ds [] (by simpa using hl) h (by simpa [e] using q)
/-! equality of data -/
def eqDs (a b : List D) : Bool := PyData.eqvAll (pyDs a) (pyDs b)
theorem eqD_int (i j : Int) : eqD (.int i) (.int j) = decide (i = j) := by
  unfold eqD
  simp only [pyD, PyData.eqv]
  by_cases h : i = j <;> simp [h]
theorem eqD_str (i j : Str) : eqD (.str i) (.str j) = decide (i = j) := by
  unfold eqD
  simp only [pyD, PyData.eqv]
  by_cases h : i = j <;> simp [h]
theorem eqD_lst (a b : List D) : eqD (.lst a) (.lst b) = eqDs a b := by
  unfold eqD eqDs
  simp only [pyD, PyData.eqv]
theorem eqD_tup (a b : List D) : eqD (.tup a) (.tup b) = eqDs a b := by
  unfold eqD eqDs
  simp only [pyD, PyData.eqv]
theorem eqDs_nil : eqDs [] [] = true := by simp [eqDs, pyDs, PyData.eqvAll]
theorem eqDs_nc (b : D) (bs : List D) : eqDs [] (b :: bs) = false := by simp [eqDs, pyDs, PyData.eqvAll]
theorem eqDs_cn (b : D) (bs : List D) : eqDs (b :: bs) [] = false := by simp [eqDs, pyDs, PyData.eqvAll]
theorem eqDs_cc (a b : D) (as bs : List D) : eqDs (a :: as) (b :: bs) = (eqD a b && eqDs as bs) := by simp [eqDs, eqD, pyDs, PyData.eqvAll]
theorem eqDs_map {α : Type} [DecidableEq α] {f : α → D} (h : ∀ a b, eqD (f a) (f b) = decide (a = b)) : ∀ xs ys : List α, eqDs (xs.map f) (ys.map f) = decide (xs = ys)
  | [], [] => by simp [eqDs_nil]
  | [], y :: ys => by simp [eqDs_nc]
  | x :: xs, [] => by simp [eqDs_cn]
  | x :: xs, y :: ys => by
    rw [List.map_cons, List.map_cons, eqDs_cc, h, eqDs_map h xs ys]
    by_cases a : x = y <;> by_cases b : xs = ys <;> simp [a, b]
theorem okEs_map {α : Type} {n : Nat} {f : α → D} : ∀ {xs : List α}, (∀ x ∈ xs, okE n (f x) = true) → okEs n (xs.map f) = true
  | [], _ => by cases n <;> rfl
  | x :: xs, h => by
    have h1 := h x List.mem_cons_self
    have h2 := okEs_map (n := n) (f := f) (xs := xs) fun y hy => h y (List.mem_cons_of_mem _ hy)
    have : okEs n ((x :: xs).map f) = (okE n (f x) && okEs n (xs.map f)) := by cases n <;> rfl
    rw [this, h1, h2]; rfl
theorem okE_int (n : Nat) (i : Int) : okE n (.int i) = true := by cases n <;> rfl
theorem oEq_lst {neg : Bool} {a b : List D} {s : Store} {Q : DK} (h1 : okEs 39 a = true) (h2 : okEs 39 b = true) (q : Q (.bl (neg ^^ eqDs a b)) s) : oEq neg (.v (.lst a)) (.v (.lst b)) s Q := by
  refine ⟨h1, h2, ?_⟩
  show Q (.bl (neg ^^ eqD (.lst a) (.lst b))) s
  rw [eqD_lst]
  exact q
theorem any_map_int (xs : List Int) (i : Int) : ((xs.map D.int).any fun z => eqD z (.int i)) = decide (i ∈ xs) := by
  induction xs with
  | nil => simp
  | cons x xs ih =>
    rw [List.map_cons, List.any_cons, ih, eqD_int]
    by_cases h : x = i
    · simp [h]
    · have : ¬ i = x := fun z => h z.symm
      simp [h, this]
theorem oIn_ints {neg : Bool} {xs : List Int} {i : Int} {s : Store} {Q : DK} (q : Q (.bl (neg ^^ decide (i ∈ xs))) s) : oIn neg (.v (.int i)) (.v (.lst (xs.map D.int))) s Q := by
  refine ⟨rfl, okEs_map fun x _ => okE_int _ _, ?_⟩
  show Q (.bl (neg ^^ ((xs.map D.int).any fun z => eqD z (.int i)))) s
  rw [any_map_int]
  exact q
theorem any_map_nat (xs : List Nat) (i : Nat) : ((xs.map fun n : Nat => D.int n).any fun z => eqD z (.int i)) = decide (i ∈ xs) := by
  induction xs with
  | nil => simp
  | cons x xs ih =>
    rw [List.map_cons, List.any_cons, ih, eqD_int]
    by_cases h : x = i
    · simp [h]
    · have : ¬ i = x := fun z => h z.symm
      have h2 : ¬ (x : Int) = (i : Int) := fun z => h (by omega)
      simp [h2, this]
theorem oIn_nats {neg : Bool} {xs : List Nat} {i : Nat} {s : Store} {Q : DK} (q : Q (.bl (neg ^^ decide (i ∈ xs))) s) : oIn neg (.v (.int i)) (.v (.lst (xs.map fun n : Nat => D.int n))) s Q := by
  refine ⟨rfl, okEs_map fun x _ => okE_int _ _, ?_⟩
  show Q (.bl (neg ^^ ((xs.map fun n : Nat => D.int n).any fun z => eqD z (.int i)))) s
  rw [any_map_nat]
  exact q
theorem eqDs_ints (xs ys : List Int) : eqDs (xs.map D.int) (ys.map D.int) = decide (xs = ys) := eqDs_map eqD_int xs ys
theorem eqDs_nats (xs ys : List Nat) : eqDs (xs.map fun n : Nat => D.int n) (ys.map fun n : Nat => D.int n) = decide (xs = ys) := eqDs_map (fun a b => by
  rw [eqD_int, decide_eq_decide]; omega) xs ys
theorem oEq_nats {neg : Bool} {xs ys : List Nat} {s : Store} {Q : DK} (q : Q (.bl (neg ^^ decide (xs = ys))) s) : oEq neg (.v (.lst (xs.map fun n : Nat => D.int n))) (.v (.lst (ys.map fun n : Nat => D.int n))) s Q := by
  refine oEq_lst (okEs_map fun x _ => okE_int _ _) (okEs_map fun x _ => okE_int _ _) ?_
  rw [eqDs_nats]
  exact q
theorem getc {α : Type} (s : List α) (d : α) : (s ++ [d])[s.length]? = some d := List.getElem?_concat_length
theorem setc {α : Type} (s : List α) (d e : α) : (s ++ [d]).set s.length e = s ++ [e] := by simp
theorem oBls_mk {f : List Bool → Bool} {bs : List Bool} {s : Store} {Q : DK} (q : Q (.bl (f bs)) s) : oBls f [.v (.lst (bs.map D.bl))] s Q := by
  show (match blsOf (bs.map D.bl) with | some ns => Q (.bl (f ns)) s | none => False)
  rw [blsOf_map]
  exact q
theorem oSum_mk {ns : List Int} {s : Store} {Q : DK} (q : Q (.int ns.sum) s) : oSum [.v (.lst (ns.map D.int))] s Q := by
  show (match intsOf (ns.map D.int) with | some ns => Q (.int ns.sum) s | none => False)
  rw [intsOf_map]
  exact q
theorem oMin_mk {n : Int} {ns : List Int} {s : Store} {Q : DK} (q : Q (.int (minL n ns)) s) : oMin [.v (.lst ((n :: ns).map D.int))] s Q := by
  show (match intsOf ((n :: ns).map D.int) with | some (n :: ns) => Q (.int (minL n ns)) s | _ => False)
  rw [intsOf_map]
  exact q
theorem oMax_mk {n : Int} {ns : List Int} {s : Store} {Q : DK} (q : Q (.int (maxL n ns)) s) : oMax [.v (.lst ((n :: ns).map D.int))] s Q := by
  show (match intsOf ((n :: ns).map D.int) with | some (n :: ns) => Q (.int (maxL n ns)) s | _ => False)
  rw [intsOf_map]
  exact q
theorem map_yes {α : Type} (l : List α) : l.map (fun _ => D.bl true) = (List.replicate l.length true).map D.bl := by
  induction l with
  | nil => rfl
  | cons a l ih => rw [List.map_cons, ih]; rfl
theorem all_yes (n : Nat) : (List.replicate n true).all id = true := by
  induction n with
  | zero => rfl
  | succ n ih => rw [List.replicate_succ, List.all_cons, ih]; rfl
theorem rg_len {n : Nat} : (List.map (fun (i : Nat) => D.int (i : Int)) (List.range n)).length = n := by simp
theorem rg_get {n i : Nat} {d : D} (e : (List.map (fun (i : Nat) => D.int (i : Int)) (List.range n))[i]? = some d) : i < n ∧ d = .int (i : Nat) := by
  have c : i < n := by
    have := (List.getElem?_eq_some_iff.mp e).1
    simpa using this
  rw [List.getElem?_map, List.getElem?_range c] at e
  cases e
  exact ⟨c, rfl⟩
end G
namespace G
open PySem L2
section
variable {K : PySem.W.Frag} {C : Tbl} {g : Gw} {L : Lk} {kw : Vw} {io : List Addr} {O : Addr → Prop} {H : Hp} {σ : St} {sd : DSt} {s : Store}
/-! ### a dict is locked, and let go -/
theorem LkOk.more {g : Gw} {L : Lk} {a : Addr} {od : Obj} {u : HO} (h : LkOk g L) (n : ¬ g.k.X a → ∀ o v, g.k.H a ≠ some (.frz o v)) : LkOk g ((a, od, u) :: L) := by
  obtain ⟨new, e, hn⟩ := h
  refine ⟨(a, od, u) :: new, by rw [e]; rfl, fun e he => ?_⟩
  rcases (List.mem_cons).1 he with rfl | he
  · exact n
  · exact hn e he
theorem LkOk.head {g : Gw} {L : Lk} {a : Addr} {od : Obj} {u : HO} (h : LkOk g L) (h2 : LkOk g ((a, od, u) :: L)) (x : ¬ g.k.X a) (o : Obj) (v : HO) : g.k.H a ≠ some (.frz o v) := by
  obtain ⟨n1, e1, _⟩ := h
  obtain ⟨n2, e2, h2⟩ := h2
  cases n2 with
  | nil =>
    have := congrArg List.length e1
    have z := congrArg List.length e2
    simp at this z
    omega
  | cons e n2 =>
    cases e2
    exact h2 _ List.mem_cons_self x o v
theorem StOk.lockV {a : Addr} {u : HO} (S : StOk K C g L kw io O H σ sd s) (hx : ¬ (vw g io O H).X a) (h : H a = some u) (hd : isDict u = true) (od : Obj) :
    StOk K C g ((a, od, u) :: L) kw io O (upd H a (.frz od u)) σ sd s ∧ Grow (vw g io O H) (vw g io O (upd H a (.frz od u))) := by
  have hio : a ∉ io := fun z => hx (.inr (.inl z))
  have hO : ¬ O a := fun z => hx (.inr (.inr z))
  have nf : ∀ o v, u ≠ .frz o v := fun o v z => by rw [z] at hd; cases hd
  have G : Grow (vw g io O H) (vw g io O (upd H a (.frz od u))) := by
    refine ⟨fun b v x _ => x, fun b v x e => ?_, [], (List.append_nil _).symm⟩
    by_cases hb : b = a
    · subst hb
      have e' : H b = some v := e
      rw [h] at e'; cases e'
      exact .inr ⟨od, hd, upd_same⟩
    · exact .inl (by show upd H a _ b = some v; rw [upd_ne hb]; exact e)
  refine ⟨⟨S.nio, S.dj, S.bd, fun b hb => ?_, S.pre, fun b o h1 h2 h3 => ?_, fun b o' v e => ?_, fun e he => ?_, S.ce.grow G rfl fun b hb => ?_, S.sl.grow G fun b hb => ⟨hb, ?_⟩, S.kp.trans G, ⟨S.an.gr.trans G, S.an.l.more fun x o v z => ?_⟩, S.tb.upd h (fun ps z => by rw [z] at hd; cases hd) (fun φ z => by rw [z] at hd; cases hd) (by intro _ z; cases z)⟩, G⟩
  · obtain ⟨h1, o, h2⟩ := S.od b hb
    exact ⟨h1, o, by rw [upd_ne (fun z : b = a => hO (z ▸ hb))]; exact h2⟩
  · rcases S.fr b o h1 h2 h3 with ⟨q, z⟩ | ⟨o', q⟩
    · by_cases hb : b = a
      · subst hb
        rw [h] at q; cases q
        exact .inr ⟨od, List.mem_cons_self⟩
      · refine .inl ⟨by rw [upd_ne hb]; exact q, fun e he => ?_⟩
        rcases (List.mem_cons).1 he with rfl | he
        · exact fun z => hb z.symm
        · exact z e he
    · exact .inr ⟨o', List.mem_cons_of_mem _ q⟩
  · have q := S.fz b o' v e
    have : b ≠ a := fun z => by rw [z, h] at q; cases q; exact nf _ _ rfl
    rw [upd_ne this]; exact q
  · rcases (List.mem_cons).1 he with rfl | he
    · refine ⟨upd_same, hd, fun o' v e => ?_⟩
      have q := S.fz _ o' v e
      rw [h] at q; cases q; exact nf _ _ rfl
    · obtain ⟨h1, h2⟩ := S.lk e he
      have : e.1 ≠ a := fun z => by rw [z, h] at h1; cases h1; exact nf _ _ rfl
      exact ⟨by rw [upd_ne this]; exact h1, h2⟩
  · exact upd_ne fun z => hio (z ▸ hb)
  · exact upd_ne fun z => hO (z ▸ hb)
  · have q : H a = some (.frz o v) := S.an.gr.frz x z
    rw [h] at q; cases q; exact nf _ _ rfl
theorem RD.unlk {a : Addr} {od : Obj} {u : HO} (h : H a = some (.frz od u)) {v : V} {d : D} (r : RD K C (vw g io O H) v d) : RD K C (vw g io O (upd H a u)) v d := by
  have key : ∀ (b : Addr) (w : HO), (∀ o v, w ≠ .frz o v) → Rd H b w → Rd (upd H a u) b w := fun b w nf q => by
    by_cases hb : b = a
    · subst hb
      rcases q with q | ⟨o, q⟩
      · rw [h] at q; cases q; exact absurd rfl (nf _ _)
      · rw [h] at q; cases q; exact .inl upd_same
    · rcases q with q | ⟨o, q⟩
      · exact .inl (by rw [upd_ne hb]; exact q)
      · exact .inr ⟨o, by rw [upd_ne hb]; exact q⟩
  have keq : ∀ (b : Addr) (w : HO), (∀ o v, w ≠ .frz o v) → H b = some w → upd H a u b = some w := fun b w nf q => by
    have : b ≠ a := fun z => by rw [z, h] at q; cases q; exact nf _ _ rfl
    rw [upd_ne this]; exact q
  refine RD.rec (K := K) (C := C) (w := vw g io O H) (motive_1 := fun v d _ => RD K C (vw g io O (upd H a u)) v d) (motive_2 := fun vs ds _ => RL K C (vw g io O (upd H a u)) vs ds) (motive_3 := fun vs ds _ => RK K C (vw g io O (upd H a u)) vs ds) (motive_4 := fun vs ds _ => RT K C (vw g io O (upd H a u)) vs ds)
    .non .bl .int .str (fun h => .ref h) (fun h _ r => ?_) (fun x h _ r => .lst x (keq _ _ (by intro _ _ z; cases z) h) r) (fun x h _ r => .tup x (keq _ _ (by intro _ _ z; cases z) h) r) (fun x h _ r => .dK x (key _ _ (by intro _ _ z; cases z) h) r) (fun x h _ r => .dT x (key _ _ (by intro _ _ z; cases z) h) r) (fun x h _ r => .ins x (keq _ _ (by intro _ _ z; cases z) h) r) .raw
    .nil (fun _ _ h t => .cons h t) .nil (fun _ _ h t => .cons h t) .nil (fun _ _ h t => .cons h t) r
  rcases h with ⟨x, h⟩ | h
  · exact .ro (.inl ⟨x, key _ _ (by intro _ _ z; cases z) h⟩) r
  · exact .ro (.inr h) r
theorem RL.unlk {a : Addr} {od : Obj} {u : HO} (h : H a = some (.frz od u)) : ∀ {vs : List V} {ds : List D}, RL K C (vw g io O H) vs ds → RL K C (vw g io O (upd H a u)) vs ds
  | _, _, .nil => .nil
  | _, _, .cons r t => .cons (RD.unlk h r) (RL.unlk h t)
theorem RK.unlk {a : Addr} {od : Obj} {u : HO} (h : H a = some (.frz od u)) : ∀ {vs : List (Key × V)} {ds : List (Key × D)}, RK K C (vw g io O H) vs ds → RK K C (vw g io O (upd H a u)) vs ds
  | _, _, .nil => .nil
  | _, _, .cons r t => .cons (RD.unlk h r) (RK.unlk h t)
theorem RT.unlk {a : Addr} {od : Obj} {u : HO} (h : H a = some (.frz od u)) : ∀ {vs : List (List Key × V)} {ds : List (List Key × D)}, RT K C (vw g io O H) vs ds → RT K C (vw g io O (upd H a u)) vs ds
  | _, _, .nil => .nil
  | _, _, .cons r t => .cons (RD.unlk h r) (RT.unlk h t)
theorem RC.unlk {a : Addr} {od : Obj} {u : HO} (h : H a = some (.frz od u)) {ho : HO} {d : D} (r : RC K C (vw g io O H) ho d) : RC K C (vw g io O (upd H a u)) ho d := by
  induction r with
  | lst r => exact .lst (RL.unlk h r)
  | dK r => exact .dK (RK.unlk h r)
  | dT r => exact .dT (RT.unlk h r)
  | ins r => exact .ins (RL.unlk h r)
  | lk hd _ ih => exact .lk hd ih
theorem RF.unlk {a : Addr} {od : Obj} {u : HO} (h : H a = some (.frz od u)) (hd : isDict u = true) {b : Addr} : ∀ {x : Fv}, RF K C (vw g io O H) b x → RF K C (vw g io O (upd H a u)) b x := by
  have ke : ∀ (c : Addr) (φ : Heap → Prop), H c = some (.ext φ) → upd H a u c = some (.ext φ) := fun c φ q => by
    have : c ≠ a := fun z => by rw [z, h] at q; cases q
    rw [upd_ne this]; exact q
  have kf : ∀ (c : Addr) (o : Obj), H c = some (.frz o cellHO) → upd H a u c = some (.frz o cellHO) := fun c o q => by
    have : c ≠ a := fun z => by rw [z, h] at q; cases q; cases hd
    rw [upd_ne this]; exact q
  have fi : ∀ {F : NdefX.NF}, FnIs (vw g io O H) b F → FnIs (vw g io O (upd H a u)) b F := fun r => ⟨r.1, ke _ _ r.2.1, r.2.2.1, ke _ _ r.2.2.2⟩
  intro x r
  cases x with
  | mk F => exact fi r
  | lent j caps =>
    obtain ⟨cl, c, r, l⟩ := r
    refine ⟨cl, c, fi r, l.inj, fun y c e => ?_, l.len, fun i y d e1 e2 => ?_⟩
    · obtain ⟨x, o, v, h1, h2⟩ := l.all y c e
      exact ⟨x, o, v, kf _ _ h1, h2⟩
    · obtain ⟨c, v, u', o, h1, h2, h3, h4, h5⟩ := l.has i y d e1 e2
      exact ⟨c, v, u', o, h1, h2, RD.unlk h h3, kf _ _ h4, h5⟩
/-- k2: a view from before the lock -/
theorem StOk.unlockV {a : Addr} {od : Obj} {u : HO} {k2 : Vw} (S : StOk K C g ((a, od, u) :: L) kw io O H σ sd s) (hx : ¬ (vw g io O H).X a) (hL : ∀ e ∈ L, e.1 ≠ a) (hk : Grow k2 (vw g io O H)) (h2 : ¬ k2.X a) (h3 : k2.H a = some u) (hl : LkOk g L) :
    StOk K C g L k2 io O (upd H a u) σ sd s := by
  obtain ⟨h, hd, h0⟩ := S.lk _ List.mem_cons_self
  have h : H a = some (.frz od u) := h
  have hd : isDict u = true := hd
  have h0 : ∀ o v, g.H0 a ≠ some (.frz o v) := h0
  have hio : a ∉ io := fun z => hx (.inr (.inl z))
  have hO : ¬ O a := fun z => hx (.inr (.inr z))
  refine ⟨S.nio, S.dj, S.bd, fun b hb => ?_, S.pre, fun b o h1 h2 h3 => ?_, fun b o' v e => ?_, fun e he => ?_, ⟨S.ce.len, fun n d e => ?_⟩, ⟨S.sl.len, fun i sl e => ?_, S.sl.inj⟩, ?_, ⟨⟨S.an.gr.x, fun b w x e => ?_, S.an.gr.i⟩, hl⟩, S.tb.upd h (by intro _ z; cases z) (by intro _ z; cases z) (fun φ z => by rw [z] at hd; cases hd)⟩
  · obtain ⟨h1, o, h2⟩ := S.od b hb
    exact ⟨h1, o, by rw [upd_ne (fun z : b = a => hO (z ▸ hb))]; exact h2⟩
  · rcases S.fr b o h1 h2 h3 with ⟨q, z⟩ | ⟨o', q⟩
    · have hb : b ≠ a := fun z' => z _ List.mem_cons_self z'.symm
      exact .inl ⟨by rw [upd_ne hb]; exact q, fun e he => z e (List.mem_cons_of_mem _ he)⟩
    · rcases (List.mem_cons).1 q with q | q
      · cases q
        exact .inl ⟨upd_same, hL⟩
      · exact .inr ⟨o', q⟩
  · have : b ≠ a := fun z => h0 o' v (z ▸ e)
    rw [upd_ne this]; exact S.fz b o' v e
  · obtain ⟨h1, h2⟩ := S.lk e (List.mem_cons_of_mem _ he)
    exact ⟨by rw [upd_ne (hL e he)]; exact h1, h2⟩
  · obtain ⟨b, ho, e1, e2, r⟩ := S.ce.get n d e
    have : b ≠ a := fun z => hio (z ▸ List.mem_of_getElem? e1)
    exact ⟨b, ho, e1, by show upd H a u b = some ho; rw [upd_ne this]; exact e2, RC.unlk h r⟩
  · obtain ⟨v, e1, r⟩ := S.sl.get i sl e
    refine ⟨v, e1, ?_⟩
    cases r with
    | v r => exact .v (RD.unlk h r)
    | @o b ho d hb oa nf r =>
      have : b ≠ a := fun z => hO (z ▸ oa)
      exact .o (by show upd H a u b = some ho; rw [upd_ne this]; exact hb) oa nf (RC.unlk h r)
    | f r => exact .f (RF.unlk h hd r)
  · refine ⟨hk.x, fun b w x e => ?_, hk.i⟩
    show upd H a u b = some w ∨ ∃ o, isDict w = true ∧ upd H a u b = some (.frz o w)
    by_cases hb : b = a
    · subst hb
      rw [h3] at e; cases e
      exact .inl upd_same
    · rw [upd_ne hb]; exact hk.h b w x e
  · show upd H a u b = some w ∨ ∃ o, isDict w = true ∧ upd H a u b = some (.frz o w)
    by_cases hb : b = a
    · subst hb
      rcases S.an.gr.h b w x e with q | ⟨o, _, q⟩
      · have q : H b = some w := q
        rw [h] at q
        cases q
        exact absurd e (hl.head S.an.l x _ _)
      · have q : H b = some (.frz o w) := q
        rw [h] at q
        cases q
        exact .inl upd_same
    · rw [upd_ne hb]; exact S.an.gr.h b w x e
/-- a cell's entry is noted, or struck out -/
theorem StOk.addL {a : Addr} {od : Obj} {u : HO} (S : StOk K C g L kw io O H σ sd s) (ha : a ∈ io) (h : H a = some (.frz od u)) (hd : isDict u = true) (h0 : ∀ o v, g.H0 a ≠ some (.frz o v)) : StOk K C g ((a, od, u) :: L) kw io O H σ sd s := by
  refine ⟨S.nio, S.dj, S.bd, S.od, S.pre, fun b o h1 h2 h3 => ?_, S.fz, fun e he => ?_, S.ce, S.sl, S.kp, ⟨S.an.gr, S.an.l.more fun x o v z => S.an.gr.x _ _ x z (.inr (.inl ha))⟩, S.tb⟩
  · have hb : ¬ b = a := fun z => by
      obtain ⟨l, e, hl⟩ := S.pre
      rw [e] at ha
      rcases (List.mem_append).1 ha with q | q
      · exact h2 (z ▸ q)
      · rw [z, hl a q] at h1; cases h1
    rcases S.fr b o h1 h2 h3 with ⟨q, z⟩ | ⟨o', q⟩
    · refine .inl ⟨q, fun e he => ?_⟩
      rcases (List.mem_cons).1 he with rfl | he
      · exact fun z => hb z.symm
      · exact z e he
    · exact .inr ⟨o', List.mem_cons_of_mem _ q⟩
  · rcases (List.mem_cons).1 he with rfl | he
    · exact ⟨h, hd, h0⟩
    · exact S.lk e he
theorem StOk.dropL {a : Addr} {od : Obj} {u : HO} (S : StOk K C g ((a, od, u) :: L) kw io O H σ sd s) (ha : a ∈ io) (hl : LkOk g L) : StOk K C g L kw io O H σ sd s := by
  refine ⟨S.nio, S.dj, S.bd, S.od, S.pre, fun b o h1 h2 h3 => ?_, S.fz, fun e he => S.lk e (List.mem_cons_of_mem _ he), S.ce, S.sl, S.kp, ⟨S.an.gr, hl⟩, S.tb⟩
  rcases S.fr b o h1 h2 h3 with ⟨q, z⟩ | ⟨o', q⟩
  · exact .inl ⟨q, fun e he => z e (List.mem_cons_of_mem _ he)⟩
  · rcases (List.mem_cons).1 q with q | q
    · cases q
      obtain ⟨l, e, hl⟩ := S.pre
      rw [e] at ha
      rcases (List.mem_append).1 ha with q | q
      · exact absurd q h2
      · rw [hl _ q] at h1; cases h1
    · exact .inr ⟨o', q⟩
/-- a cell's container is put there anew, locked or not -/
theorem StOk.writeF {n : Nat} {a : Addr} {o : HO} {d : D} (S : StOk K C g L kw io O H σ sd s) (ha : io[n]? = some a) (h0 : ∀ o v, g.H0 a ≠ some (.frz o v)) (hL : ∀ e ∈ L, e.1 ≠ a) (r : RC K C (vw g io O H) o d) :
    StOk K C g L kw io O (upd H a o) σ sd (s.set n d) ∧ Grow (vw g io O H) (vw g io O (upd H a o)) := by
  have hm : a ∈ io := List.mem_of_getElem? ha
  have G : Grow (vw g io O H) (vw g io O (upd H a o)) := by
    refine ⟨fun b v x h => x, fun b v x h => .inl ?_, [], (List.append_nil _).symm⟩
    have : b ≠ a := fun z => x (.inr (.inl (z ▸ hm)))
    show upd H a o b = some v
    rw [upd_ne this]; exact h
  refine ⟨⟨S.nio, S.dj, S.bd, fun b hb => ?_, S.pre, fun b v h1 h2 h3 => ?_, fun b od v h => ?_, fun e he => ?_, ⟨?_, fun m d' e => ?_⟩, S.sl.grow G fun b hb => ⟨hb, ?_⟩, S.kp.trans G, S.an.trans G, ?_⟩, G⟩
  · obtain ⟨h1, v, h2⟩ := S.od b hb
    have : b ≠ a := fun z => S.dj b hb (z ▸ hm)
    exact ⟨h1, v, by rw [upd_ne this]; exact h2⟩
  · have : b ≠ a := fun z => by
      obtain ⟨l, e, hl⟩ := S.pre
      rw [e] at hm
      rcases (List.mem_append).1 hm with q | q
      · exact h2 (z ▸ q)
      · rw [z, hl a q] at h1; cases h1
    rcases S.fr b v h1 h2 h3 with ⟨q, z⟩ | q
    · exact .inl ⟨by rw [upd_ne this]; exact q, z⟩
    · exact .inr q
  · have q := S.fz b od v h
    have : b ≠ a := fun z => h0 _ _ (z ▸ h)
    rw [upd_ne this]; exact q
  · obtain ⟨h1, h2⟩ := S.lk e he
    exact ⟨by rw [upd_ne (hL e he)]; exact h1, h2⟩
  · show io.length = (s.set n d).length
    rw [List.length_set]; exact S.ce.len
  · by_cases hmn : n = m
    · subst hmn
      have hl : n < s.length := by
        have q : io.length = s.length := S.ce.len
        rw [← q]; exact (List.getElem?_eq_some_iff.mp ha).1
      rw [List.getElem?_set_self hl] at e
      cases e
      exact ⟨a, o, ha, upd_same, r.grow G⟩
    · rw [List.getElem?_set_ne hmn] at e
      obtain ⟨b, v, e1, e2, r'⟩ := S.ce.get m d' e
      have : b ≠ a := fun z => hmn (io_inj S.nio (z ▸ ha) e1)
      exact ⟨b, v, e1, by show upd H a o b = some v; rw [upd_ne this]; exact e2, r'.grow G⟩
  · have : b ≠ a := fun z => S.dj b hb (z ▸ hm)
    show upd H a o b = H b
    rw [upd_ne this]
  · obtain ⟨n', hn⟩ := List.getElem?_of_mem hm
    have hl : n' < s.length := by rw [← S.ce.len]; exact (List.getElem?_eq_some_iff.mp hn).1
    obtain ⟨b, ho, e1, e2, r'⟩ := S.ce.get n' s[n'] (by simp [hl])
    have e1' : io[n']? = some b := e1
    rw [hn] at e1'
    cases e1'
    exact S.tb.upd e2 r'.nt r'.nx r.nx
end
end G
namespace G
open PySem L2
theorem _root_.L2.PSs.ex {X : Cx} {b : List Stmt} {ι : Type} {t : ι → TS} (h : ∀ i, PSs X b (t i)) : PSs X b (fun D σ H => ∃ i, t i D σ H) := ⟨fun p s σ H D I ⟨i, q⟩ => (h i).run p s σ H D I q⟩
def kD : Key → D
  | .inl i => .int i
  | .inr x => .str x
def dItems (m : List (Key × D)) : List D := m.map fun p => .tup [kD p.1, p.2]
def dKeys (m : List (Key × D)) : List D := m.map fun p => kD p.1
def dVals (m : List (Key × D)) : List D := m.map fun p => p.2
section
variable {K : PySem.W.Frag} {C : Tbl} {g : Gw} {L : Lk} {kw : Vw} {io : List Addr} {O : Addr → Prop} {H : Hp} {σ : St} {sd : DSt} {s : Store}
theorem RD.kv {w : Vw} (k : Key) : RD K C w (kV k) (kD k) := by
  cases k with
  | inl i => exact .int i
  | inr x => exact .str x
theorem RK.at {w : Vw} : ∀ {vs : List (Key × V)} {m : List (Key × D)} {i : Nat} {p : Key × D}, RK K C w vs m → m[i]? = some p → ∃ v, vs[i]? = some (p.1, v) ∧ RD K C w v p.2
  | _, _, _, _, .nil, hi => by simp at hi
  | _, _, 0, _, .cons h _, e => by simp at e; subst e; exact ⟨_, rfl, h⟩
  | _, _, i + 1, p, .cons _ t, e => by
    obtain ⟨v, h1, h2⟩ := RK.at (i := i) (p := p) t (by simpa using e)
    exact ⟨v, by simpa using h1, h2⟩
theorem RK.len {w : Vw} : ∀ {vs : List (Key × V)} {m : List (Key × D)}, RK K C w vs m → vs.length = m.length
  | _, _, .nil => rfl
  | _, _, .cons _ t => by simp [RK.len t]
/-- the walks of a locked dict -/
def WalkD (it : Addr → Obj → List (Key × V) → It) (its : List (Key × D) → List D) : Prop :=
  ∀ (K : PySem.W.Frag) (C : Tbl) (g : Gw) (L : Lk) (v0 : Vw) (a : Addr) (o : Obj) (vs : List (Key × V)) (m : List (Key × D)), RK K C v0 vs m →
    (∀ io O H σ sd s, StOk K C g L v0 io O H σ sd s → H a = some (.frz o (.dK vs))) → Walk K C g L v0 (it a o vs) (its m) fun _ => True
theorem wd_items : WalkD Iti dItems := by
  intro K C g L v0 a o vs m r hl io O H σ sd s i S _
  refine ⟨fun d e => ?_, fun e => ⟨hl io O H σ sd s S, ?_⟩⟩
  · unfold dItems at e
    rw [List.getElem?_map] at e
    cases q : m[i]? with
    | none => simp [q] at e
    | some p =>
      rw [q] at e; cases e
      obtain ⟨v, e1, r1⟩ := r.at q
      refine ⟨⟨hl io O H σ sd s S, (List.getElem?_eq_some_iff.mp e1).1⟩, fun x H' y => ?_⟩
      obtain ⟨T, k, v', e2, rfl, hT, rfl⟩ := y
      rw [e1] at e2; cases e2
      obtain ⟨S2, T2⟩ := S.stpNew (o := .tup [kV p.1, v]) hT
      exact ⟨S2, T2, .tup (S.free hT).1 upd_same (.cons (.kv _) (.cons ((r1.grow S.kp).grow T2.gr) .nil))⟩
  · have := List.getElem?_eq_none_iff.mp e
    rw [r.len]
    simpa [dItems] using this
theorem wd_keys : WalkD Itk dKeys := by
  intro K C g L v0 a o vs m r hl io O H σ sd s i S _
  refine ⟨fun d e => ?_, fun e => ⟨hl io O H σ sd s S, ?_⟩⟩
  · unfold dKeys at e
    rw [List.getElem?_map] at e
    cases q : m[i]? with
    | none => simp [q] at e
    | some p =>
      rw [q] at e; cases e
      obtain ⟨v, e1, r1⟩ := r.at q
      refine ⟨⟨hl io O H σ sd s S, (List.getElem?_eq_some_iff.mp e1).1⟩, fun x H' y => ?_⟩
      obtain ⟨rfl, k, v', e2, rfl⟩ := y
      rw [e1] at e2; cases e2
      exact ⟨S, Stp.refl .., .kv _⟩
  · have := List.getElem?_eq_none_iff.mp e
    rw [r.len]
    simpa [dKeys] using this
theorem wd_vals : WalkD Itd dVals := by
  intro K C g L v0 a o vs m r hl io O H σ sd s i S _
  refine ⟨fun d e => ?_, fun e => ⟨hl io O H σ sd s S, ?_⟩⟩
  · unfold dVals at e
    rw [List.getElem?_map] at e
    cases q : m[i]? with
    | none => simp [q] at e
    | some p =>
      rw [q] at e; cases e
      obtain ⟨v, e1, r1⟩ := r.at q
      refine ⟨⟨hl io O H σ sd s S, (List.getElem?_eq_some_iff.mp e1).1⟩, fun x H' y => ?_⟩
      obtain ⟨rfl, k, e2⟩ := y
      rw [e1] at e2; cases e2
      exact ⟨S, Stp.refl .., r1.grow S.kp⟩
  · have := List.getElem?_eq_none_iff.mp e
    rw [r.len]
    simpa [dVals] using this
/-- the turns of a loop; what is let out is read by E -/
theorem for_core {J : It} {ds : List D} {src : Store → Prop} {gt : TG} {dg : DTg} {tb : DS} {D : DEnds} {T : Ends} {F : TS} (S : StOk K C g L (vw g io O H) io O H σ sd s) (hw : Walk K C g L (vw g io O H) J ds src)
    (q : loopD src dg tb ds D sd s) (E : EndR K C g L (vw g io O H) D T) (ht : TgG K C g L gt dg) (hF : ∀ D σ H, LS K C g L tb D σ H → F D σ H) :
    ∃ W : Nat → Nat → St → Hp → Prop, (∃ m, W 0 m σ H) ∧ ∀ i m σ H, W i m σ H → (J.stop i H ∧ T.nx σ H) ∨ (J.go i H ∧ ∃ N : St → Hp → Prop, (∀ σ' H', N σ' H' → ∃ m', m' < m ∧ W (i + 1) m' σ' H') ∧ ∀ x H', J.yld i H x H' → gt x σ H' fun σ2 H2 => F { T with nx := N, ct := N, bk := T.nx } σ2 H2) := by
  obtain ⟨I, h0, hs, he⟩ := q
  refine ⟨fun i m σ1 H1 => ∃ io1 O1 sd1 s1, StOk K C g L (vw g io O H) io1 O1 H1 σ1 sd1 s1 ∧ m = ds.length - i ∧ i ≤ ds.length ∧ I i sd1 s1, ⟨_, io, O, sd, s, S, rfl, Nat.zero_le _, h0⟩, ?_⟩
  rintro i m σ1 H1 ⟨io1, O1, sd1, s1, S1, rfl, hi, q1⟩
  by_cases hlt : i < ds.length
  · have e : ds[i]? = some ds[i] := by simp [hlt]
    obtain ⟨src1, q1⟩ := hs i _ sd1 s1 e q1
    obtain ⟨go, yl⟩ := (hw io1 O1 H1 σ1 sd1 s1 i S1 src1).1 ds[i] e
    refine .inr ⟨go, fun σ' H' => ∃ io2 O2 sd2 s2, StOk K C g L (vw g io O _) io2 O2 H' σ' sd2 s2 ∧ I (i + 1) sd2 s2, fun σ' H' ⟨io2, O2, sd2, s2, S2, q2⟩ => ⟨ds.length - (i + 1), by omega, io2, O2, sd2, s2, S2, rfl, hlt, q2⟩, fun x H2 y => ?_⟩
    obtain ⟨S2, T2, r2⟩ := yl x H2 y
    refine ht _ io1 O1 H2 σ1 sd1 s1 x _ _ _ S2 r2 q1 fun sd3 σ3 q3 S3 => hF _ _ _ ?_
    exact ⟨_, io1, O1, sd3, s1, _, S3, q3, ⟨fun io O H σ sd s q S => ⟨io, O, sd, s, S, q⟩, fun r s io P H v q S rr => E.rt r s io P H v q S rr, fun io O H σ sd s q S => E.nx io O H σ sd s q S, fun io O H σ sd s q S => ⟨io, O, sd, s, S, q⟩⟩⟩
  · have e : i = ds.length := by omega
    subst e
    obtain ⟨src1, q1⟩ := he sd1 s1 q1
    exact .inl ⟨(hw io1 O1 H1 σ1 sd1 s1 _ S1 src1).2 (by simp), E.nx io1 O1 H1 σ1 sd1 s1 q1 S1⟩
end
section
variable {X : Cx} {C : Tbl} {g : Gw} {L : Lk} {pos p p2 : Pos}
/-- a locked cell is let go at each end -/
def lkE (n : Nat) (m : List (Key × D)) (D : DEnds) : DEnds :=
  ⟨fun σ s => s[n]? = some (.lk (.dK m)) ∧ D.nx σ (s.set n (.dK m)), fun r s => s[n]? = some (.lk (.dK m)) ∧ D.rt r (s.set n (.dK m)), fun σ s => s[n]? = some (.lk (.dK m)) ∧ D.bk σ (s.set n (.dK m)), fun σ s => s[n]? = some (.lk (.dK m)) ∧ D.ct σ (s.set n (.dK m))⟩
/-- for .. in d, d.items(), d.keys(), d.values(): d a name; the dict is locked meanwhile -/
def dForD (i : Nat) (its : List (Key × D) → List D) (dg : DTg) (tb : DS) : DS := fun D σ s => match σ[i]? with
  | some (some (.v (.dK m))) => loopD (fun _ => True) dg tb (its m) D σ s
  | some (some (.v (.ref n))) => (match s[n]? with
    | some (.dK m) => loopD (fun _ => True) dg tb (its m) (lkE n m D) σ (s.set n (.lk (.dK m)))
    | _ => False)
  | _ => False
def iDct (it : Addr → Obj → List (Key × V) → It) (i : Nat) : TI := fun σ H R => tVar i σ H fun x H1 => ∃ d o kvs, x = .ref d ∧ H1 d = some (.frz o (.dK kvs)) ∧ R (it d o kvs) H1
end
end G
namespace G
open PySem L2
theorem PS_or {X : Cx} {b : Stmt} {t u : TS} (h : PS X b t) (k : PS X b u) : PS X b (fun D σ H => t D σ H ∨ u D σ H) := ⟨fun p s σ H D I q => q.elim (h.run p s σ H D I) (k.run p s σ H D I)⟩
section
variable {K : PySem.W.Frag} {C : Tbl} {g : Gw} {L : Lk} {kw : Vw} {io : List Addr} {O : Addr → Prop} {H : Hp} {σ : St} {sd : DSt} {s : Store}
theorem RR.grow' {w w' : Vw} {v : V} {r : Sl} {P : Addr → Prop} (rr : RR K C w v r P) (G : Grow w w') (hP : ∀ a, P a → w'.H a = w.H a) : RR K C w' v r P := by
  cases rr with
  | v r => exact .v (r.grow G)
  | o h nf r => exact .o ((hP _ rfl).trans h) nf (r.grow G)
theorem RR.unlk {a : Addr} {od : Obj} {u : HO} (h : H a = some (.frz od u)) {v : V} {r : Sl} {P : Addr → Prop} (rr : RR K C (vw g io O H) v r P) : RR K C (vw g io O (upd H a u)) v r P := by
  cases rr with
  | v r => exact .v (RD.unlk h r)
  | @o b ho d hb nf r =>
    have hb' : H b = some ho := hb
    have : b ≠ a := fun z => by rw [z, h] at hb'; cases hb'; exact nf _ _ rfl
    exact .o (by show upd H a u b = some ho; rw [upd_ne this]; exact hb) nf (RC.unlk h r)
/-- a frozen dict, locked: the ends read from behind the lock -/
theorem end_lockV {a : Addr} {od : Obj} {u : HO} {D : DEnds} {T : Ends} (S : StOk K C g L kw io O H σ sd s) (x : ¬ (vw g io O H).X a) (h : H a = some u) (hd : isDict u = true) (E : EndR K C g L kw D T) :
    EndR K C g ((a, od, u) :: L) (vw g io O (upd H a (.frz od u))) D ⟨fun σ' H' => H' a = some (.frz od u) ∧ T.nx σ' (upd H' a u), fun v H' => H' a = some (.frz od u) ∧ T.rt v (upd H' a u), fun σ' H' => H' a = some (.frz od u) ∧ T.bk σ' (upd H' a u), fun σ' H' => H' a = some (.frz od u) ∧ T.ct σ' (upd H' a u)⟩ := by
  have nf : ∀ o v, u ≠ .frz o v := fun o v z => by rw [z] at hd; cases hd
  have hL : ∀ e ∈ L, e.1 ≠ a := fun e he z => by
    have q := (S.lk e he).1
    rw [z, h] at q; cases q; exact nf _ _ rfl
  obtain ⟨S1, G1⟩ := S.here.lockV x h hd od
  have un : ∀ {io' O' H' σ' sd' s'}, StOk K C g ((a, od, u) :: L) (vw g io O (upd H a (.frz od u))) io' O' H' σ' sd' s' → H' a = some (.frz od u) ∧ StOk K C g L kw io' O' (upd H' a u) σ' sd' s' := by
    intro io' O' H' σ' sd' s' S'
    have hx : ¬ (vw g io' O' H').X a := S'.kp.x a _ (G1.x a _ x h) upd_same
    exact ⟨(S'.lk _ List.mem_cons_self).1, (S'.unlockV hx hL (G1.trans S'.kp) x h S.an.l).rebase S.kp⟩
  refine ⟨fun io' O' H' σ' sd' s' q S' => ?_, fun r s' io' P H' v q S' rr => ?_, fun io' O' H' σ' sd' s' q S' => ?_, fun io' O' H' σ' sd' s' q S' => ?_⟩
  · obtain ⟨e, S2⟩ := un S'
    exact ⟨e, E.nx _ _ _ _ _ _ q S2⟩
  · obtain ⟨e, S2⟩ := un S'
    exact ⟨e, E.rt _ _ _ _ _ _ q S2 (RR.unlk e rr)⟩
  · obtain ⟨e, S2⟩ := un S'
    exact ⟨e, E.bk _ _ _ _ _ _ q S2⟩
  · obtain ⟨e, S2⟩ := un S'
    exact ⟨e, E.ct _ _ _ _ _ _ q S2⟩
theorem StOk.lockC {n : Nat} {a : Addr} {m : List (Key × D)} {vs : List (Key × V)} (S : StOk K C g L kw io O H σ sd s) (ha : io[n]? = some a) (h : H a = some (.dK vs)) (r : RK K C (vw g io O H) vs m) (od : Obj) :
    StOk K C g ((a, od, .dK vs) :: L) kw io O (upd H a (.frz od (.dK vs))) σ sd (s.set n (.lk (.dK m))) ∧ Grow (vw g io O H) (vw g io O (upd H a (.frz od (.dK vs)))) := by
  have h0 : ∀ o v, g.H0 a ≠ some (.frz o v) := fun o v e => by
    have q := S.fz a o v e
    rw [h] at q; cases q
  have hL : ∀ e ∈ L, e.1 ≠ a := fun e he z => by
    have q := (S.lk e he).1
    rw [z, h] at q; cases q
  obtain ⟨S1, G1⟩ := S.writeF (o := .frz od (.dK vs)) (d := .lk (.dK m)) ha h0 hL (.lk rfl (.dK r))
  exact ⟨S1.addL (List.mem_of_getElem? ha) upd_same rfl h0, G1⟩
theorem end_lockC {n : Nat} {a : Addr} {od : Obj} {m : List (Key × D)} {vs : List (Key × V)} {D : DEnds} {T : Ends} (S : StOk K C g L kw io O H σ sd s) (ha : io[n]? = some a) (h : H a = some (.dK vs)) (r : RK K C (vw g io O H) vs m) (E : EndR K C g L kw D T) :
    EndR K C g ((a, od, .dK vs) :: L) (vw g io O (upd H a (.frz od (.dK vs)))) (lkE n m D) ⟨fun σ' H' => H' a = some (.frz od (.dK vs)) ∧ T.nx σ' (upd H' a (.dK vs)), fun v H' => H' a = some (.frz od (.dK vs)) ∧ T.rt v (upd H' a (.dK vs)), fun σ' H' => H' a = some (.frz od (.dK vs)) ∧ T.bk σ' (upd H' a (.dK vs)), fun σ' H' => H' a = some (.frz od (.dK vs)) ∧ T.ct σ' (upd H' a (.dK vs))⟩ := by
  have hL : ∀ e ∈ L, e.1 ≠ a := fun e he z => by
    have q := (S.lk e he).1
    rw [z, h] at q; cases q
  obtain ⟨S1, G1⟩ := S.here.lockC ha h r od
  have un : ∀ {io' O' H' σ' sd' s'}, StOk K C g ((a, od, .dK vs) :: L) (vw g io O (upd H a (.frz od (.dK vs)))) io' O' H' σ' sd' s' → s'[n]? = some (.lk (.dK m)) → H' a = some (.frz od (.dK vs)) ∧ StOk K C g L kw io' O' (upd H' a (.dK vs)) σ' sd' (s'.set n (.dK m)) ∧ Grow (vw g io' O' H') (vw g io' O' (upd H' a (.dK vs))) ∧ ∀ b, O' b → b ≠ a := by
    intro io' O' H' σ' sd' s' S' hs
    obtain ⟨e1, _, e0⟩ := S'.lk _ List.mem_cons_self
    have e1 : H' a = some (.frz od (.dK vs)) := e1
    have ha' : io'[n]? = some a := S'.kp.get (n := n) ha
    obtain ⟨b, ho, q1, q2, rc⟩ := S'.ce.get n _ hs
    have q1 : io'[n]? = some b := q1
    rw [ha'] at q1; cases q1
    have q2 : H' a = some ho := q2
    rw [e1] at q2; cases q2
    cases rc with
    | lk _ rc =>
      obtain ⟨S2, G2⟩ := (S'.dropL (List.mem_of_getElem? ha') S.an.l).writeF (o := .dK vs) (d := .dK m) ha' e0 hL rc
      exact ⟨e1, S2.rebase (S.kp.trans G1), G2, fun b hb z => S'.dj b hb (z ▸ List.mem_of_getElem? ha')⟩
  refine ⟨fun io' O' H' σ' sd' s' q S' => ?_, fun r s' io' P H' v q S' rr => ?_, fun io' O' H' σ' sd' s' q S' => ?_, fun io' O' H' σ' sd' s' q S' => ?_⟩
  · obtain ⟨e, S2, _⟩ := un S' q.1
    exact ⟨e, E.nx _ _ _ _ _ _ q.2 S2⟩
  · obtain ⟨e, S2, G2, hb⟩ := un S' q.1
    refine ⟨e, E.rt _ _ _ _ _ _ q.2 S2 (rr.grow' G2 fun b hP => ?_)⟩
    exact upd_ne (hb b hP)
  · obtain ⟨e, S2, _⟩ := un S' q.1
    exact ⟨e, E.bk _ _ _ _ _ _ q.2 S2⟩
  · obtain ⟨e, S2, _⟩ := un S' q.1
    exact ⟨e, E.ct _ _ _ _ _ _ q.2 S2⟩
end
section
variable {X : Cx} {C : Tbl} {g : Gw} {L : Lk} {pos : Pos}
theorem gs_forD {iter tg : Expr} {body : List Stmt} {gt : TG} {dg : DTg} {tb : DS} {i : Nat} {it : Addr → Obj → List (Key × V) → It} {its : List (Key × D) → List D} (hp : PassesOwn (model X.prog X.w) X.A X.env X.xe) (hc : X.calm = true) (hw : WalkD it its) (hi : PI X tg iter (iDct it i)) (hg : PG X tg gt)
    (ht : ∀ L, TgG X.K C g L gt dg) (hb : ∀ L, PSs X body (LS X.K C g L tb)) (hs : ∀ x, foldedSetIterable iter X.env x = pure x := by intro _; rfl) : PS X (.For tg iter body [] pos) (LS X.K C g L (dForD i its dg tb)) := by
  have base := ps_for (pos := pos) hp hc hi hg (PSs.ex hb) hs
  refine (PS_or (ps_lock base) base).imp fun T σ H ⟨kw, io, O, sd, s, D, S, h, E⟩ => ?_
  unfold dForD at h
  split at h
  · rename_i m e
    obtain ⟨v, e1, r⟩ := S.sl.get i _ e
    cases r with
    | v r =>
      cases r with
      | @dK a vs _ x h1 r1 =>
        rcases h1 with h1 | ⟨o, h1⟩
        · have h1 : H a = some (.dK vs) := h1
          refine .inl ⟨a, .dK vs, h1, trivial, fun od => ?_⟩
          obtain ⟨S1, G1⟩ := S.here.lockV x h1 rfl od
          have x1 : ¬ (vw g io O (upd H a (.frz od (.dK vs)))).X a := G1.x a _ x h1
          refine ⟨_, e1, a, od, vs, rfl, upd_same, ?_⟩
          exact for_core (F := fun D σ H => ∃ L', LS X.K C g L' tb D σ H) S1.here (hw _ _ _ _ _ a od vs m (r1.grow G1) fun io2 O2 H2 σ2 sd2 s2 S2 => S2.kp.frz x1 upd_same) h (end_lockV S x h1 rfl E) (ht _) fun D σ H q => ⟨_, q⟩
        · have h1 : H a = some (.frz o (.dK vs)) := h1
          refine .inr ⟨_, e1, a, o, vs, rfl, h1, ?_⟩
          refine for_core (F := fun D σ H => ∃ L', LS X.K C g L' tb D σ H) S.here (hw _ _ _ _ _ a o vs m r1 fun io2 O2 H2 σ2 sd2 s2 S2 => S2.kp.frz x h1) h ⟨fun io O H σ sd s q S2 => E.nx _ _ _ _ _ _ q (S2.rebase S.kp), fun r s io P H v q S2 rr => E.rt _ _ _ _ _ _ q (S2.rebase S.kp) rr, fun io O H σ sd s q S2 => E.bk _ _ _ _ _ _ q (S2.rebase S.kp), fun io O H σ sd s q S2 => E.ct _ _ _ _ _ _ q (S2.rebase S.kp)⟩ (ht _) fun D σ H q => ⟨_, q⟩
  · rename_i n e
    split at h
    · rename_i m es
      obtain ⟨v, e1, r⟩ := S.sl.get i _ e
      cases r with
      | v r =>
        cases r with
        | @ref _ a hn =>
          have hn : io[n]? = some a := hn
          obtain ⟨b, ho, q1, q2, rc⟩ := S.ce.get n _ es
          have q1 : io[n]? = some b := q1
          rw [hn] at q1; cases q1
          have q2 : H a = some ho := q2
          cases rc with
          | @dK vs _ rk =>
            refine .inl ⟨a, .dK vs, q2, trivial, fun od => ?_⟩
            obtain ⟨S1, G1⟩ := S.here.lockC hn q2 rk od
            refine ⟨_, e1, a, od, vs, rfl, upd_same, ?_⟩
            exact for_core (F := fun D σ H => ∃ L', LS X.K C g L' tb D σ H) S1.here (hw _ _ _ _ _ a od vs m (rk.grow G1) fun io2 O2 H2 σ2 sd2 s2 S2 => (S2.lk _ List.mem_cons_self).1) h (end_lockC S hn q2 rk E) (ht _) fun D σ H q => ⟨_, q⟩
    · exact h.elim
  · exact h.elim
variable {x : Str} {p apos cpos tpos : Pos} {elts : List Expr} {kk : Nat} {tg : Expr}
theorem gi_items (i : Nat) (he : PE X (.Name x p) (tVar i)) (hbase : attributeBase (.Name x p) "items" X.env (eval (.Name x p) X.env) = eval (.Name x p) X.env := by rfl) (hline : (apos.endLine == cpos.line) = true := by rfl) :
    PI X (.Tuple elts kk tpos) (.Call (.Attribute (.Name x p) "items" apos) [] [] cpos) (iDct Iti i) := pi_items he hbase hline
theorem gi_vals (i : Nat) (he : PE X (.Name x p) (tVar i)) (hbase : attributeBase (.Name x p) "values" X.env (eval (.Name x p) X.env) = eval (.Name x p) X.env := by rfl) (hline : (apos.endLine == cpos.line) = true := by rfl) :
    PI X tg (.Call (.Attribute (.Name x p) "values" apos) [] [] cpos) (iDct Itd i) := pi_values he hbase hline
theorem gi_keysM (i : Nat) (he : PE X (.Name x p) (tVar i)) (hbase : attributeBase (.Name x p) "keys" X.env (eval (.Name x p) X.env) = eval (.Name x p) X.env := by rfl) (hline : (apos.endLine == cpos.line) = true := by rfl) :
    PI X tg (.Call (.Attribute (.Name x p) "keys" apos) [] [] cpos) (iDct Itk i) := pi_keysM he hbase hline
theorem gi_keys (i : Nat) (he : PE X (.Name x p) (tVar i)) : PI X tg (.Name x p) (iDct Itk i) := (pi_keys he).imp fun σ H R ⟨v, e, d, o, kvs, e1, e2, q⟩ => ⟨v, e, d, o, e1, .inl ⟨kvs, e2, q⟩⟩
end
end G
namespace G
open PySem L2
theorem deref_o (s : Store) (d : D) : deref s (.o d) = d := rfl
theorem deref_int (s : Store) (i : Int) : deref s (.v (.int i)) = .int i := rfl
theorem deref_bl (s : Store) (i : Bool) : deref s (.v (.bl i)) = .bl i := rfl
theorem deref_non (s : Store) : deref s (.v .non) = .non := rfl
theorem deref_str (s : Store) (i : Str) : deref s (.v (.str i)) = .str i := rfl
theorem deref_tup (s : Store) (i : List D) : deref s (.v (.tup i)) = .tup i := rfl
theorem deref_lst (s : Store) (i : List D) : deref s (.v (.lst i)) = .lst i := rfl
theorem deref_ro (s : Store) (i : List D) : deref s (.v (.ro i)) = .ro i := rfl
theorem deref_dK (s : Store) (i : List (Key × D)) : deref s (.v (.dK i)) = .dK i := rfl
theorem deref_dT (s : Store) (i : List (List Key × D)) : deref s (.v (.dT i)) = .dT i := rfl
theorem deref_ins (s : Store) (c : Nat) (i : List D) : deref s (.v (.ins c i)) = .ins c i := rfl
theorem deref_lk (s : Store) (d : D) : deref s (.v (.lk d)) = .lk d := rfl
theorem deref_ref (s : Store) (n : Nat) : deref s (.v (.ref n)) = (match s[n]? with | some d => d | none => .ref n) := rfl
theorem deref_get {s : Store} {n : Nat} {d : D} (h : s[n]? = some d) : deref s (.v (.ref n)) = d := by rw [deref_ref, h]
/-! dicts of whole numbers by whole numbers -/
def dI (l : List (Int × Int)) : List (Key × D) := l.map fun p => (.inl p.1, .int p.2)
def lookI (l : List (Int × Int)) (c : Int) : Option Int := (l.find? fun p => decide (p.1 = c)).map (·.2)
def putI (l : List (Int × Int)) (c i : Int) : List (Int × Int) :=
  if (l.any fun p => decide (p.1 = c)) = true then l.map (fun p => if p.1 = c then (p.1, i) else p) else l ++ [(c, i)]
def KN (l : List (Int × Int)) : Prop := (l.map (·.1)).Nodup
theorem look_dI (c : Int) : ∀ l, look (dI l) (.inl c) = (lookI l c).map D.int
  | [] => rfl
  | p :: l => by
    have ih := look_dI c l
    unfold look lookI dI at *
    rw [List.map_cons, List.find?_cons, List.find?_cons]
    by_cases h : p.1 = c
    · simp [h]
    · have : ¬ ((Sum.inl p.1 : Key) = Sum.inl c) := fun z => h (Sum.inl.inj z)
      simp only [h, this, decide_false]
      exact ih
theorem put_dI (l : List (Int × Int)) (c i : Int) : put (dI l) (.inl c) (.int i) = dI (putI l c i) := by
  have here : (look (dI l) (.inl c)).isSome = l.any fun p => decide (p.1 = c) := by
    rw [look_any]
    unfold dI
    rw [List.any_map]
    congr 1
    funext p
    simp
  unfold put putI
  rw [here]
  split
  · unfold dI
    simp only [List.map_map]
    refine List.map_congr_left fun e _ => ?_
    by_cases h : e.1 = c <;> simp [h]
  · simp [dI]
theorem lookI_put (l : List (Int × Int)) (c i c' : Int) : lookI (putI l c i) c' = if c = c' then some i else lookI l c' := by
  unfold putI
  split
  · rename_i h
    unfold lookI
    rw [List.find?_map]
    have e : ((fun p : Int × Int => decide (p.1 = c')) ∘ fun p => if p.1 = c then (p.1, i) else p) = fun p => decide (p.1 = c') := by
      funext p
      by_cases z : p.1 = c <;> simp [z]
    rw [e]
    by_cases hc : c = c'
    · subst hc
      rw [if_pos rfl]
      obtain ⟨p, hp, hq⟩ := List.any_eq_true.mp h
      cases q : l.find? fun p => decide (p.1 = c) with
      | none => exact absurd hq (by simpa using List.find?_eq_none.mp q p hp)
      | some r =>
        have := List.find?_some q
        simp only [decide_eq_true_eq] at this
        simp [this]
    · rw [if_neg hc]
      cases q : l.find? fun p => decide (p.1 = c') with
      | none => rfl
      | some r =>
        have := List.find?_some q
        simp only [decide_eq_true_eq] at this
        have n : ¬ r.1 = c := fun z => hc (z.symm.trans this)
        simp [n]
  · rename_i h
    unfold lookI
    rw [List.find?_append]
    have hn : l.find? (fun p => decide (p.1 = c)) = none := by
      rw [List.find?_eq_none]
      intro p hp z
      exact h (List.any_eq_true.mpr ⟨p, hp, z⟩)
    by_cases hc : c = c'
    · subst hc
      rw [if_pos rfl, hn]
      simp
    · rw [if_neg hc]
      cases q : l.find? fun p => decide (p.1 = c') with
      | none => simp [hc]
      | some r => simp
theorem putI_keys (l : List (Int × Int)) (c i : Int) : (putI l c i).map (·.1) = l.map (·.1) ∨ ((putI l c i).map (·.1) = l.map (·.1) ++ [c] ∧ c ∉ l.map (·.1)) := by
  unfold putI
  split
  · left
    rw [List.map_map]
    exact List.map_congr_left fun p _ => by by_cases h : p.1 = c <;> simp [h]
  · rename_i h
    right
    refine ⟨by simp, fun z => h ?_⟩
    obtain ⟨p, hp, e⟩ := List.mem_map.mp z
    exact List.any_eq_true.mpr ⟨p, hp, by simp [e]⟩
theorem KN.put {l : List (Int × Int)} (h : KN l) (c i : Int) : KN (putI l c i) := by
  unfold KN at *
  rcases putI_keys l c i with e | ⟨e, n⟩
  · rw [e]; exact h
  · rw [e, List.nodup_append]
    exact ⟨h, by simp, fun a ha b hb => by rw [List.mem_singleton.mp hb]; exact fun z => n (z ▸ ha)⟩
theorem putI_len (l : List (Int × Int)) (c i : Int) : (putI l c i).length ≤ l.length + 1 := by
  have : (putI l c i).length = ((putI l c i).map (·.1)).length := by simp
  rw [this]
  rcases putI_keys l c i with e | ⟨e, n⟩ <;> rw [e] <;> simp
theorem KN.look {l : List (Int × Int)} (h : KN l) {p : Int × Int} (hp : p ∈ l) : lookI l p.1 = some p.2 := by
  induction l with
  | nil => cases hp
  | cons q l ih =>
    unfold KN at h
    simp only [List.map_cons, List.nodup_cons] at h
    unfold lookI
    rw [List.find?_cons]
    rcases (List.mem_cons).1 hp with rfl | hp
    · simp
    · have : ¬ q.1 = p.1 := fun z => h.1 (z ▸ List.mem_map.mpr ⟨p, hp, rfl⟩)
      simp only [this, decide_false]
      exact ih h.2 hp
theorem lookI_mem {l : List (Int × Int)} {c i : Int} (h : lookI l c = some i) : (c, i) ∈ l := by
  unfold lookI at h
  cases q : l.find? fun p => decide (p.1 = c) with
  | none => rw [q] at h; cases h
  | some r =>
    rw [q] at h
    have e := List.find?_some q
    simp only [decide_eq_true_eq] at e
    have m := List.mem_of_find?_eq_some q
    simp only [Option.map_some, Option.some.injEq] at h
    rw [← e, ← h]
    exact m
theorem nodup_sub_len : ∀ {a b : List Int}, a.Nodup → a ⊆ b → a.length ≤ b.length
  | [], b, _, _ => Nat.zero_le b.length
  | x :: a, b, h, e => by
    rw [List.nodup_cons] at h
    have hx : x ∈ b := e List.mem_cons_self
    have := nodup_sub_len (a := a) (b := b.erase x) h.2 fun y hy => (List.mem_erase_of_ne fun z : y = x => h.1 (z ▸ hy)).mpr (e (List.mem_cons_of_mem _ hy))
    rw [List.length_erase_of_mem hx] at this
    have := List.length_pos_of_mem hx
    simp only [List.length_cons]
    omega
theorem KN.sub {l l' : List (Int × Int)} (h : KN l) (e : ∀ c i, lookI l c = some i → lookI l' c = some i) : l.length ≤ l'.length := by
  have sub : l.map (·.1) ⊆ l'.map (·.1) := fun c hc => by
    obtain ⟨p, hp, rfl⟩ := List.mem_map.mp hc
    exact List.mem_map.mpr ⟨_, lookI_mem (e _ _ (h.look hp)), rfl⟩
  have := nodup_sub_len h sub
  simpa using this
theorem same_dI {l l' : List (Int × Int)} (h : KN l) (h' : KN l') (e : ∀ c, lookI l c = lookI l' c) : sameK (dI l) (dI l') := by
  have len : l.length = l'.length := Nat.le_antisymm (h.sub fun c i z => (e c).symm.trans z) (h'.sub fun c i z => (e c).trans z)
  refine ⟨by unfold dI; rw [List.length_map, List.length_map, len], fun p hp => ?_⟩
  unfold dI at hp
  obtain ⟨q, hq, rfl⟩ := (List.mem_map).1 hp
  refine ⟨?_, rfl⟩
  show look (dI l') (.inl q.1) = _
  rw [look_dI, ← e, h.look hq]
  rfl
/-! sorted, a list of whole numbers or a dict by such keys -/
def keysI : List (Key × D) → Option (List Int)
  | [] => some []
  | (.inl i, _) :: m => (keysI m).map (i :: ·)
  | _ => none
theorem keysI_dI (l : List (Int × Int)) : keysI (dI l) = some (l.map (·.1)) := by
  induction l with
  | nil => rfl
  | cons p l ih =>
    unfold dI at *
    rw [List.map_cons, keysI, ih]
    rfl
theorem RK.keysI {K : PySem.W.Frag} {C : Tbl} {w : Vw} : ∀ {vs : List (Key × V)} {m : List (Key × D)} {ks : List Int}, RK K C w vs m → G.keysI m = some ks → vs.map (·.1) = ks.map Sum.inl
  | _, _, _, .nil, e => by simp [G.keysI] at e; subst e; rfl
  | _, _, _, .cons (k := k) h t, e => by
    cases k with
    | inl i =>
      simp only [G.keysI, Option.map_eq_some_iff] at e
      obtain ⟨ks, e1, rfl⟩ := e
      simp [RK.keysI t e1]
    | inr x => cases e
def oSorted : DCl := fun xs s Q => match xs with
  | [x] => (match unlk (deref s x) with
    | .lst ds => (match intsOf ds with | some ns => ∀ ys : List Int, ys.Perm ns → ys.Pairwise (· ≤ ·) → Q (.lst (ys.map D.int)) s | none => False)
    | .ro ds => (match intsOf ds with | some ns => ∀ ys : List Int, ys.Perm ns → ys.Pairwise (· ≤ ·) → Q (.lst (ys.map D.int)) s | none => False)
    | .dK m => (match keysI m with | some ns => ns.length < 64 ∧ ∀ ys : List Int, ys.Perm ns → ys.Pairwise (· ≤ ·) → Q (.lst (ys.map D.int)) s | none => False)
    | _ => False)
  | _ => False
def rSortA (K : PySem.W.Frag) : List V → Hp → VK → Prop := fun xs H Q => rSortedI K xs H Q ∨ (∃ (a : Addr) (kvs : List (Key × V)) (ks : List Int), xs = [.ref a] ∧ Rd H a (.dK kvs) ∧ kvs.map (·.1) = ks.map Sum.inl ∧ ks.length < 64 ∧
    ∀ (ys : List Int) (p : Addr), ys.Perm ks → ys.Pairwise (· ≤ ·) → H p = none → Q (.ref p) (upd H p (.lst (ys.map V.int))))
theorem call_sortA {X : Cx} (hc : X.calm = true) : CallR X (.builtin "sorted") (rSortA X.K) := cr_sortedI.or (call_sortedDI hc)
theorem oc_sorted {K : PySem.W.Frag} {C : Tbl} {g : Gw} {L : Lk} : ClN K C g L (rSortA K) oSorted := by
  intro kw io O H σ sd s xs vs Qd Q S rx h k
  unfold oSorted at h
  split at h
  · obtain ⟨v, rfl, ry⟩ := rx.one
    have fin : ∀ ns : List Int, (∀ ys : List Int, ys.Perm ns → ys.Pairwise (· ≤ ·) → Qd (.lst (ys.map D.int)) s) → ∀ (ys : List Int) (p : Addr), ys.Perm ns → ys.Pairwise (· ≤ ·) → H p = none → Q (.ref p) (upd H p (.lst (ys.map V.int))) := fun ns h ys p h1 h2 hp => by
      obtain ⟨S2, T2, hn⟩ := S.newRes (ho := .lst (ys.map V.int)) hp
      exact k _ s io _ p _ (h ys h1 h2) S2 T2 hn upd_same (by intro _ _ z; cases z) (.lst (RL.of_ints ys))
    split at h
    · rename_i ds e
      split at h
      · rename_i ns en
        obtain ⟨a, ws, rfl, hs, r⟩ := ry.seqL S (.inl (ry.unlk S e (by intro _ z; cases z) (by intro _ z; cases z)))
        have := r.ints en
        subst this
        exact .inl ⟨a, ns, rfl, hs, fin ns h⟩
      · exact h.elim
    · rename_i ds e
      split at h
      · rename_i ns en
        obtain ⟨a, ws, rfl, hs, r⟩ := ry.seqL S (.inr (ry.unlk S e (by intro _ z; cases z) (by intro _ z; cases z)))
        have := r.ints en
        subst this
        exact .inl ⟨a, ns, rfl, hs, fin ns h⟩
      · exact h.elim
    · rename_i m e
      split at h
      · rename_i ns en
        obtain ⟨a, ws, rfl, hs, r⟩ := ry.dK S e
        exact .inr ⟨a, ws, ns, rfl, hs, r.keysI en, h.1, fin ns h.2⟩
      · exact h.elim
    · exact h.elim
  · exact h.elim
theorem KN.nil : KN [] := List.nodup_nil
theorem lookI_nil (c : Int) : lookI [] c = none := rfl
theorem oIx_tc (a : D) (xs : List D) (i : Int) (s : Store) (Q : DK) : oIx (.v (.tup (a :: xs))) (.v (.int i)) s Q = optK (atI (a :: xs) i) Q s := rfl
theorem optK_some (d : D) (Q : DK) (s : Store) : optK (some d) Q s = Q d s := rfl
theorem atI_lit {α : Type} (xs : List α) (i : Int) : atI xs i = if 0 ≤ i then (if i < xs.length then xs[i.toNat]? else none) else if -(xs.length : Int) ≤ i then xs[(i + xs.length).toNat]? else none := by
  unfold atI ixN
  by_cases h : 0 ≤ i
  · rw [if_pos h, if_pos h]
    by_cases h2 : i < xs.length
    · rw [if_pos h2, if_pos h2]; rfl
    · rw [if_neg h2, if_neg h2]; rfl
  · rw [if_neg h, if_neg h]
    by_cases h2 : -(xs.length : Int) ≤ i
    · rw [if_pos h2, if_pos h2]; rfl
    · rw [if_neg h2, if_neg h2]; rfl
theorem tup0 (a : D) (l : List D) : atI (a :: l) 0 = some a := by rw [atI_lit]; simp
theorem tup1 (a b : D) (l : List D) : atI (a :: b :: l) 1 = some b := by
  rw [atI_lit, if_pos (by decide), if_pos (by simp only [List.length_cons]; omega)]; rfl
theorem tup2 (a b c : D) (l : List D) : atI (a :: b :: c :: l) 2 = some c := by
  rw [atI_lit, if_pos (by decide), if_pos (by simp only [List.length_cons]; omega)]; rfl
theorem tup3 (a b c d : D) (l : List D) : atI (a :: b :: c :: d :: l) 3 = some d := by
  rw [atI_lit, if_pos (by decide), if_pos (by simp only [List.length_cons]; omega)]; rfl
theorem tup4 (a b c d e : D) (l : List D) : atI (a :: b :: c :: d :: e :: l) 4 = some e := by
  rw [atI_lit, if_pos (by decide), if_pos (by simp only [List.length_cons]; omega)]; rfl
theorem tup5 (a b c d e f : D) (l : List D) : atI (a :: b :: c :: d :: e :: f :: l) 5 = some f := by
  rw [atI_lit, if_pos (by decide), if_pos (by simp only [List.length_cons]; omega)]; rfl
theorem look_dIV (l : List (Int × Int)) (c z : Int) : ((look (dI l) (.inl c)).getD (.int z)) = .int ((lookI l c).getD z) := by
  rw [look_dI]
  cases lookI l c <;> rfl
theorem isSome_dI (l : List (Int × Int)) (c : Int) : (look (dI l) (.inl c)).isSome = (lookI l c).isSome := by
  rw [look_dI]
  cases lookI l c <;> rfl
theorem setIt_dI {l : List (Int × Int)} (h : l.length < lim) (c i : Int) : setIt (.dK (dI l)) (.int c) (.int i) = some (.dK (dI (putI l c i))) := by
  show (if (dI l).length < lim then (keyOf (.int c)).map fun q => D.dK (put (dI l) q (.int i)) else none) = _
  have : (dI l).length = l.length := by unfold dI; rw [List.length_map]
  rw [this, if_pos h]
  show some (D.dK (put (dI l) (.inl c) (.int i))) = _
  rw [put_dI]
theorem oIx_dI {l : List (Int × Int)} {c i : Int} {s : Store} {Q : DK} {x : Sl} (hx : deref s x = .dK (dI l)) (h : lookI l c = some i) (q : Q (.int i) s) : oIx x (.v (.int c)) s Q := by
  unfold oIx
  rw [hx]
  show optK (look (dI l) (.inl c)) Q s
  rw [look_dI, h]
  exact q
theorem oIn_dI {neg : Bool} {l : List (Int × Int)} {c : Int} {s : Store} {Q : DK} {y : Sl} (hx : deref s y = .dK (dI l)) (q : Q (.bl (neg ^^ (lookI l c).isSome)) s) : oIn neg (.v (.int c)) y s Q := by
  unfold oIn
  rw [hx]
  show Q (.bl (neg ^^ (look (dI l) (.inl c)).isSome)) s
  rw [isSome_dI]
  exact q
theorem eqD_refl {n : Nat} {d : D} (h : okE n d = true) : eqD d d = true := PySem.SeqAt.eqv_refl _ (okE_shape n d h).1
theorem unlk_non  : unlk (.non) = .non := rfl
theorem unlk_bl (x : Bool) : unlk (.bl x) = .bl x := rfl
theorem unlk_int (x : Int) : unlk (.int x) = .int x := rfl
theorem unlk_str (x : Str) : unlk (.str x) = .str x := rfl
theorem unlk_tup (x : List D) : unlk (.tup x) = .tup x := rfl
theorem unlk_lst (x : List D) : unlk (.lst x) = .lst x := rfl
theorem unlk_ro (x : List D) : unlk (.ro x) = .ro x := rfl
theorem unlk_dK (x : List (Key × D)) : unlk (.dK x) = .dK x := rfl
theorem unlk_dT (x : List (List Key × D)) : unlk (.dT x) = .dT x := rfl
theorem unlk_ins (c : Nat) (x : List D) : unlk (.ins c x) = .ins c x := rfl
theorem unlk_ref (x : Nat) : unlk (.ref x) = .ref x := rfl
theorem unlk_lk (x : D) : unlk (.lk x) = x := rfl
def oEqD (neg : Bool) (a b : D) (s : Store) (Q : DK) : Prop := match a, b with
  | .int i, .int j => Q (.bl (neg ^^ decide (i = j))) s
  | .str a, .str b => Q (.bl (neg ^^ decide (a = b))) s
  | .bl a, .bl b => Q (.bl (neg ^^ decide (a = b))) s
  | .dK a, .dK b => sameK a b ∧ Q (.bl !neg) s
  | dx, dy => okE 40 dx = true ∧ okE 40 dy = true ∧ Q (.bl (neg ^^ eqD dx dy)) s
theorem oEq_D (neg : Bool) (x y : Sl) (s : Store) (Q : DK) : oEq neg x y s Q = oEqD neg (unlk (deref s x)) (unlk (deref s y)) s Q := by
  unfold oEq oEqD
  rfl
theorem oEqD_ii (neg : Bool) (i j : Int) (s : Store) (Q : DK) : oEqD neg (.int i) (.int j) s Q = Q (.bl (neg ^^ decide (i = j))) s := rfl
theorem oEqD_ss (neg : Bool) (i j : Str) (s : Store) (Q : DK) : oEqD neg (.str i) (.str j) s Q = Q (.bl (neg ^^ decide (i = j))) s := rfl
theorem oEqD_bb (neg : Bool) (i j : Bool) (s : Store) (Q : DK) : oEqD neg (.bl i) (.bl j) s Q = Q (.bl (neg ^^ decide (i = j))) s := rfl
theorem oEqD_dd (neg : Bool) (i j : List (Key × D)) (s : Store) (Q : DK) : oEqD neg (.dK i) (.dK j) s Q = (sameK i j ∧ Q (.bl !neg) s) := rfl
theorem oEqD_ll (neg : Bool) (i j : List D) (s : Store) (Q : DK) : oEqD neg (.lst i) (.lst j) s Q = (okE 40 (.lst i) = true ∧ okE 40 (.lst j) = true ∧ Q (.bl (neg ^^ eqD (.lst i) (.lst j))) s) := rfl
theorem oEqD_tt (neg : Bool) (i j : List D) (s : Store) (Q : DK) : oEqD neg (.tup i) (.tup j) s Q = (okE 40 (.tup i) = true ∧ okE 40 (.tup j) = true ∧ Q (.bl (neg ^^ eqD (.tup i) (.tup j))) s) := rfl
theorem oEqD_nn (neg : Bool) (s : Store) (Q : DK) : oEqD neg .non .non s Q = Q (.bl !neg) s := by
  have e : eqD .non .non = true := eqD_refl (n := 1) rfl
  show (okE 40 .non = true ∧ okE 40 .non = true ∧ Q (.bl (neg ^^ eqD .non .non)) s) = _
  rw [e]
  simp [okE]
theorem map_get {α β : Type} {f : α → β} {xs : List α} {i : Nat} {d : β} (e : (xs.map f)[i]? = some d) : ∃ x, xs[i]? = some x ∧ d = f x := by
  rw [List.getElem?_map] at e
  cases q : xs[i]? with
  | none => simp [q] at e
  | some x => rw [q] at e; cases e; exact ⟨x, rfl, rfl⟩
theorem dItems_dI (l : List (Int × Int)) : dItems (dI l) = l.map fun p => .tup [.int p.1, .int p.2] := by
  unfold dItems dI
  rw [List.map_map]
  rfl
theorem take_snoc {α : Type} {xs : List α} {i : Nat} {x : α} (e : xs[i]? = some x) : xs.take (i + 1) = xs.take i ++ [x] := by
  rw [List.take_add_one, e]; rfl
theorem cut_mem {α : Type} {xs : List α} {lo hi : Option Int} {x : α} (h : x ∈ cut xs lo hi) : x ∈ xs := by
  unfold cut at h
  exact List.mem_of_mem_drop (List.mem_of_mem_take h)
theorem cut_from (n : Nat) {α : Type} (xs : List α) (h : n ≤ xs.length) : cut xs (some (n : Int)) none = xs.drop n := by
  unfold cut
  rw [HT.sIx_nat, HT.sIx_none, Nat.min_eq_left h]
  exact List.take_of_length_le (by simp only [List.length_drop]; omega)
theorem oSorted_dI {x : Sl} {l : List (Int × Int)} {s : Store} {Q : DK} (hx : deref s x = .dK (dI l)) (hl : l.length < 64) (q : ∀ ys : List Int, ys.Perm (l.map (·.1)) → ys.Pairwise (· ≤ ·) → Q (.lst (ys.map D.int)) s) : oSorted [x] s Q := by
  unfold oSorted
  simp only [hx, unlk]
  rw [keysI_dI]
  exact ⟨by rw [List.length_map]; exact hl, q⟩
end G
namespace G
open PySem L2
/-- nothing is let out -/
abbrev E0 : XK := fun cls d H => False
theorem passes0 {X : Cx} : Passes (L2.CX X.prog X.w) X E0 := fun _ _ _ _ _ _ _ c => by
  obtain ⟨_, _, _, _, _, _, _, _, _, _, _, _, h⟩ := c
  exact h.elim
section
variable {K : PySem.W.Frag} {C : Tbl} {g : Gw} {L : Lk} {kw : Vw} {io : List Addr} {O : Addr → Prop} {H : Hp} {σ : St} {sd : DSt} {s : Store}
/-- a promise without exceptions, from the caller's state -/
theorem call_frz0 {sp : DSp} {vs : List V} {ds : List D} {Qd : DK} {Q : VK} (S : StOk K C g L kw io O H σ sd s) (r : RL K C (vw g io O H) vs ds) (h : sp ds s (fun r s' => Qd (frzS r) s') (fun _ _ => False))
    (k : ∀ d s' io' H' v, Qd d s' → StOk K C g L kw io' O H' σ sd s' → Stp g io O H io' O H' → RD K C (vw g io' O H') v d → Q v H') : LF K C sp vs H Q E0 := by
  refine ⟨fun a => g.B a ∨ O a, io, s, ds, _, _, S.callIn, r.grow vw_in, h, fun r s' io' H' v P q R rr => ?_, fun x s' io' H' cls d q => q.elim⟩
  cases rr with
  | v rd =>
    obtain ⟨S2, T2, _, G2⟩ := S.callOut (O' := O) R (fun a => ⟨.inl, fun z => z.elim id False.elim⟩)
    exact k _ s' io' H' v q S2 T2 (rd.grow G2)
  | @o a ho d h1 nf rc =>
    obtain ⟨S2, T2, hn, G2⟩ := S.callOut (O' := ores O a) R (fun a => Iff.rfl)
    obtain ⟨S3, G3⟩ := S2.unres (hn a rfl) (S.noOwn (hn a rfl))
    refine k _ s' io' H' (.ref a) q S3 ⟨T2.gr.trans G3, T2.ow⟩ (RC.frz ?_ h1 nf ((rc.grow G2).grow G3))
    exact fun z => z.elim (fun z => (S2.bd a z).2.1 (.inr rfl)) fun z => z.elim (S2.dj a (.inr rfl)) (hn a rfl)
/-- .. that gives a new container -/
theorem call_own0 {sp : DSp} {vs : List V} {ds : List D} {Qd : DK} {Q : VK} (S : StOk K C g L kw io O H σ sd s) (r : RL K C (vw g io O H) vs ds) (h : sp ds s (fun r s' => match r with | .o d => Qd d s' | _ => False) (fun _ _ => False))
    (k : ∀ d s' io' H' p ho, Qd d s' → StOk K C g L kw io' (ores O p) H' σ sd s' → Stp g io O H io' (ores O p) H' → ¬ O p → H' p = some ho → (∀ od u, ho ≠ .frz od u) → RC K C (vw g io' (ores O p) H') ho d → Q (.ref p) H') : LF K C sp vs H Q E0 := by
  refine ⟨fun a => g.B a ∨ O a, io, s, ds, _, _, S.callIn, r.grow vw_in, h, fun r s' io' H' v P q R rr => ?_, fun x s' io' H' cls d q => q.elim⟩
  cases rr with
  | v rd => exact q.elim
  | @o a ho d h1 nf rc =>
    obtain ⟨S2, T2, hn, G2⟩ := S.callOut (O' := ores O a) R (fun a => Iff.rfl)
    exact k _ s' io' H' a ho q S2 T2 (hn a rfl) h1 nf (rc.grow G2)
/-! ### an object's fields, by their places -/
theorem zip_look {fl : List Str} {f : Str} (nd : fl.Nodup) : ∀ {j : Nat} {vs : List V} {v : V}, fl[j]? = some f → vs[j]? = some v → (fl.zip vs).lookup f = some v := by
  induction fl with
  | nil => intro j vs v e _; simp at e
  | cons y fl ih =>
    intro j vs v e e2
    rw [List.nodup_cons] at nd
    cases vs with
    | nil => simp at e2
    | cons w vs =>
      cases j with
      | zero =>
        simp at e e2
        subst e e2
        simp [List.lookup]
      | succ j =>
        have e' : fl[j]? = some f := by simpa using e
        have ne : (f == y) = false := by
          have : f ≠ y := fun z => nd.1 (z ▸ List.mem_of_getElem? e')
          simpa using this
        rw [List.zip_cons_cons, List.lookup_cons, ne]
        exact ih nd.2 e' (by simpa using e2)
theorem zip_no {fl : List Str} {m : Str} (h : m ∉ fl) : ∀ (vs : List V), (fl.zip vs).lookup m = none := by
  induction fl with
  | nil => intro vs; rfl
  | cons y fl ih =>
    intro vs
    cases vs with
    | nil => rfl
    | cons v vs =>
      have ne : (m == y) = false := by
        have : m ≠ y := fun z => h (z ▸ List.mem_cons_self)
        simpa using this
      rw [List.zip_cons_cons, List.lookup_cons, ne]
      exact ih (fun z => h (List.mem_cons_of_mem _ z)) vs
/-- an attribute is put: at its place, or as the next one -/
def putAt {α : Type} (xs : List α) (j : Nat) (x : α) : List α := if j < xs.length then xs.set j x else xs ++ [x]
theorem zip_put {fl : List Str} {f : Str} (nd : fl.Nodup) : ∀ {j : Nat} {vs : List V} (y : V), fl[j]? = some f → j ≤ vs.length → putF f y (fl.zip vs) = fl.zip (putAt vs j y) := by
  induction fl with
  | nil => intro j vs y e _; simp at e
  | cons z fl ih =>
    intro j vs y e hj
    rw [List.nodup_cons] at nd
    cases j with
    | zero =>
      simp at e
      subst e
      cases vs with
      | nil => cases fl <;> simp [putAt, putF]
      | cons w vs => simp [putAt, putF]
    | succ j =>
      have e' : fl[j]? = some f := by simpa using e
      have ne : ¬ z = f := fun q => nd.1 (q ▸ List.mem_of_getElem? e')
      cases vs with
      | nil => simp at hj
      | cons w vs =>
        have hj' : j ≤ vs.length := by simpa using hj
        have := ih nd.2 y e' hj'
        rw [List.zip_cons_cons, putF, if_neg ne, this]
        unfold putAt
        by_cases h : j < vs.length
        · rw [if_pos h, if_pos (by simpa using h), List.set_cons_succ, List.zip_cons_cons]
        · rw [if_neg h, if_neg (by simpa using h), List.cons_append, List.zip_cons_cons]
theorem RL.putAt {w : Vw} {vs : List V} {ds : List D} {j : Nat} {y : V} {d : D} (r : RL K C w vs ds) (h : RD K C w y d) : RL K C w (G.putAt vs j y) (G.putAt ds j d) := by
  unfold G.putAt
  rw [r.length]
  split
  · exact r.set h j
  · exact r.append (.cons h .nil)
end
/-- at which place a class has an attribute -/
structure FldOk (K : PySem.W.Frag) (C : Tbl) (f : Str) (c j : Nat) : Prop where
  cl : Cls K (C.ad c)
  na : NoAttr K (C.ad c) f
  nd : (C.fl c).Nodup
  at_ : (C.fl c)[j]? = some f
  len : (C.fl c).length < 1000
def dFld (js : List (Nat × Nat)) (e : DE) : DE := fun σ s Q => e σ s fun d s' => match deref s' (.v d) with
  | .ins c xs => (match js.lookup c with
    | some j => (match xs[j]? with
      | some x => Q x s'
      | none => False)
    | none => False)
  | _ => False
/-- o.f = value -/
def dFldS (js : List (Nat × Nat)) (o v : DE) : DS := fun D σ s => v σ s fun x s1 => o σ s1 fun p s2 => match p with
  | .ref n => (match s2[n]? with
    | some (.ins c xs) => (match js.lookup c with
      | some j => j ≤ xs.length ∧ D.nx σ (s2.set n (.ins c (putAt xs j x)))
      | none => False)
    | _ => False)
  | _ => False
theorem look_mem {js : List (Nat × Nat)} {c j : Nat} (h : js.lookup c = some j) : (c, j) ∈ js := by
  induction js with
  | nil => cases h
  | cons p js ih =>
    rw [List.lookup_cons] at h
    split at h
    · rename_i e
      cases h
      have : c = p.1 := by simpa using e
      subst this
      exact List.mem_cons_self
    · exact List.mem_cons_of_mem _ (ih h)
section
variable {X : Cx} {C : Tbl} {g : Gw} {L : Lk} {pos pos' : Pos} {f : Str} {js : List (Nat × Nat)} {de dv : DE} {e o value : Expr}
theorem g_fld (hj : ∀ p ∈ js, FldOk X.K C f p.1 p.2) (he : PE X e (LE X.K C g L de)) (hb : attributeBase e f X.env (eval e X.env) = eval e X.env := by rfl) : PE X (.Attribute e f pos) (LE X.K C g L (dFld js de)) := (pe_fld he hb).imp fun σ H Q ⟨kw, io, O, sd, s, Qd, S, h, k⟩ => by
  refine ⟨kw, io, O, sd, s, _, S, h, fun d s1 io1 H1 v q S1 T1 r => ?_⟩
  have ry : RSl X.K C (vw g io1 O H1) O v (.v d) := .v r
  rcases ry.deref S1 with z | ⟨a, ho, e1, e2, z⟩
  · generalize deref s1 (.v d) = t at q z
    cases z with
    | @ins a dx c vs ds x ha rl =>
      have q : (match js.lookup c with | some j => (match ds[j]? with | some x => Qd x s1 | none => False) | none => False) := q
      split at q
      · rename_i j ej
        have F := hj _ (look_mem ej)
        split at q
        · rename_i y ey
          obtain ⟨vy, hv, ry⟩ := rl.get ey
          exact ⟨a, C.ad c, dx, _, vy, rfl, ha, F.cl, F.na, zip_look F.nd F.at_ hv, k _ s1 io1 H1 vy q S1 T1 ry⟩
        · exact q.elim
      · exact q.elim
    | _ => exact False.elim q
  · generalize deref s1 (.v d) = t at q z
    subst e1
    cases z with
    | @ins dx c vs ds rl =>
      have q : (match js.lookup c with | some j => (match ds[j]? with | some x => Qd x s1 | none => False) | none => False) := q
      split at q
      · rename_i j ej
        have F := hj _ (look_mem ej)
        split at q
        · rename_i y ey
          obtain ⟨vy, hv, ry⟩ := rl.get ey
          exact ⟨a, C.ad c, dx, _, vy, rfl, e2, F.cl, F.na, zip_look F.nd F.at_ hv, k _ s1 io1 H1 vy q S1 T1 ry⟩
        · exact q.elim
      · exact q.elim
    | _ => exact False.elim q
theorem gs_fld (hj : ∀ p ∈ js, FldOk X.K C f p.1 p.2) (ho : PE X o (LE X.K C g L de)) (hv : PE X value (LE X.K C g L dv)) (hs : swapsWith value (some (.Attribute o f pos')) pos.line X.env = pure false) : PS X (.Assign [.Attribute o f pos'] value pos) (LS X.K C g L (dFldS js de dv)) :=
  (ps_fld ho hv hs).imp fun T σ H ⟨kw, io, O, sd, s, D, S, h, E⟩ => by
  refine ⟨kw, io, O, sd, s, _, S, h, fun x s1 io1 H1 y q S1 T1 rx => ⟨kw, io1, O, sd, s1, _, S1, q, fun p s2 io2 H2 v q S2 T2 rp => ?_⟩⟩
  cases rp with
  | @ref n a hn =>
    have hn : io2[n]? = some a := hn
    have q : (match s2[n]? with
      | some (.ins c xs) => (match js.lookup c with
        | some j => j ≤ xs.length ∧ D.nx sd (s2.set n (.ins c (putAt xs j x)))
        | none => False)
      | _ => False) := q
    split at q
    · rename_i c xs es
      obtain ⟨b, ho, q1, q2, rc⟩ := S2.ce.get n _ es
      have q1 : io2[n]? = some b := q1
      rw [hn] at q1; cases q1
      have q2 : H2 a = some ho := q2
      split at q
      · rename_i j ej
        have F := hj _ (look_mem ej)
        cases rc with
        | @ins dx _ vs _ rl =>
          have ll : ((C.fl c).zip vs).length < 1000 := by
            rw [List.length_zip]
            have h1 : (C.fl c).length < 1000 := F.len
            omega
          refine ⟨a, C.ad c, dx, _, rfl, q2, F.cl, F.na, ll, ?_⟩
          rw [zip_put F.nd y F.at_ (by rw [rl.length]; exact q.1)]
          obtain ⟨S3, G3⟩ := S2.write (o := .ins (C.ad c) dx ((C.fl c).zip (putAt vs j y))) (d := .ins c (putAt xs j x)) hn q2 (by intro _ _ z; cases z) (.ins (rl.putAt (rx.grow T2.gr)))
          exact E.nx io2 O _ σ sd _ q.2 S3
      · exact q.elim
    · exact q.elim
  | _ => exact False.elim q
end
end G
namespace G
open PySem L2
/-! ### methods and constructors (that let nothing out) -/
def dMeth (c : Nat) (sp : DSp) (dds : List D) (o : DE) (a : DA) : DE := fun σ s Q => o σ s fun x s1 => match deref s1 (.v x) with
  | .ins c' _ => c' = c ∧ a σ s1 fun ds s2 => sp (x :: (ds ++ dds)) s2 (fun r s' => Q (frzS r) s') (fun _ _ => False)
  | _ => False
def dMethO (c : Nat) (sp : DSp) (dds : List D) (o : DE) (a : DA) : DE := fun σ s Q => o σ s fun x s1 => match deref s1 (.v x) with
  | .ins c' _ => c' = c ∧ a σ s1 fun ds s2 => sp (x :: (ds ++ dds)) s2 (fun r s' => match r with | .o d => Q d s' | _ => False) (fun _ _ => False)
  | _ => False
/-- C(..) by __init__: the object is a new cell -/
def dMake (c : Nat) (sp : DSp) (dds : List D) (a : DA) : DE := fun σ s Q => a σ s fun ds s1 => sp (.ref s1.length :: (ds ++ dds)) (s1 ++ [.ins c []]) (fun r s' => frzS r = .non ∧ Q (.ref s1.length) s') (fun _ _ => False)
section
variable {X : Cx} {C : Tbl} {g : Gw} {L : Lk} {pos p apos : Pos} {k : Nat} {f : Addr} {fd : FuncData} {ps : List Str} {sp : DSp} {dvs : List V} {dds : List D} {ds : List Value} {x m : Str} {e o : Expr} {es : List Expr} {da : DA} {c : Nat} {de : DE}
theorem ins_at {K : PySem.W.Frag} {kw : Vw} {io : List Addr} {O : Addr → Prop} {H : Hp} {σ : St} {sd : DSt} {s : Store} (S : StOk K C g L kw io O H σ sd s) {v : V} {d : D} (r : RD K C (vw g io O H) v d) {c : Nat} {xs : List D} (h : deref s (.v d) = .ins c xs) :
    ∃ a dx vs, v = .ref a ∧ H a = some (.ins (C.ad c) dx ((C.fl c).zip vs)) := by
  have ry : RSl K C (vw g io O H) O v (.v d) := .v r
  rcases ry.deref S with z | ⟨a, ho, e1, e2, z⟩
  · rw [h] at z
    cases z with
    | ins x ha rl => exact ⟨_, _, _, rfl, ha⟩
  · rw [h] at z
    cases z with
    | ins rl => exact ⟨a, _, _, e1, e2⟩
theorem l_meth (hf : m ∉ C.fl c) (hdd : ∀ w, RL X.K C w dvs dds) (σ : St) (H : Hp) (Q : VK) (h : LE X.K C g L (dMeth c sp dds de da) σ H Q) : tMeth (C.ad c) m (LF X.K C sp) dvs E0 (LE X.K C g L de) (LA X.K C g L da) σ H Q := by
  obtain ⟨kw, io, O, sd, s, Qd, S, h, k⟩ := h
  refine ⟨kw, io, O, sd, s, _, S, h, fun d s1 io1 H1 v q S1 T1 r => ?_⟩
  split at q
  · rename_i c' xs ed
    obtain ⟨rfl, q⟩ := q
    obtain ⟨a, dx, vs, rfl, ha⟩ := ins_at S1 r ed
    refine ⟨a, dx, _, rfl, ha, zip_no hf vs, kw, io1, O, sd, s1, _, S1, q, fun ds s2 io2 H2 ws q2 S2 T2 rs => ?_⟩
    exact call_frz0 S2 (.cons (r.grow T2.gr) (rs.append (hdd _))) q2 fun d s' io' H' v q' S' T' r' => k d s' io' H' v q' S' ((T1.trans T2).trans T') r'
  · exact q.elim
theorem l_methO (hf : m ∉ C.fl c) (hdd : ∀ w, RL X.K C w dvs dds) (σ : St) (H : Hp) (Q : VK) (h : LO X.K C g L (dMethO c sp dds de da) σ H Q) : tMeth (C.ad c) m (LF X.K C sp) dvs E0 (LE X.K C g L de) (LA X.K C g L da) σ H Q := by
  obtain ⟨kw, io, O, sd, s, Qd, S, h, k⟩ := h
  refine ⟨kw, io, O, sd, s, _, S, h, fun d s1 io1 H1 v q S1 T1 r => ?_⟩
  split at q
  · rename_i c' xs ed
    obtain ⟨rfl, q⟩ := q
    obtain ⟨a, dx, vs, rfl, ha⟩ := ins_at S1 r ed
    refine ⟨a, dx, _, rfl, ha, zip_no hf vs, kw, io1, O, sd, s1, _, S1, q, fun ds s2 io2 H2 ws q2 S2 T2 rs => ?_⟩
    exact call_own0 S2 (.cons (r.grow T2.gr) (rs.append (hdd _))) q2 fun d s' io' H' p ho q' S' T' => k d s' io' H' p ho q' S' ((T1.trans T2).trans T')
  · exact q.elim
theorem ga_nilT : ∀ (σ : St) (H : Hp) (R : List V → Hp → Prop), LA X.K C g L aNil σ H R → tNil σ H R := fun σ H R ⟨kw, io, O, sd, s, Qd, S, h, k⟩ => k [] s io H [] h S (Stp.refl ..) .nil
theorem g_meth {pl : Sem Bool} (he : PE X o (LE X.K C g L de)) (hc : Cls X.K (C.ad c)) (hm : Meth X.K (C.ad c) m f) (hf : m ∉ C.fl c) (F : FnOk X.prog X.w X.K X.mg X.base (L2.CX X.prog X.w) k f fd ps (LF X.K C sp)) (hr : Room k X.A) (hb : Binds X.K fd ps ds) (hd : Vals dvs ds) (hdd : ∀ w, RL X.K C w dvs dds)
    (ha : PA X (e :: es) (LA X.K C g L da)) (hst : starEach (e :: es) X.env = (false, eval e X.env) :: starEach es X.env := by rfl) (hpl : (backTo pos (starEach es X.env)).any (·.1) = false := by rfl)
    (ht : eval (.Call (.Attribute o m apos) (e :: es) [] pos) X.env = (do let ov ← eval o X.env; standAt apos.atName; let (f, first) ← holding [ov] (getMethod ov m pl); callWith pos f first (backTo pos (starEach (e :: es) X.env)) (backToKw pos (keywordEach [] X.env))) := by rfl) : PE X (.Call (.Attribute o m apos) (e :: es) [] pos) (LE X.K C g L (dMeth c sp dds de da)) :=
  (pe_meth (pl := pl) he hc hm F hr hb hd passes0 ha hst hpl ht).imp (l_meth hf hdd)
theorem g_methO {pl : Sem Bool} (he : PE X o (LE X.K C g L de)) (hc : Cls X.K (C.ad c)) (hm : Meth X.K (C.ad c) m f) (hf : m ∉ C.fl c) (F : FnOk X.prog X.w X.K X.mg X.base (L2.CX X.prog X.w) k f fd ps (LF X.K C sp)) (hr : Room k X.A) (hb : Binds X.K fd ps ds) (hd : Vals dvs ds) (hdd : ∀ w, RL X.K C w dvs dds)
    (ha : PA X (e :: es) (LA X.K C g L da)) (hst : starEach (e :: es) X.env = (false, eval e X.env) :: starEach es X.env := by rfl) (hpl : (backTo pos (starEach es X.env)).any (·.1) = false := by rfl)
    (ht : eval (.Call (.Attribute o m apos) (e :: es) [] pos) X.env = (do let ov ← eval o X.env; standAt apos.atName; let (f, first) ← holding [ov] (getMethod ov m pl); callWith pos f first (backTo pos (starEach (e :: es) X.env)) (backToKw pos (keywordEach [] X.env))) := by rfl) : PE X (.Call (.Attribute o m apos) (e :: es) [] pos) (LO X.K C g L (dMethO c sp dds de da)) :=
  (pe_meth (pl := pl) he hc hm F hr hb hd passes0 ha hst hpl ht).imp (l_methO hf hdd)
theorem g_meth0 {pl : Sem Bool} (he : PE X o (LE X.K C g L de)) (hc : Cls X.K (C.ad c)) (hm : Meth X.K (C.ad c) m f) (hf : m ∉ C.fl c) (F : FnOk X.prog X.w X.K X.mg X.base (L2.CX X.prog X.w) k f fd ps (LF X.K C sp)) (hr : Room k X.A) (hb : Binds X.K fd ps ds) (hd : Vals dvs ds) (hdd : ∀ w, RL X.K C w dvs dds)
    (ht : eval (.Call (.Attribute o m apos) [] [] pos) X.env = (do let ov ← eval o X.env; standAt apos.atName; let (f, first) ← holding [ov] (getMethod ov m pl); callWith pos f first (backTo pos (starEach [] X.env)) (backToKw pos (keywordEach [] X.env))) := by rfl) : PE X (.Call (.Attribute o m apos) [] [] pos) (LE X.K C g L (dMeth c sp dds de aNil)) :=
  (pe_meth0 (pl := pl) he hc hm F hr hb hd passes0 ht).imp fun σ H Q h => by
    obtain ⟨kw, io, O, sd, s, Qd, S, h, k⟩ := l_meth (m := m) (dvs := dvs) hf hdd σ H Q h
    exact ⟨kw, io, O, sd, s, Qd, S, h, fun d s' io' H' v q S' T' r => by
      obtain ⟨a, dx, fs, e1, e2, e3, q2⟩ := k d s' io' H' v q S' T' r
      exact ⟨a, dx, fs, e1, e2, e3, ga_nilT _ _ _ q2⟩⟩
theorem g_methO0 {pl : Sem Bool} (he : PE X o (LE X.K C g L de)) (hc : Cls X.K (C.ad c)) (hm : Meth X.K (C.ad c) m f) (hf : m ∉ C.fl c) (F : FnOk X.prog X.w X.K X.mg X.base (L2.CX X.prog X.w) k f fd ps (LF X.K C sp)) (hr : Room k X.A) (hb : Binds X.K fd ps ds) (hd : Vals dvs ds) (hdd : ∀ w, RL X.K C w dvs dds)
    (ht : eval (.Call (.Attribute o m apos) [] [] pos) X.env = (do let ov ← eval o X.env; standAt apos.atName; let (f, first) ← holding [ov] (getMethod ov m pl); callWith pos f first (backTo pos (starEach [] X.env)) (backToKw pos (keywordEach [] X.env))) := by rfl) : PE X (.Call (.Attribute o m apos) [] [] pos) (LO X.K C g L (dMethO c sp dds de aNil)) :=
  (pe_meth0 (pl := pl) he hc hm F hr hb hd passes0 ht).imp fun σ H Q h => by
    obtain ⟨kw, io, O, sd, s, Qd, S, h, k⟩ := l_methO (m := m) (dvs := dvs) hf hdd σ H Q h
    exact ⟨kw, io, O, sd, s, Qd, S, h, fun d s' io' H' v q S' T' r => by
      obtain ⟨a, dx, fs, e1, e2, e3, q2⟩ := k d s' io' H' v q S' T' r
      exact ⟨a, dx, fs, e1, e2, e3, ga_nilT _ _ _ q2⟩⟩
theorem l_make (hdd : ∀ w, RL X.K C w dvs dds) (σ : St) (H : Hp) (Q : VK) (h : LE X.K C g L (dMake c sp dds da) σ H Q) : tMake (C.ad c) (LF X.K C sp) dvs E0 (LA X.K C g L da) σ H Q := by
  obtain ⟨kw, io, O, sd, s, Qd, S, h, k⟩ := h
  refine ⟨kw, io, O, sd, s, _, S, h, fun ds s1 io1 H1 vs q S1 T1 rs x dx hx hdx ne => ?_⟩
  obtain ⟨S2, T2⟩ := S1.stpNew (o := .own x) hdx
  have hx2 : upd H1 dx (.own x) x = none := by rw [upd_ne (Ne.symm ne)]; exact hx
  obtain ⟨S3, G3⟩ := S2.newCell (o := .ins (C.ad c) dx []) (d := .ins c []) hx2 (by
    have e : ((C.fl c).zip ([] : List V)) = [] := List.zip_nil_right
    have := RC.ins (K := X.K) (C := C) (w := vw g io1 O (upd H1 dx (.own x))) (dx := dx) (c := c) (vs := []) (ds := []) .nil
    rw [e] at this
    exact this)
  have T3 : Stp g io1 O (upd H1 dx (.own x)) (io1 ++ [x]) O (upd (upd H1 dx (.own x)) x (.ins (C.ad c) dx [])) := by
    refine ⟨G3, fun a ha => ?_⟩
    have : a ≠ x := fun z => by
      obtain ⟨_, u, e⟩ := S2.od a ha
      rw [z, hx2] at e; cases e
    exact upd_ne this
  have hl : io1.length = s1.length := S1.ce.len
  have rx : RD X.K C (vw g (io1 ++ [x]) O (upd (upd H1 dx (.own x)) x (.ins (C.ad c) dx []))) (.ref x) (.ref s1.length) := .ref (by
    show (io1 ++ [x])[s1.length]? = some x
    rw [← hl]
    exact List.getElem?_concat_length)
  refine call_frz0 (Qd := fun d s' => d = .non ∧ Qd (.ref s1.length) s') S3 (.cons rx (((rs.grow T2.gr).grow T3.gr).append (hdd _))) q fun d s' io' H' v q' S' T' r' => ?_
  obtain ⟨rfl, q'⟩ := q'
  cases r'
  exact ⟨rfl, k _ s' io' H' (.ref x) q' S' (((T1.trans T2).trans T3).trans T') (rx.grow T'.gr)⟩
theorem g_make (M : Mk X.K (C.ad c) f) (F : FnOk X.prog X.w X.K X.mg X.base (L2.CX X.prog X.w) k f fd ps (LF X.K C sp)) (hr : Room (k + 1) X.A) (hg : Gl X x) (hm : X.mg x = some (.ref (C.ad c))) (hb : Binds X.K fd ps ds) (hd : Vals dvs ds) (hdd : ∀ w, RL X.K C w dvs dds)
    (ha : PA X (e :: es) (LA X.K C g L da)) (hdb : (x == ("__debug__" : Str)) = false := by decide) (he : starEach (e :: es) X.env = (false, eval e X.env) :: starEach es X.env := by rfl) (hpl : (backTo pos (starEach es X.env)).any (·.1) = false := by rfl) :
    PE X (.Call (.Name x p) (e :: es) [] pos) (LE X.K C g L (dMake c sp dds da)) := (pe_make M F hr hg hm hb hd passes0 ha hdb he hpl).imp (l_make hdd)
theorem g_make0 (M : Mk X.K (C.ad c) f) (F : FnOk X.prog X.w X.K X.mg X.base (L2.CX X.prog X.w) k f fd ps (LF X.K C sp)) (hr : Room (k + 1) X.A) (hg : Gl X x) (hm : X.mg x = some (.ref (C.ad c))) (hb : Binds X.K fd ps ds) (hd : Vals dvs ds) (hdd : ∀ w, RL X.K C w dvs dds)
    (hdb : (x == ("__debug__" : Str)) = false := by decide) : PE X (.Call (.Name x p) [] [] pos) (LE X.K C g L (dMake c sp dds aNil)) := (pe_make0 M F hr hg hm hb hd passes0 hdb).imp fun σ H Q h => ga_nilT _ _ _ (l_make (dvs := dvs) hdd σ H Q h)
end
end G
namespace G
open PySem L2
/-! ### list(range(..)) -/
def rgD (a b : Int) : List D := (List.range (b - a).toNat).map fun (i : Nat) => .int (a + i)
def dListR1 (e : DE) : DE := fun σ s Q => e σ s fun d s' => match d with
  | .int j => RgOk 0 j ∧ Q (.lst (rgD 0 j)) s'
  | _ => False
def dListR2 (e f : DE) : DE := fun σ s Q => e σ s fun d s1 => f σ s1 fun c s' => match d, c with
  | .int i, .int j => RgOk i j ∧ Q (.lst (rgD i j)) s'
  | _, _ => False
theorem RL.rg {K : PySem.W.Frag} {C : Tbl} {w : Vw} (a b : Int) : RL K C w (rgV a b) (rgD a b) := by
  unfold rgV rgD
  induction List.range (b - a).toNat with
  | nil => exact .nil
  | cons i l ih => exact .cons (.int _) ih
section
variable {X : Cx} {C : Tbl} {g : Gw} {L : Lk} {p p2 pos pos2 : Pos} {e f : Expr} {de df : DE}
theorem g_listR1 (hc : X.calm = true) (hg : Gl X "list") (hm : X.mg "list" = none) (hg2 : Gl X "range") (hm2 : X.mg "range" = none) (he : PE X e (LE X.K C g L de)) (n1 : starEach [e] X.env = (false, eval e X.env) :: starEach [] X.env := by rfl)
    (n2 : starEach [.Call (.Name "range" p2) [e] [] pos2] X.env = (false, eval (.Call (.Name "range" p2) [e] [] pos2) X.env) :: starEach [] X.env := by rfl) : PE X (.Call (.Name "list" p) [.Call (.Name "range" p2) [e] [] pos2] [] pos) (LO X.K C g L (dListR1 de)) :=
  (pe_listRg hc hg hm (prg_1 hg2 hm2 he n1) n2).imp fun σ H Q ⟨kw, io, O, sd, s, Qd, S, h, k⟩ => by
  refine ⟨kw, io, O, sd, s, _, S, h, fun d s1 io1 H1 v q S1 T1 r => ?_⟩
  cases r with
  | int j =>
    have q : RgOk 0 j ∧ Qd (.lst (rgD 0 j)) s1 := q
    refine ⟨j, rfl, q.1, fun l hl => ?_⟩
    obtain ⟨S2, T2, hn⟩ := S1.newRes (ho := .lst (rgV 0 j)) hl
    exact k _ s1 io1 _ l _ q.2 S2 (T1.trans T2) hn upd_same (by intro _ _ z; cases z) (.lst (.rg 0 j))
  | _ => exact False.elim q
theorem g_listR2 (hc : X.calm = true) (hg : Gl X "list") (hm : X.mg "list" = none) (hg2 : Gl X "range") (hm2 : X.mg "range" = none) (he : PE X e (LE X.K C g L de)) (hf : PE X f (LE X.K C g L df)) (n1 : starEach [e, f] X.env = (false, eval e X.env) :: starEach [f] X.env := by rfl)
    (n3 : starEach [f] X.env = (false, eval f X.env) :: starEach [] X.env := by rfl) (n4 : (backTo pos2 (starEach [f] X.env)).any (·.1) = false := by rfl)
    (n2 : starEach [.Call (.Name "range" p2) [e, f] [] pos2] X.env = (false, eval (.Call (.Name "range" p2) [e, f] [] pos2) X.env) :: starEach [] X.env := by rfl) : PE X (.Call (.Name "list" p) [.Call (.Name "range" p2) [e, f] [] pos2] [] pos) (LO X.K C g L (dListR2 de df)) :=
  (pe_listRg hc hg hm (prg_2 hg2 hm2 he hf n1 n3 n4) n2).imp fun σ H Q ⟨kw, io, O, sd, s, Qd, S, h, k⟩ => by
  refine ⟨kw, io, O, sd, s, _, S, h, fun d s1 io1 H1 v q S1 T1 r => ⟨kw, io1, O, sd, s1, _, S1, q, fun c s2 io2 H2 u q2 S2 T2 r2 => ?_⟩⟩
  cases r with
  | int i =>
    cases r2 with
    | int j =>
      have q : RgOk i j ∧ Qd (.lst (rgD i j)) s2 := q2
      refine ⟨i, j, rfl, rfl, q.1, fun l hl => ?_⟩
      obtain ⟨S3, T3, hn⟩ := S2.newRes (ho := .lst (rgV i j)) hl
      exact k _ s2 io2 _ l _ q.2 S3 ((T1.trans T2).trans T3) hn upd_same (by intro _ _ z; cases z) (.lst (.rg i j))
    | _ => exact False.elim q2
  | _ => cases r2 <;> exact False.elim q2
end
end G
namespace G
open PySem L2
/-! ### dicts of any data by whole numbers -/
def dV (l : List (Int × D)) : List (Key × D) := l.map fun p => (.inl p.1, p.2)
def lookV (l : List (Int × D)) (c : Int) : Option D := (l.find? fun p => decide (p.1 = c)).map (·.2)
def putV (l : List (Int × D)) (c : Int) (d : D) : List (Int × D) := if (lookV l c).isSome then l.map (fun p => (p.1, if p.1 = c then d else p.2)) else l ++ [(c, d)]
theorem look_dV (c : Int) : ∀ l, look (dV l) (.inl c) = lookV l c
  | [] => rfl
  | p :: l => by
    have ih := look_dV c l
    unfold look lookV dV at *
    simp only [List.map_cons, List.find?_cons]
    by_cases h : p.1 = c
    · simp [h]
    · have n : ¬ ((Sum.inl p.1 : Key) = Sum.inl c) := fun z => h (Sum.inl.inj z)
      simp only [h, n, decide_false]
      exact ih
theorem put_dV (l : List (Int × D)) (c : Int) (d : D) : put (dV l) (.inl c) d = dV (putV l c d) := by
  unfold put putV
  rw [look_dV]
  split
  · unfold dV
    simp only [List.map_map]
    exact List.map_congr_left fun p _ => by by_cases h : p.1 = c <;> simp [h]
  · simp [dV]
theorem find_fst {l : List (Int × D)} {c : Int} {f : Int × D → D} : (l.map fun p => (p.1, f p)).find? (fun p => decide (p.1 = c)) = (l.find? fun p => decide (p.1 = c)).map fun p => (p.1, f p) := by
  rw [List.find?_map]
  rfl
theorem lookV_put (l : List (Int × D)) (c : Int) (d : D) (c' : Int) : lookV (putV l c d) c' = if c = c' then some d else lookV l c' := by
  unfold putV
  split
  · rename_i h
    unfold lookV at *
    rw [find_fst]
    by_cases e : c = c'
    · subst e
      rw [if_pos rfl]
      cases q : l.find? fun p => decide (p.1 = c) with
      | none => rw [q] at h; simp at h
      | some r =>
        have := List.find?_some q
        simp only [decide_eq_true_eq] at this
        simp [this]
    · rw [if_neg e]
      cases q : l.find? fun p => decide (p.1 = c') with
      | none => rfl
      | some r =>
        have := List.find?_some q
        simp only [decide_eq_true_eq] at this
        have n : ¬ r.1 = c := fun z => e (z.symm.trans this)
        simp [n]
  · rename_i h
    unfold lookV at *
    rw [List.find?_append]
    by_cases e : c = c'
    · subst e
      have q : l.find? (fun p => decide (p.1 = c)) = none := by
        cases q : l.find? fun p => decide (p.1 = c) with
        | none => rfl
        | some r => rw [q] at h; simp at h
      rw [if_pos rfl, q]
      simp
    · rw [if_neg e]
      cases q : l.find? fun p => decide (p.1 = c') with
      | none => simp [e]
      | some r => simp
theorem putV_len (l : List (Int × D)) (c : Int) (d : D) : (putV l c d).length ≤ l.length + 1 := by
  unfold putV
  split <;> simp
theorem setIt_dV {l : List (Int × D)} (h : l.length < lim) (c : Int) (d : D) : setIt (.dK (dV l)) (.int c) d = some (.dK (dV (putV l c d))) := by
  have e : (dV l).length < lim := by unfold dV; rw [List.length_map]; exact h
  show (if (dV l).length < lim then (keyOf (.int c)).map fun q => D.dK (put (dV l) q d) else none) = _
  rw [if_pos e]
  show some (D.dK (put (dV l) (.inl c) d)) = _
  rw [put_dV]
end G
namespace G
open PySem L2
/-! ### comprehensions over a dict: it is locked meanwhile -/
section
variable {K : PySem.W.Frag} {C : Tbl} {g : Gw} {L : Lk} {kw : Vw} {io : List Addr} {O : Addr → Prop} {H : Hp} {σ : St} {sd : DSt} {s : Store}
/-- the turns of a comprehension, from behind what is walked -/
theorem lc_turns {gt : TG} {dg : DTg} {dt : DT} {de : DE} {vs is : List Nat} {tt : TT} {te : TE} {J : It} {ds : List D} {src : Store → Prop} {Qd : DK} {Q : VK} (ht : TgG K C g L gt dg) (hgw : TgW gt is) (hmono : ∀ v σ H (Q Q' : St → Hp → Prop), (∀ σ' H', Q σ' H' → Q' σ' H') → gt v σ H Q → gt v σ H Q') (his : ∀ j ∈ is, j ∈ vs) (htt : ∀ σ H Q, LT K C g L dt σ H Q → tt σ H Q)
    (hte : ∀ σ H Q, LE K C g L de σ H Q → te σ H Q) (S : StOk K C g L kw io O H σ sd s) (hwalk : Walk K C g L (vw g io O H) J ds src) (q : lcD src dg dt de (wipeD sd vs) ds [] s fun acc s3 => Qd (.lst acc) s3)
    (k : ∀ d s' io' H' p ho, Qd d s' → StOk K C g L kw io' (ores O p) H' σ sd s' → Stp g io O H io' (ores O p) H' → ¬ O p → H' p = some ho → (∀ od u, ho ≠ .frz od u) → RC K C (vw g io' (ores O p) H') ho d → Q (.ref p) H') :
    ∀ Dl, H Dl = none → ∃ W : Nat → Nat → Hp → Prop, (∃ m, W 0 m (upd H Dl (.lst []))) ∧ ∀ i m H, W i m H →
      (J.stop i H ∧ Q (.ref Dl) H) ∨ (J.go i H ∧ ∃ Nx : Hp → Prop, (∀ H', Nx H' → ∃ m', m' < m ∧ W (i + 1) m' H') ∧ ∀ x H', J.yld i H x H' → gt x (L2.wipe σ vs) H' fun σ2 H2 => L2.wipe σ2 vs = L2.wipe σ vs ∧ tt σ2 H2 fun b H3 =>
        if b = true then te σ2 H3 fun y H4 => ∃ acc, H4 Dl = some (.lst acc) ∧ acc.length < sizeLine ∧ Nx (upd H4 Dl (.lst (acc ++ [y]))) else Nx H3) := by
  intro Dl hD
  obtain ⟨S2, T2, hn⟩ := S.newRes (ho := .lst []) hD
  have nores : ∀ {io2 : List Addr} {H2 : Hp} {sx : Store}, ∀ (j : Nat) (d : D), (wipeD sd vs)[j]? = some (some (Sl.o d)) → (L2.wipe σ vs)[j]? ≠ some (some (V.ref Dl)) := fun {io2 H2 sx} j d e z => by
    obtain ⟨e1, e2⟩ := wipeD_at sd vs j _ e
    rw [wipe_at, if_neg e2] at z
    exact S.noOwn hn j d e1 z
  refine ⟨fun i m H2 => ∃ io2 s2 acc accV, StOk K C g L (vw g io O H) io2 (ores O Dl) H2 (L2.wipe σ vs) (wipeD sd vs) s2 ∧ Stp g io O H io2 (ores O Dl) H2 ∧ H2 Dl = some (.lst accV) ∧ RL K C (vw g io2 (ores O Dl) H2) accV acc ∧ m = ds.length - i ∧ i ≤ ds.length ∧
    lcD src dg dt de (wipeD sd vs) (ds.drop i) acc s2 fun acc s3 => Qd (.lst acc) s3, ⟨_, io, s, [], [], (S2.here.rebase T2.gr).reslot (S2.sl.wipe vs), T2, upd_same, .nil, rfl, Nat.zero_le _, q⟩, ?_⟩
  rintro i m H2 ⟨io2, s2, acc, accV, S3, T3, hH, ra, rfl, hi, q2⟩
  by_cases hlt : i < ds.length
  · rw [List.drop_eq_getElem_cons hlt] at q2
    obtain ⟨src1, q2⟩ := q2
    obtain ⟨go, yl⟩ := (hwalk io2 (ores O Dl) H2 _ _ s2 i S3 src1).1 ds[i] (by simp [hlt])
    refine .inr ⟨go, fun H' => ∃ io2 s2 acc accV, StOk K C g L (vw g io O H) io2 (ores O Dl) H' (L2.wipe σ vs) (wipeD sd vs) s2 ∧ Stp g io O H io2 (ores O Dl) H' ∧ H' Dl = some (.lst accV) ∧ RL K C (vw g io2 (ores O Dl) H') accV acc ∧
      lcD src dg dt de (wipeD sd vs) (ds.drop (i + 1)) acc s2 fun acc s3 => Qd (.lst acc) s3, fun H' ⟨io2, s2, acc, accV, a1, a2, a3, a4, a5⟩ => ⟨ds.length - (i + 1), by omega, io2, s2, acc, accV, a1, a2, a3, a4, rfl, hlt, a5⟩, fun x H3 y => ?_⟩
    obtain ⟨S4, T4, rx⟩ := yl x H3 y
    refine hmono x (L2.wipe σ vs) H3 _ _ (fun σ' H' z => ?_) (hgw x (L2.wipe σ vs) H3 _ (ht _ io2 (ores O Dl) H3 _ _ s2 x _ _ (fun σ' H' => ∃ sd', H' = H3 ∧ StOk K C g L (vw g io O H) io2 (ores O Dl) H3 σ' sd' s2 ∧ dt sd' s2 fun b s3 => if b = true then de sd' s3 fun y s4 => acc.length < lim ∧ lcD src dg dt de (wipeD sd vs) (ds.drop (i + 1)) (acc ++ [y]) s4 (fun acc s3 => Qd (.lst acc) s3) else lcD src dg dt de (wipeD sd vs) (ds.drop (i + 1)) acc s3 fun acc s3 => Qd (.lst acc) s3) S4 rx q2 fun sd' σ' q S => ⟨sd', rfl, S, q⟩))
    obtain ⟨⟨sd', rfl, S5, q3⟩, l5, f5⟩ := z
    refine ⟨wipe_back (by rw [l5, L2.wipe_length]) f5 his, htt _ _ _ ⟨_, io2, ores O Dl, sd', s2, _, S5, q3, fun b s3 io3 H3' q4 S6 T6 => ?_⟩⟩
    have R3 : RSt K C (vw g io3 (ores O Dl) H3') (ores O Dl) (L2.wipe σ vs) (wipeD sd vs) := S4.sl.grow T6.gr fun a ha => ⟨ha, T6.ow a ha⟩
    cases b with
    | false =>
      refine ⟨io3, s3, acc, accV, S6.reslot R3, (T3.trans T4 (fun _ z => .inl z)).trans T6 (fun _ z => .inl z), ?_, (ra.grow T4.gr).grow T6.gr, q4⟩
      rw [T6.ow Dl (.inr rfl), T4.ow Dl (.inr rfl), hH]
    | true =>
      refine hte _ _ _ ⟨_, io3, ores O Dl, sd', s3, _, S6, q4, fun y s4 io4 H4 v q5 S7 T7 ry => ?_⟩
      have hH4 : H4 Dl = some (.lst accV) := by rw [T7.ow Dl (.inr rfl), T6.ow Dl (.inr rfl), T4.ow Dl (.inr rfl), hH]
      have R4 : RSt K C (vw g io4 (ores O Dl) H4) (ores O Dl) (L2.wipe σ vs) (wipeD sd vs) := R3.grow T7.gr fun a ha => ⟨ha, T7.ow a ha⟩
      have ra4 := ((ra.grow T4.gr).grow T6.gr).grow T7.gr
      obtain ⟨S8, G8⟩ := (S7.reslot R4).writeRes (ho := .lst (accV ++ [v])) hn (nores (io2 := io4) (H2 := H4) (sx := s4)) hH4 (by intro _ _ z; cases z)
      have T47 := ((T3.trans T4 (fun _ z => .inl z)).trans T6 (fun _ z => .inl z)).trans T7 (fun _ z => .inl z)
      refine ⟨accV, hH4, by rw [ra4.length]; exact lim_lt q5.1, io4, s4, acc ++ [y], accV ++ [v], S8, ⟨T47.gr.trans G8, fun a ha => ?_⟩, upd_same, (ra4.append (.cons ry .nil)).grow G8, q5.2⟩
      rw [upd_ne (fun z => hn (by rw [← z]; exact ha) : a ≠ Dl)]
      exact T47.ow a ha
  · rw [List.drop_eq_nil_of_le (by omega)] at q2
    obtain ⟨src1, q2⟩ := q2
    refine .inl ⟨(hwalk io2 _ H2 _ _ s2 i S3 src1).2 (by simp; omega), ?_⟩
    have R : RSt K C (vw g io2 (ores O Dl) H2) (ores O Dl) σ sd := S.sl.grow T3.gr fun a ha => ⟨.inl ha, T3.ow a ha⟩
    exact k _ s2 io2 H2 Dl _ q2 ((S3.reslot R).rebase S.kp) T3 hn hH (by intro _ _ z; cases z) (.lst ra)
/-- a locked cell is let go -/
theorem StOk.unlockC {n : Nat} {a : Addr} {od : Obj} {m : List (Key × D)} {vs : List (Key × V)} {io' : List Addr} {O' : Addr → Prop} {H' : Hp} {σ' : St} {sd' : DSt} {s' : Store} (S : StOk K C g L kw io O H σ sd s) (ha : io[n]? = some a) (h : H a = some (.dK vs)) (r : RK K C (vw g io O H) vs m)
    (S' : StOk K C g ((a, od, .dK vs) :: L) (vw g io O (upd H a (.frz od (.dK vs)))) io' O' H' σ' sd' s') (hs : s'[n]? = some (.lk (.dK m))) :
    H' a = some (.frz od (.dK vs)) ∧ StOk K C g L (vw g io O H) io' O' (upd H' a (.dK vs)) σ' sd' (s'.set n (.dK m)) ∧ Grow (vw g io' O' H') (vw g io' O' (upd H' a (.dK vs))) ∧ ∀ b, O' b → b ≠ a := by
  have hL : ∀ e ∈ L, e.1 ≠ a := fun e he z => by
    have q := (S.lk e he).1
    rw [z, h] at q; cases q
  obtain ⟨S1, G1⟩ := S.here.lockC ha h r od
  obtain ⟨e1, _, e0⟩ := S'.lk _ List.mem_cons_self
  have e1 : H' a = some (.frz od (.dK vs)) := e1
  have ha' : io'[n]? = some a := S'.kp.get (n := n) ha
  obtain ⟨b, ho, q1, q2, rc⟩ := S'.ce.get n _ hs
  have q1 : io'[n]? = some b := q1
  rw [ha'] at q1; cases q1
  have q2 : H' a = some ho := q2
  rw [e1] at q2; cases q2
  cases rc with
  | lk _ rc =>
    obtain ⟨S2, G2⟩ := (S'.dropL (List.mem_of_getElem? ha') S.an.l).writeF (o := .dK vs) (d := .dK m) ha' e0 hL rc
    exact ⟨e1, S2.rebase G1, G2, fun b hb z => S'.dj b hb (z ▸ List.mem_of_getElem? ha')⟩
/-- a locked value is let go -/
theorem StOk.unlockW {a : Addr} {od : Obj} {u : HO} {io' : List Addr} {O' : Addr → Prop} {H' : Hp} {σ' : St} {sd' : DSt} {s' : Store} (S : StOk K C g L kw io O H σ sd s) (x : ¬ (vw g io O H).X a) (h : H a = some u) (hd : isDict u = true)
    (S' : StOk K C g ((a, od, u) :: L) (vw g io O (upd H a (.frz od u))) io' O' H' σ' sd' s') : H' a = some (.frz od u) ∧ StOk K C g L (vw g io O H) io' O' (upd H' a u) σ' sd' s' ∧ ∀ b, O' b → b ≠ a := by
  have nf : ∀ o v, u ≠ .frz o v := fun o v z => by rw [z] at hd; cases hd
  have hL : ∀ e ∈ L, e.1 ≠ a := fun e he z => by
    have q := (S.lk e he).1
    rw [z, h] at q; cases q; exact nf _ _ rfl
  obtain ⟨S1, G1⟩ := S.here.lockV x h hd od
  have hx : ¬ (vw g io' O' H').X a := S'.kp.x a _ (G1.x a _ x h) upd_same
  exact ⟨(S'.lk _ List.mem_cons_self).1, S'.unlockV hx hL (G1.trans S'.kp) x h S.an.l, fun b hb z => hx (.inr (.inr (z ▸ hb)))⟩
/-- d a cell, reached by de -/
def dLcE (de : DE) (its : List (Key × D) → List D) (dg : DTg) (dt : DT) (dy : DE) (vs : List Nat) : DE := fun σ s Q => ∃ n m, s[n]? = some (.dK m) ∧ de σ (s.set n (.lk (.dK m))) fun d s1 => d = .ref n ∧
  lcD (fun _ => True) dg dt dy (wipeD σ vs) (its m) [] s1 fun acc s2 => s2[n]? = some (.lk (.dK m)) ∧ Q (.lst acc) (s2.set n (.dK m))
/-- d a name -/
def dLcV (i : Nat) (its : List (Key × D) → List D) (dg : DTg) (dt : DT) (dy : DE) (vs : List Nat) : DE := fun σ s Q => match σ[i]? with
  | some (some (.v (.dK m))) => lcD (fun _ => True) dg dt dy (wipeD σ vs) (its m) [] s fun acc s2 => Q (.lst acc) s2
  | some (some (.v (.ref n))) => (match s[n]? with
    | some (.dK m) => lcD (fun _ => True) dg dt dy (wipeD σ vs) (its m) [] (s.set n (.lk (.dK m))) fun acc s2 => s2[n]? = some (.lk (.dK m)) ∧ Q (.lst acc) (s2.set n (.dK m))
    | _ => False)
  | _ => False
/-- what is walked, an expression's dict -/
def iDe (it : Addr → Obj → List (Key × V) → It) (te : TE) : TI := fun σ H R => te σ H fun x H1 => ∃ d o kvs, x = .ref d ∧ H1 d = some (.frz o (.dK kvs)) ∧ R (it d o kvs) H1
theorem l_lcE {it : Addr → Obj → List (Key × V) → It} {its : List (Key × D) → List D} {gt : TG} {dg : DTg} {dt : DT} {de dy : DE} {vs is : List Nat} (hw : WalkD it its) (ht : ∀ L, TgG K C g L gt dg) (hgw : TgW gt is) (hmono : ∀ v σ H (Q Q' : St → Hp → Prop), (∀ σ' H', Q σ' H' → Q' σ' H') → gt v σ H Q → gt v σ H Q') (his : ∀ j ∈ is, j ∈ vs)
    (σ : St) (H : Hp) (Q : VK) (h : LO K C g L (dLcE de its dg dt dy vs) σ H Q) : tLockE (fun σ H Q => ∃ L', tLc (iDe it (LE K C g L' de)) gt (LT K C g L' dt) (LE K C g L' dy) vs σ H Q) σ H Q := by
  obtain ⟨kw, io, O, sd, s, Qd, S, ⟨n, m, es, h⟩, k⟩ := h
  obtain ⟨a, ho, hn, q2, rc⟩ := S.ce.get n _ es
  have hn : io[n]? = some a := hn
  have q2 : H a = some ho := q2
  cases rc with
  | @dK kvs _ rk =>
    refine ⟨a, .dK kvs, q2, trivial, fun od => ⟨(a, od, .dK kvs) :: L, ?_⟩⟩
    obtain ⟨S1, G1⟩ := S.here.lockC hn q2 rk od
    refine ⟨_, io, O, sd, _, _, S1.here, h, fun d s1 io1 H1 v q S2 T2 r2 => ?_⟩
    obtain ⟨rfl, q⟩ := q
    cases r2 with
    | @ref _ b hb =>
      have hb' : io1[n]? = some a := T2.gr.get hn
      have hb : io1[n]? = some b := hb
      rw [hb'] at hb; cases hb
      refine ⟨a, od, kvs, rfl, (S2.lk _ List.mem_cons_self).1, ?_⟩
      have gg := G1.trans T2.gr
      refine lc_turns (Qd := fun d s2 => s2[n]? = some (.lk (.dK m)) ∧ Qd d (s2.set n (.dK m))) (Q := fun v H' => H' a = some (.frz od (.dK kvs)) ∧ Q v (upd H' a (.dK kvs))) (ht _) hgw hmono his (fun _ _ _ h => h) (fun _ _ _ h => h) S2 (hw _ _ _ _ _ a od kvs m (rk.grow gg) fun io2 O2 H2 σ2 sd2 s2 S3 => (S3.lk _ List.mem_cons_self).1) q fun d s' io' H' p ho q S3 T3 np hp nf rp => ?_
      obtain ⟨u1, u2, u3, u4⟩ := S.unlockC hn q2 rk S3 q.1
      refine ⟨u1, k d _ io' _ p ho q.2 (u2.rebase S.kp) ⟨u2.kp, fun b hb => ?_⟩ np ?_ nf (rp.grow u3)⟩
      · have nb := u4 b (.inl hb)
        show upd H' a _ b = H b
        rw [upd_ne nb, T3.ow b hb, T2.ow b hb, upd_ne nb]
      · show upd H' a _ p = _
        rw [upd_ne (u4 p (.inr rfl))]; exact hp
theorem l_lcV {i : Nat} {it : Addr → Obj → List (Key × V) → It} {its : List (Key × D) → List D} {gt : TG} {dg : DTg} {dt : DT} {dy : DE} {vs is : List Nat} (hw : WalkD it its) (ht : ∀ L, TgG K C g L gt dg) (hgw : TgW gt is) (hmono : ∀ v σ H (Q Q' : St → Hp → Prop), (∀ σ' H', Q σ' H' → Q' σ' H') → gt v σ H Q → gt v σ H Q') (his : ∀ j ∈ is, j ∈ vs)
    (σ : St) (H : Hp) (Q : VK) (h : LO K C g L (dLcV i its dg dt dy vs) σ H Q) : tLockE (fun σ H Q => ∃ L', tLc (iDct it i) gt (LT K C g L' dt) (LE K C g L' dy) vs σ H Q) σ H Q ∨ ∃ L', tLc (iDct it i) gt (LT K C g L' dt) (LE K C g L' dy) vs σ H Q := by
  obtain ⟨kw, io, O, sd, s, Qd, S, h, k⟩ := h
  unfold dLcV at h
  split at h
  · rename_i m e
    obtain ⟨v, e1, r⟩ := S.sl.get i _ e
    cases r with
    | v r =>
      cases r with
      | @dK a kvs _ x h1 r1 =>
        rcases h1 with h1 | ⟨o, h1⟩
        · have h1 : H a = some (.dK kvs) := h1
          refine .inl ⟨a, .dK kvs, h1, trivial, fun od => ⟨(a, od, .dK kvs) :: L, ?_⟩⟩
          obtain ⟨S1, G1⟩ := S.here.lockV x h1 rfl od
          have x1 : ¬ (vw g io O (upd H a (.frz od (.dK kvs)))).X a := G1.x a _ x h1
          refine ⟨_, e1, a, od, kvs, rfl, upd_same, ?_⟩
          refine lc_turns (Qd := Qd) (Q := fun v H' => H' a = some (.frz od (.dK kvs)) ∧ Q v (upd H' a (.dK kvs))) (ht _) hgw hmono his (fun _ _ _ h => h) (fun _ _ _ h => h) S1.here (hw _ _ _ _ _ a od kvs m (r1.grow G1) fun io2 O2 H2 σ2 sd2 s2 S3 => (S3.lk _ List.mem_cons_self).1) h fun d s' io' H' p ho q S3 T3 np hp nf rp => ?_
          obtain ⟨u1, u2, u4⟩ := S.unlockW x h1 rfl S3
          refine ⟨u1, k d _ io' _ p ho q (u2.rebase S.kp) ⟨u2.kp, fun b hb => ?_⟩ np ?_ nf (RC.unlk u1 rp)⟩
          · have nb := u4 b (.inl hb)
            show upd H' a _ b = H b
            rw [upd_ne nb, T3.ow b hb, upd_ne nb]
          · show upd H' a _ p = _
            rw [upd_ne (u4 p (.inr rfl))]; exact hp
        · have h1 : H a = some (.frz o (.dK kvs)) := h1
          refine .inr ⟨L, _, e1, a, o, kvs, rfl, h1, ?_⟩
          exact lc_turns (ht _) hgw hmono his (fun _ _ _ h => h) (fun _ _ _ h => h) S (hw _ _ _ _ _ a o kvs m r1 fun io2 O2 H2 σ2 sd2 s2 S2 => S2.kp.frz x h1) h k
  · rename_i n e
    split at h
    · rename_i m es
      obtain ⟨v, e1, r⟩ := S.sl.get i _ e
      cases r with
      | v r =>
        cases r with
        | @ref _ a hn =>
          have hn : io[n]? = some a := hn
          obtain ⟨b, ho, q1, q2, rc⟩ := S.ce.get n _ es
          have q1 : io[n]? = some b := q1
          rw [hn] at q1; cases q1
          have q2 : H a = some ho := q2
          cases rc with
          | @dK kvs _ rk =>
            refine .inl ⟨a, .dK kvs, q2, trivial, fun od => ⟨(a, od, .dK kvs) :: L, ?_⟩⟩
            obtain ⟨S1, G1⟩ := S.here.lockC hn q2 rk od
            refine ⟨_, e1, a, od, kvs, rfl, upd_same, ?_⟩
            refine lc_turns (Qd := fun d s2 => s2[n]? = some (.lk (.dK m)) ∧ Qd d (s2.set n (.dK m))) (Q := fun v H' => H' a = some (.frz od (.dK kvs)) ∧ Q v (upd H' a (.dK kvs))) (ht _) hgw hmono his (fun _ _ _ h => h) (fun _ _ _ h => h) S1.here (hw _ _ _ _ _ a od kvs m (rk.grow G1) fun io2 O2 H2 σ2 sd2 s2 S3 => (S3.lk _ List.mem_cons_self).1) h fun d s' io' H' p ho q S3 T3 np hp nf rp => ?_
            obtain ⟨u1, u2, u3, u4⟩ := S.unlockC hn q2 rk S3 q.1
            refine ⟨u1, k d _ io' _ p ho q.2 (u2.rebase S.kp) ⟨u2.kp, fun b hb => ?_⟩ np ?_ nf (rp.grow u3)⟩
            · have nb := u4 b (.inl hb)
              show upd H' a _ b = H b
              rw [upd_ne nb, T3.ow b hb, upd_ne nb]
            · show upd H' a _ p = _
              rw [upd_ne (u4 p (.inr rfl))]; exact hp
    · exact h.elim
  · exact h.elim
end
theorem _root_.L2.PE.ex {X : Cx} {e : Expr} {ι : Type} {t : ι → TE} (h : ∀ i, PE X e (t i)) : PE X e (fun σ H Q => ∃ i, t i σ H Q) := ⟨fun p s σ H Q I ⟨i, q⟩ => (h i).run p s σ H Q I q⟩
theorem _root_.L2.PS.ex {X : Cx} {e : Stmt} {ι : Type} {t : ι → TS} (h : ∀ i, PS X e (t i)) : PS X e (fun D σ H => ∃ i, t i D σ H) := ⟨fun p s σ H Q I ⟨i, q⟩ => (h i).run p s σ H Q I q⟩
section
variable {X : Cx} {C : Tbl} {g : Gw} {L : Lk} {pos spos py p apos cpos tpos : Pos} {elt tg iter : Expr} {ifs : List Expr} {scope : Scope} {own : List (Str × Nat)} {gt : TG} {dg : DTg} {dt : DT} {de dy : DE} {is : List Nat} {it : Addr → Obj → List (Key × V) → It} {its : List (Key × D) → List D}
theorem g_lcV {i : Nat} (hc : X.calm = true) (hN : X.N.Nodup) (hwd : WalkD it its) (hi : PI X tg iter (iDct it i)) (ok : BlkOk X.N X.env.scope scope own)
    (hg : Blk X scope fun Y => PG Y tg gt) (ht : ∀ L, TgG X.K C g L gt dg) (hw : TgW gt is) (hm : ∀ v σ H (Q Q' : St → Hp → Prop), (∀ σ' H', Q σ' H' → Q' σ' H') → gt v σ H Q → gt v σ H Q') (his : ∀ j ∈ is, j ∈ own.map (·.2))
    (hif : ∀ L, Blk X scope fun Y => PTs Y ifs (LT X.K C g L dt)) (he : ∀ L, Blk X scope fun Y => PE Y elt (LE X.K C g L dy)) (hs : ∀ x, foldedSetIterable iter X.env x = pure x := by intro _; rfl) :
    PE X (.ListComp elt [⟨tg, iter, ifs, 0⟩] scope pos) (LO X.K C g L (dLcV i its dg dt dy (own.map (·.2)))) :=
  have base := PE.ex fun L => pe_lc (pos := pos) hc hN hi ok hg (hif L) (he L) hs
  ((pe_lock base).or base).imp fun σ H Q q => l_lcV hwd ht hw hm his σ H Q q
theorem g_lcE (hc : X.calm = true) (hN : X.N.Nodup) (hwd : WalkD it its) (hi : ∀ L, PI X tg iter (iDe it (LE X.K C g L de))) (ok : BlkOk X.N X.env.scope scope own)
    (hg : Blk X scope fun Y => PG Y tg gt) (ht : ∀ L, TgG X.K C g L gt dg) (hw : TgW gt is) (hm : ∀ v σ H (Q Q' : St → Hp → Prop), (∀ σ' H', Q σ' H' → Q' σ' H') → gt v σ H Q → gt v σ H Q') (his : ∀ j ∈ is, j ∈ own.map (·.2))
    (hif : ∀ L, Blk X scope fun Y => PTs Y ifs (LT X.K C g L dt)) (he : ∀ L, Blk X scope fun Y => PE Y elt (LE X.K C g L dy)) (hs : ∀ x, foldedSetIterable iter X.env x = pure x := by intro _; rfl) :
    PE X (.ListComp elt [⟨tg, iter, ifs, 0⟩] scope pos) (LO X.K C g L (dLcE de its dg dt dy (own.map (·.2)))) :=
  (pe_lock (PE.ex fun L => pe_lc (pos := pos) hc hN (hi L) ok hg (hif L) (he L) hs)).imp fun σ H Q q => l_lcE hwd ht hw hm his σ H Q q
theorem g_setLcV {i j : Nat} {y : Str} (hc : X.calm = true) (hN : X.N.Nodup) (hy : X.N[j]? = some y) (hyl : X.env.scope.names.lookup y = some .local)
    (hsw : swapsWith (.ListComp elt [⟨tg, iter, ifs, 0⟩] scope pos) (some (.Name y py)) spos.line X.env = pure true) (hwd : WalkD it its) (hi : PI X tg iter (iDct it i)) (ok : BlkOk X.N X.env.scope scope own)
    (hg : Blk X scope fun Y => PG Y tg gt) (ht : ∀ L, TgG X.K C g L gt dg) (hw : TgW gt is) (hm : ∀ v σ H (Q Q' : St → Hp → Prop), (∀ σ' H', Q σ' H' → Q' σ' H') → gt v σ H Q → gt v σ H Q') (his : ∀ j ∈ is, j ∈ own.map (·.2))
    (hif : ∀ L, Blk X scope fun Y => PTs Y ifs (LT X.K C g L dt)) (he : ∀ L, Blk X scope fun Y => PE Y elt (LE X.K C g L dy)) (hs : ∀ x, foldedSetIterable iter X.env x = pure x := by intro _; rfl) :
    PS X (.Assign [.Name y py] (.ListComp elt [⟨tg, iter, ifs, 0⟩] scope pos) spos) (tAsg (LO X.K C g L (dLcV i its dg dt dy (own.map (·.2)))) (gName j)) :=
  have base := PS.ex fun L => ps_setLc (py := py) (spos := spos) (pos := pos) hc hN hy hyl hsw hi ok hg (hif L) (he L) hs
  (PS_or (ps_lock base) base).imp fun D σ H q => l_lcV hwd ht hw hm his σ H _ q
theorem g_setLcE {j : Nat} {y : Str} (hc : X.calm = true) (hN : X.N.Nodup) (hy : X.N[j]? = some y) (hyl : X.env.scope.names.lookup y = some .local)
    (hsw : swapsWith (.ListComp elt [⟨tg, iter, ifs, 0⟩] scope pos) (some (.Name y py)) spos.line X.env = pure true) (hwd : WalkD it its) (hi : ∀ L, PI X tg iter (iDe it (LE X.K C g L de))) (ok : BlkOk X.N X.env.scope scope own)
    (hg : Blk X scope fun Y => PG Y tg gt) (ht : ∀ L, TgG X.K C g L gt dg) (hw : TgW gt is) (hm : ∀ v σ H (Q Q' : St → Hp → Prop), (∀ σ' H', Q σ' H' → Q' σ' H') → gt v σ H Q → gt v σ H Q') (his : ∀ j ∈ is, j ∈ own.map (·.2))
    (hif : ∀ L, Blk X scope fun Y => PTs Y ifs (LT X.K C g L dt)) (he : ∀ L, Blk X scope fun Y => PE Y elt (LE X.K C g L dy)) (hs : ∀ x, foldedSetIterable iter X.env x = pure x := by intro _; rfl) :
    PS X (.Assign [.Name y py] (.ListComp elt [⟨tg, iter, ifs, 0⟩] scope pos) spos) (tAsg (LO X.K C g L (dLcE de its dg dt dy (own.map (·.2)))) (gName j)) :=
  (ps_lock (PS.ex fun L => ps_setLc (py := py) (spos := spos) (pos := pos) hc hN hy hyl hsw (hi L) ok hg (hif L) (he L) hs)).imp fun D σ H q => l_lcE hwd ht hw hm his σ H _ q
/-- for .. in a dict that an expression reaches: a cell -/
def dForE (de : DE) (its : List (Key × D) → List D) (dg : DTg) (tb : DS) : DS := fun D σ s => ∃ n m, s[n]? = some (.dK m) ∧ de σ (s.set n (.lk (.dK m))) fun d s1 => d = .ref n ∧ loopD (fun _ => True) dg tb (its m) (lkE n m D) σ s1
theorem gs_forE {body : List Stmt} {tb : DS} (hp : PassesOwn (model X.prog X.w) X.A X.env X.xe) (hc : X.calm = true) (hw : WalkD it its) (hi : ∀ L, PI X tg iter (iDe it (LE X.K C g L de))) (hg : PG X tg gt)
    (ht : ∀ L, TgG X.K C g L gt dg) (hb : ∀ L, PSs X body (LS X.K C g L tb)) (hs : ∀ x, foldedSetIterable iter X.env x = pure x := by intro _; rfl) : PS X (.For tg iter body [] pos) (LS X.K C g L (dForE de its dg tb)) := by
  refine (ps_lock (PS.ex fun L => ps_for (pos := pos) hp hc (hi L) hg (hb L) hs)).imp fun T σ H ⟨kw, io, O, sd, s, D, S, ⟨n, m, es, h⟩, E⟩ => ?_
  obtain ⟨a, ho, hn, q2, rc⟩ := S.ce.get n _ es
  have hn : io[n]? = some a := hn
  have q2 : H a = some ho := q2
  cases rc with
  | @dK kvs _ rk =>
    refine ⟨a, .dK kvs, q2, trivial, fun od => ⟨(a, od, .dK kvs) :: L, ?_⟩⟩
    obtain ⟨S1, G1⟩ := S.here.lockC hn q2 rk od
    refine ⟨_, io, O, sd, _, _, S1.here, h, fun d s1 io1 H1 v q S2 T2 r2 => ?_⟩
    obtain ⟨rfl, q⟩ := q
    cases r2 with
    | @ref _ b hb =>
      have hb' : io1[n]? = some a := T2.gr.get hn
      have hb : io1[n]? = some b := hb
      rw [hb'] at hb; cases hb
      refine ⟨a, od, kvs, rfl, (S2.lk _ List.mem_cons_self).1, ?_⟩
      have E2 := end_lockC (od := od) S hn q2 rk E
      exact for_core S2.here (hw _ _ _ _ _ a od kvs m (rk.grow (G1.trans T2.gr)) fun io2 O2 H2 σ2 sd2 s2 S3 => (S3.lk _ List.mem_cons_self).1) q
        ⟨fun io O H σ sd s q S3 => E2.nx _ _ _ _ _ _ q (S3.rebase S2.kp), fun r s io P H v q S3 rr => E2.rt _ _ _ _ _ _ q (S3.rebase S2.kp) rr, fun io O H σ sd s q S3 => E2.bk _ _ _ _ _ _ q (S3.rebase S2.kp), fun io O H σ sd s q S3 => E2.ct _ _ _ _ _ _ q (S3.rebase S2.kp)⟩ (ht _) fun D σ H q => q
theorem ge_items {e : Expr} {elts : List Expr} {kk : Nat} (he : PE X e (LE X.K C g L de)) (hbase : attributeBase e "items" X.env (eval e X.env) = eval e X.env := by rfl) (hline : (apos.endLine == cpos.line) = true := by rfl) :
    PI X (.Tuple elts kk tpos) (.Call (.Attribute e "items" apos) [] [] cpos) (iDe Iti (LE X.K C g L de)) := pi_items he hbase hline
theorem ge_vals {e : Expr} (he : PE X e (LE X.K C g L de)) (hbase : attributeBase e "values" X.env (eval e X.env) = eval e X.env := by rfl) (hline : (apos.endLine == cpos.line) = true := by rfl) :
    PI X tg (.Call (.Attribute e "values" apos) [] [] cpos) (iDe Itd (LE X.K C g L de)) := pi_values he hbase hline
theorem ge_keysM {e : Expr} (he : PE X e (LE X.K C g L de)) (hbase : attributeBase e "keys" X.env (eval e X.env) = eval e X.env := by rfl) (hline : (apos.endLine == cpos.line) = true := by rfl) :
    PI X tg (.Call (.Attribute e "keys" apos) [] [] cpos) (iDe Itk (LE X.K C g L de)) := pi_keysM he hbase hline
theorem ge_keys {e : Expr} (he : PE X e (LE X.K C g L de)) : PI X tg e (iDe Itk (LE X.K C g L de)) := (pi_keys he).imp fun σ H R ⟨kw, io, O, sd, s, Qd, S, h, k⟩ => ⟨kw, io, O, sd, s, Qd, S, h, fun d s' io' H' v q S' T r => by
  obtain ⟨d, o, kvs, e1, e2, q⟩ := k d s' io' H' v q S' T r
  exact ⟨d, o, e1, .inl ⟨kvs, e2, q⟩⟩⟩
end
end G
namespace G
open PySem L2
/-! ### x += e, a, b = e, methods of lists and dicts -/
def dAugI (f : Int → Int → Int) (i : Nat) (e : DE) : DS := fun D σ s => match σ[i]? with
  | some (some (.v (.int a))) => e σ s fun d s' => match d with
    | .int b => D.nx (σ.set i (some (.v (.int (f a b))))) s'
    | _ => False
  | _ => False
/-- a target of any form -/
def dAsg (e : DE) (dg : DTg) : DS := fun D σ s => e σ s fun d s' => dg d σ s' D.nx
section
variable {X : Cx} {C : Tbl} {g : Gw} {L : Lk} {st : Stmt} {de : DE}
theorem gs_augI {f : Int → Int → Int} {i : Nat} (h : PS X st (tAug i (LE X.K C g L de) (ipI f))) : PS X st (LS X.K C g L (dAugI f i de)) := h.imp fun T σ H ⟨kw, io, O, sd, s, D, S, h, E⟩ => by
  unfold dAugI at h
  split at h
  · rename_i a ea
    obtain ⟨v, ev, r⟩ := S.sl.get i _ ea
    cases r with
    | v r =>
      cases r
      refine ⟨_, ev, kw, io, O, sd, s, _, S, h, fun d s' io' H' v' q S' T' r' => ?_⟩
      cases r' with
      | int b => exact ⟨a, b, rfl, rfl, E.nx io' O H' _ _ s' q (S'.set (.int _))⟩
      | _ => exact False.elim q
  · exact h.elim
theorem gs_asg {gt : TG} {dg : DTg} (ht : TgG X.K C g L gt dg) (h : PS X st (tAsg (LE X.K C g L de) gt)) : PS X st (LS X.K C g L (dAsg de dg)) := h.imp fun T σ H ⟨kw, io, O, sd, s, D, S, h, E⟩ =>
  ⟨kw, io, O, sd, s, _, S, h, fun d s' io' H' v q S' T' r => ht kw io' O H' σ sd s' v d _ _ S' r q fun sd' σ' q' S2 => E.nx io' O H' σ' sd' s' q' S2⟩
end
section
variable {K : PySem.W.Frag} {C : Tbl} {g : Gw} {L : Lk}
def oAbs : DCl := fun xs s Q => match xs with
  | [.v (.int i)] => Q (.int (if i < 0 then -i else i)) s
  | _ => False
abbrev rAbs : List V → Hp → VK → Prop := fun xs H Q => ∃ i, xs = [.int i] ∧ Q (.int (if i < 0 then -i else i)) H
theorem oc_abs : ClG K C g L rAbs oAbs := by
  intro kw io O H σ sd s xs vs Qd Q S rx h k
  unfold oAbs at h
  split at h
  · obtain ⟨v, rfl, ry⟩ := rx.one
    cases ry with
    | v r => cases r; exact ⟨_, rfl, k _ s io H _ h S (Stp.refl ..) (.int _)⟩
  · exact h.elim
def mIns : DMu := fun c ds _ Q => match c, ds with
  | .lst xs, [.int i, d] => xs.length < lim ∧ 0 ≤ i ∧ i < 2 ^ 63 ∧ Q (.lst (xs.take i.toNat ++ [d] ++ xs.drop i.toNat)) .non
  | _, _ => False
abbrev rIns : V → List V → Hp → VK → Prop := fun x vs H Q => ∃ (l : Addr) (xs : List V) (i : Int) (y : V), x = .ref l ∧ vs = [.int i, y] ∧ H l = some (.lst xs) ∧ xs.length < sizeLine ∧ 0 ≤ i ∧ i < 2 ^ 63 ∧ Q .non (upd H l (.lst (xs.take i.toNat ++ [y] ++ xs.drop i.toNat)))
theorem mt_ins {X : Cx} : MtR X "list.insert" rIns := mt_insert
theorem mu_ins : MuG K C rIns mIns := fun w a ho c vs ds s Kd Q e rc r nl h k => by
  unfold mIns at h
  split at h
  · cases rc with
    | lst rc => cases r with
      | cons r t => cases t with
        | cons r2 t2 =>
          cases t2; cases r
          exact ⟨_, _, _, _, rfl, rfl, e, by rw [rc.length]; exact lim_lt h.1, h.2.1, h.2.2.1, k _ _ _ _ h.2.2.2 (by intro _ _ z; cases z) (.lst (((rc.take _).append (.cons r2 .nil)).append (rc.drop _))) .non⟩
  · exact h.elim
def mDClr : DMu := fun c ds _ Q => match c, ds with
  | .dK _, [] => Q (.dK []) .non
  | _, _ => False
theorem mu_dclr : MuG K C rDClear mDClr := fun w a ho c vs ds s Kd Q e rc r nl h k => by
  unfold mDClr at h
  split at h
  · cases rc with
    | dK rc => cases r; exact ⟨_, _, rfl, rfl, e, k _ _ _ _ h (by intro _ _ z; cases z) (.dK .nil) .non⟩
  · exact h.elim
def mLClr : DMu := fun c ds _ Q => match c, ds with
  | .lst _, [] => Q (.lst []) .non
  | _, _ => False
theorem mu_lclr : MuG K C rClear mLClr := fun w a ho c vs ds s Kd Q e rc r nl h k => by
  unfold mLClr at h
  split at h
  · cases rc with
    | lst rc => cases r; exact ⟨_, _, rfl, rfl, e, k _ _ _ _ h (by intro _ _ z; cases z) (.lst .nil) .non⟩
  · exact h.elim
def mExt : DMu := fun c ds _ Q => match c, ds with
  | .lst xs, [.lst ys] => xs.length + ys.length ≤ lim ∧ Q (.lst (xs ++ ys)) .non
  | _, _ => False
theorem mu_ext : MuG K C rExtend mExt := fun w a ho c vs ds s Kd Q e rc r nl h k => by
  unfold mExt at h
  split at h
  · cases rc with
    | lst rc => cases r with
      | cons r t =>
        cases t
        cases r with
        | lst x hb r2 => exact ⟨_, _, _, _, rfl, rfl, e, hb, by rw [rc.length, r2.length]; exact lim_le h.1, k _ _ _ _ h.2 (by intro _ _ z; cases z) (.lst (rc.append r2)) .non⟩
  · exact h.elim
end
end G
/-! calls of methods, of constructors, where what is raised is read at the caller's slots -/
namespace L2
open PySem Spec PyProof.Rows
section
variable {X : Cx} {CX : CXT} {k : Nat} {f C : Addr} {fd : FuncData} {ps : List Str} {sp : Sp} {dvs : List V} {ds : List Value} {E : St → XK} {x m : Str} {p pos apos : Pos} {e o : Expr} {es : List Expr} {ta : TE} {t : TA}
def tMethW (C : Addr) (m : Str) (sp : Sp) (dvs : List V) (E : St → XK) (ta : TE) (t : TA) : TE := fun σ H Q => ta σ H fun x H1 => ∃ a dx fs, x = .ref a ∧ H1 a = some (.ins C dx fs) ∧ fs.lookup m = none ∧ t σ H1 fun vs H2 => sp (x :: (vs ++ dvs)) H2 Q (E σ)
abbrev EvMeth (X : Cx) (o : Expr) (m : Str) (apos pos : Pos) (es : List Expr) (pl : Sem Bool) : Prop := eval (.Call (.Attribute o m apos) es [] pos) X.env = (do let ov ← eval o X.env; standAt apos.atName; let (f, first) ← holding [ov] (getMethod ov m pl); callWith pos f first (backTo pos (starEach es X.env)) (backToKw pos (keywordEach [] X.env)))
theorem pe_methW {pl : Sem Bool} (ho : PE X o ta) (cl : Cls X.K C) (me : Meth X.K C m f) (F : FnOk X.prog X.w X.K X.mg X.base CX k f fd ps sp) (room : Room k X.A) (b : Binds X.K fd ps ds) (dv : Vals dvs ds) (pa : ∀ σ, PassesAt CX X σ (E σ)) (ha : PA X (e :: es) t)
    (h1 : starEach (e :: es) X.env = (false, eval e X.env) :: starEach es X.env := by rfl) (h2 : (backTo pos (starEach es X.env)).any (·.1) = false := by rfl) (h3 : EvMeth X o m apos pos (e :: es) pl := by rfl) : PE X (.Call (.Attribute o m apos) (e :: es) [] pos) (tMethW C m sp dvs E ta t) :=
  ⟨fun pn sh σ H Q J z => PySem.W.methodCall_KW (pl := pl) (thn (ho.run pn sh σ H _ J z) fun w sh1 y => by
    obtain ⟨v, G, J1, rv, a, dx, fs, ev, ea, nl, y⟩ := y
    cases ev; cases rv
    exact getmeth_ok J1 ea cl me nl (PySem.W.callWith_K (h₀ := X.base) (first := [.ref a]) J1.ok.mod.kin me.kp (thn (ha.run pos pn sh1 σ G _ J1 y) fun ws sh2 ⟨zs, G2, J2, rz, y2⟩ => ⟨J2.kIn, run_fnSD (vs := .ref a :: zs) (us := .ref a :: ws) F room b dv (pa σ) J2 (.cons rfl rz) y2⟩) h1 h2)) h3⟩
theorem pe_methW0 {pl : Sem Bool} (ho : PE X o ta) (cl : Cls X.K C) (me : Meth X.K C m f) (F : FnOk X.prog X.w X.K X.mg X.base CX k f fd ps sp) (room : Room k X.A) (b : Binds X.K fd ps ds) (dv : Vals dvs ds) (pa : ∀ σ, PassesAt CX X σ (E σ))
    (h3 : EvMeth X o m apos pos [] pl := by rfl) : PE X (.Call (.Attribute o m apos) [] [] pos) (tMethW C m sp dvs E ta tNil) :=
  ⟨fun pn sh σ H Q J z => PySem.W.methodCall_KW (pl := pl) (thn (ho.run pn sh σ H _ J z) fun w sh1 y => by
    obtain ⟨v, G, J1, rv, a, dx, fs, ev, ea, nl, y⟩ := y
    cases ev; cases rv
    exact getmeth_ok J1 ea cl me nl (PySem.W.callWith_K0 (first := [.ref a]) J1.kIn me.kp (run_fnSD (vs := [.ref a]) (us := [.ref a]) F room b dv (pa σ) J1 (.cons rfl .nil) y))) h3⟩
def tMakeW (C : Addr) (sp : Sp) (dvs : List V) (E : St → XK) (t : TA) : TE := fun σ H Q => t σ H fun vs H1 => ∀ x dx, H1 x = none → H1 dx = none → dx ≠ x → sp (.ref x :: (vs ++ dvs)) (upd (upd H1 dx (.own x)) x (.ins C dx [])) (fun v H2 => v = .non ∧ Q (.ref x) H2) (E σ)
theorem run_makeW {pn : List (Addr × Obj)} {σ : St} {H : Hp} {sh : Shared} {Q : VK} {us : List Value} {vs : List V} (M : Mk X.K C f) (F : FnOk X.prog X.w X.K X.mg X.base CX k f fd ps sp) (room : Room (k + 1) X.A) (b : Binds X.K fd ps ds) (dv : Vals dvs ds) (pa : PassesAt CX X σ (E σ)) (J : Inv X pn σ H sh) (rv : Vals vs us)
    (z : ∀ x dx, H x = none → H dx = none → dx ≠ x → sp (.ref x :: (vs ++ dvs)) (upd (upd H dx (.own x)) x (.ins C dx [])) (fun v H2 => v = .non ∧ Q (.ref x) H2) (E σ)) : wpAny (model X.prog X.w) X.A (call (.ref C) us) (EP X pn σ Q) X.xe sh := by
  generalize hn : sh.heap.objs.size = n at *
  have z1 := z (n + 1) n (J.hok.fresh (by omega)) (J.hok.fresh (by omega)) (Nat.ne_of_lt (Nat.lt_succ_self n))
  have J1 := Inv.made (C := C) J
  rw [hn] at J1
  have all : Vals (V.ref (n + 1) :: (vs ++ dvs)) (Value.ref (n + 1) :: (us ++ ds)) := .cons rfl (rv.append dv)
  have len : (Value.ref (n + 1) :: us ++ ds).length = ps.length := all.length.symm.trans (F.len _ _ _ _ z1)
  subst hn
  refine wpAny_call (make_map (f := f) J.kIn M.makes M.init (beq_iff_eq.mp M.fn) (codeAny_mono (F.run _ X.stack _ _ ⟨Value.ref (_ + 1) :: us, []⟩ _ _ _ (E σ) (room.make C us []) (J1.env0.make C us []) (b _ (Value.ref (_ + 1) :: us) J1.kIn len) all z1) fun r sh2 y => ?_))
  match r, y with
  | .error w, y => exact pa pn _ _ w sh2 J1 y
  | .ok (.ret w), y =>
    obtain ⟨v, G, J3, rr, ev, y⟩ := J1.after y
    cases ev
    exact ⟨rr, V.ref (sh.heap.objs.size + 1), G, J3, rfl, y⟩
  | .ok .next, y => exact y.elim
  | .ok .brk, y => exact y.elim
  | .ok .cont, y => exact y.elim
theorem pe_makeW (M : Mk X.K C f) (F : FnOk X.prog X.w X.K X.mg X.base CX k f fd ps sp) (room : Room (k + 1) X.A) (gl : Gl X x) (mg : X.mg x = some (.ref C)) (b : Binds X.K fd ps ds) (dv : Vals dvs ds) (pa : ∀ σ, PassesAt CX X σ (E σ)) (ha : PA X (e :: es) t)
    (hd : (x == ("__debug__" : Str)) = false := by decide) (h1 : starEach (e :: es) X.env = (false, eval e X.env) :: starEach es X.env := by rfl) (h2 : (backTo pos (starEach es X.env)).any (·.1) = false := by rfl) : PE X (.Call (.Name x p) (e :: es) [] pos) (tMakeW C sp dvs E t) :=
  ⟨fun pn sh σ H Q J z => wpAny_Call_Name_kw (ld_glob J gl mg (PySem.W.callWith_K (h₀ := X.base) J.ok.mod.kin M.kp (thn (ha.run pos pn sh σ H _ J z) fun us sh1 ⟨vs, G, J1, rv, y⟩ => ⟨J1.kIn, run_makeW M F room b dv (pa σ) J1 rv y⟩) h1 h2) hd)⟩
theorem pe_makeW0 (M : Mk X.K C f) (F : FnOk X.prog X.w X.K X.mg X.base CX k f fd ps sp) (room : Room (k + 1) X.A) (gl : Gl X x) (mg : X.mg x = some (.ref C)) (b : Binds X.K fd ps ds) (dv : Vals dvs ds) (pa : ∀ σ, PassesAt CX X σ (E σ))
    (hd : (x == ("__debug__" : Str)) = false := by decide) : PE X (.Call (.Name x p) [] [] pos) (tMakeW C sp dvs E tNil) :=
  ⟨fun pn sh σ H Q J z => wpAny_Call_Name_kw (ld_glob J gl mg (PySem.W.callWith_K0 J.kIn M.kp (run_makeW (us := []) M F room b dv (pa σ) J .nil z)) hd)⟩
end
end L2
namespace G
open PySem L2
/-! ### an object that changes no more -/
mutual
/-- the cells named stand below n -/
def refB (n : Nat) : D → Bool
  | .tup xs => refBs n xs
  | .lst xs => refBs n xs
  | .ro xs => refBs n xs
  | .dK m => refBk n m
  | .dT m => refBt n m
  | .ins _ xs => refBs n xs
  | .ref k => decide (k < n)
  | .lk d => refB n d
  | .non => true
  | .bl _ => true
  | .int _ => true
  | .str _ => true
  | .raw _ => true
def refBs (n : Nat) : List D → Bool
  | [] => true
  | d :: ds => refB n d && refBs n ds
def refBk (n : Nat) : List (Key × D) → Bool
  | [] => true
  | (_, d) :: ds => refB n d && refBk n ds
def refBt (n : Nat) : List (List Key × D) → Bool
  | [] => true
  | (_, d) :: ds => refB n d && refBt n ds
end
section
variable {K : PySem.W.Frag} {C : Tbl} {g : Gw} {L : Lk} {kw : Vw} {io : List Addr} {O : Addr → Prop} {H : Hp} {σ : St} {sd : DSt} {s : Store}
theorem RD.lowR {w : Vw} {v : V} {d : D} (r : RD K C w v d) : refB w.io.length d = true := by
  refine RD.rec (K := K) (C := C) (w := w) (motive_1 := fun _ d _ => refB w.io.length d = true) (motive_2 := fun _ ds _ => refBs w.io.length ds = true) (motive_3 := fun _ ds _ => refBk w.io.length ds = true) (motive_4 := fun _ ds _ => refBt w.io.length ds = true)
    (by rw [refB]) (fun _ => by rw [refB]) (fun _ => by rw [refB]) (fun _ => by rw [refB]) (fun h => ?_) (fun _ _ q => by rw [refB]; exact q) (fun _ _ _ q => by rw [refB]; exact q) (fun _ _ _ q => by rw [refB]; exact q) (fun _ _ _ q => by rw [refB]; exact q) (fun _ _ _ q => by rw [refB]; exact q) (fun _ _ _ q => by rw [refB]; exact q) (fun _ => by rw [refB])
    (by rw [refBs]) (fun _ _ a b => by rw [refBs, a, b]; rfl) (by rw [refBk]) (fun _ _ a b => by rw [refBk, a, b]; rfl) (by rw [refBt]) (fun _ _ a b => by rw [refBt, a, b]; rfl) r
  rw [refB]
  exact decide_eq_true (List.getElem?_eq_some_iff.mp h).1
theorem RL.lowR {w : Vw} : ∀ {vs : List V} {ds : List D}, RL K C w vs ds → refBs w.io.length ds = true
  | _, _, .nil => by rw [refBs]
  | _, _, .cons h t => by rw [refBs, h.lowR, RL.lowR t]; rfl
theorem RK.lowR {w : Vw} : ∀ {vs : List (Key × V)} {ds : List (Key × D)}, RK K C w vs ds → refBk w.io.length ds = true
  | _, _, .nil => by rw [refBk]
  | _, _, .cons h t => by rw [refBk, h.lowR, RK.lowR t]; rfl
theorem RT.lowR {w : Vw} : ∀ {vs : List (List Key × V)} {ds : List (List Key × D)}, RT K C w vs ds → refBt w.io.length ds = true
  | _, _, .nil => by rw [refBt]
  | _, _, .cons h t => by rw [refBt, h.lowR, RT.lowR t]; rfl
theorem RC.lowR {w : Vw} {o : HO} {d : D} (r : RC K C w o d) : refB w.io.length d = true := by
  induction r with
  | lst r => rw [refB]; exact r.lowR
  | dK r => rw [refB]; exact r.lowR
  | dT r => rw [refB]; exact r.lowR
  | ins r => rw [refB]; exact r.lowR
  | lk _ _ ih => rw [refB]; exact ih
/-- one cell less -/
abbrev lessV (w w' : Vw) : Prop := w'.H = w.H ∧ (∀ a, w'.X a → w.X a) ∧ ∃ l, w.io = w'.io ++ l
theorem RD.less {w w' : Vw} (q : lessV w w') {v : V} {d : D} (r : RD K C w v d) : refB w'.io.length d = true → RD K C w' v d := by
  obtain ⟨eh, ex, l, el⟩ := q
  have nx : ∀ {a}, ¬ w.X a → ¬ w'.X a := fun h z => h (ex _ z)
  refine RD.rec (K := K) (C := C) (w := w) (motive_1 := fun v d _ => refB w'.io.length d = true → RD K C w' v d) (motive_2 := fun vs ds _ => refBs w'.io.length ds = true → RL K C w' vs ds) (motive_3 := fun vs ds _ => refBk w'.io.length ds = true → RK K C w' vs ds) (motive_4 := fun vs ds _ => refBt w'.io.length ds = true → RT K C w' vs ds)
    (fun _ => .non) (fun _ _ => .bl _) (fun _ _ => .int _) (fun _ _ => .str _) (fun h z => ?_) (fun h _ q z => ?_) (fun x h _ q z => ?_) (fun x h _ q z => ?_) (fun x h _ q z => ?_) (fun x h _ q z => ?_) (fun x h _ q z => ?_) (fun a _ => .raw a)
    (fun _ => .nil) (fun _ _ a b z => ?_) (fun _ => .nil) (fun _ _ a b z => ?_) (fun _ => .nil) (fun _ _ a b z => ?_) r
  · rw [refB] at z
    refine .ref ?_
    rw [el, List.getElem?_append_left (of_decide_eq_true z)] at h
    exact h
  · rw [refB] at z
    refine .ro ?_ (q z)
    rw [eh]
    exact h.imp (fun h => ⟨nx h.1, h.2⟩) id
  · rw [refB] at z; exact .lst (nx x) (by rw [eh]; exact h) (q z)
  · rw [refB] at z; exact .tup (nx x) (by rw [eh]; exact h) (q z)
  · rw [refB] at z; exact .dK (nx x) (by rw [eh]; exact h) (q z)
  · rw [refB] at z; exact .dT (nx x) (by rw [eh]; exact h) (q z)
  · rw [refB] at z; exact .ins (nx x) (by rw [eh]; exact h) (q z)
  · rw [refBs, Bool.and_eq_true] at z; exact .cons (a z.1) (b z.2)
  · rw [refBk, Bool.and_eq_true] at z; exact .cons (a z.1) (b z.2)
  · rw [refBt, Bool.and_eq_true] at z; exact .cons (a z.1) (b z.2)
theorem RL.less {w w' : Vw} (q : lessV w w') : ∀ {vs : List V} {ds : List D}, RL K C w vs ds → refBs w'.io.length ds = true → RL K C w' vs ds
  | _, _, .nil, _ => .nil
  | _, _, .cons h t, z => by rw [refBs, Bool.and_eq_true] at z; exact .cons (h.less q z.1) (RL.less q t z.2)
theorem RK.less {w w' : Vw} (q : lessV w w') : ∀ {vs : List (Key × V)} {ds : List (Key × D)}, RK K C w vs ds → refBk w'.io.length ds = true → RK K C w' vs ds
  | _, _, .nil, _ => .nil
  | _, _, .cons h t, z => by rw [refBk, Bool.and_eq_true] at z; exact .cons (h.less q z.1) (RK.less q t z.2)
theorem RT.less {w w' : Vw} (q : lessV w w') : ∀ {vs : List (List Key × V)} {ds : List (List Key × D)}, RT K C w vs ds → refBt w'.io.length ds = true → RT K C w' vs ds
  | _, _, .nil, _ => .nil
  | _, _, .cons h t, z => by rw [refBt, Bool.and_eq_true] at z; exact .cons (h.less q z.1) (RT.less q t z.2)
theorem RC.less {w w' : Vw} (q : lessV w w') {o : HO} {d : D} (r : RC K C w o d) : refB w'.io.length d = true → RC K C w' o d := by
  induction r with
  | lst r => intro z; rw [refB] at z; exact .lst (r.less q z)
  | dK r => intro z; rw [refB] at z; exact .dK (r.less q z)
  | dT r => intro z; rw [refB] at z; exact .dT (r.less q z)
  | ins r => intro z; rw [refB] at z; exact .ins (r.less q z)
  | lk h _ ih => intro z; rw [refB] at z; exact .lk h (ih z)
/-- the last cell, an object that was made since, becomes a value -/
theorem StOk.dropIns {a : Addr} {H' : Hp} {c : Nat} {xs : List D} {kw' : Vw} (S : StOk K C g L kw io O H σ sd s) (S' : StOk K C g L kw' (io ++ [a]) O H' σ sd (s ++ [.ins c xs])) (T : Stp g io O H (io ++ [a]) O H') (hx : refBs io.length xs = true) :
    StOk K C g L kw io O H' σ sd s ∧ Stp g io O H io O H' ∧ RD K C (vw g io O H') (.ref a) (.ins c xs) := by
  have q : lessV (vw g (io ++ [a]) O H') (vw g io O H') := ⟨rfl, fun b z => z.elim .inl fun z => .inr (z.elim (fun z => .inl (List.mem_append_left _ z)) .inr), [a], rfl⟩
  have G : Grow (vw g io O H) (vw g io O H') := ⟨fun b u x h z => T.gr.x b u x h (q.2.1 b z), T.gr.h, [], (List.append_nil _).symm⟩
  have el : io.length = s.length := S.ce.len
  refine ⟨⟨S.nio, S.dj, S.bd, S'.od, S.pre, S'.fr, S'.fz, S'.lk, ⟨S.ce.len, fun n d e => ?_⟩, ⟨S'.sl.len, fun i sl e => ?_, S'.sl.inj⟩, S.kp.trans G, S.an.trans G, ⟨S'.tb.tb, S.tb.b, S'.tb.xo, S.tb.xb⟩⟩, ⟨G, T.ow⟩, ?_⟩
  · have hn : n < s.length := (List.getElem?_eq_some_iff.mp e).1
    obtain ⟨_, _, _, _, r0⟩ := S.ce.get n d e
    obtain ⟨b, u, e1, e2, r1⟩ := S'.ce.get n d (by rw [List.getElem?_append_left hn]; exact e)
    have e1 : (io ++ [a])[n]? = some b := e1
    rw [List.getElem?_append_left (by omega)] at e1
    exact ⟨b, u, e1, e2, r1.less q r0.lowR⟩
  · obtain ⟨v0, e0, r0⟩ := S.sl.get i sl e
    obtain ⟨v, e1, r1⟩ := S'.sl.get i sl e
    refine ⟨v, e1, ?_⟩
    cases r0 with
    | v r0 => cases r1 with
      | v r1 => exact .v (r1.less q r0.lowR)
    | o _ _ _ r0 => cases r1 with
      | o h oa nf r1 => exact .o h oa nf (r1.less q r0.lowR)
    | f r0 =>
      rw [e0] at e1
      cases e1
      exact .f (r0.grow G)
  · obtain ⟨b, u, e1, e2, r1⟩ := S'.ce.get s.length (.ins c xs) (getc _ _)
    have e1 : (io ++ [a])[s.length]? = some b := e1
    rw [← el, List.getElem?_concat_length] at e1
    cases e1
    have e2 : H' a = some u := e2
    have ni : a ∉ io := fun z => by
      have := S'.nio
      rw [List.nodup_append] at this
      exact this.2.2 a z a (by simp) rfl
    have am : a ∈ io ++ [a] := by simp
    cases r1 with
    | ins r => exact .ins (fun z => z.elim (fun z => (S'.bd a z).1 am) fun z => z.elim ni fun z => S'.dj a z am) e2 (r.less q hx)
end
section
variable {X : Cx} {C : Tbl} {g : Gw} {L : Lk} {pos p apos : Pos} {k : Nat} {f : Addr} {fd : FuncData} {ps : List Str} {sp : DSp} {dvs : List V} {dds : List D} {ds : List Value} {x m : Str} {e o : Expr} {es : List Expr} {da : DA} {c : Nat} {de de' : DE} {W : DW}
/-- o.m(..) of one class -/
def dMe (c : Nat) (sp : DSp) (W : DW) (dds : List D) (o : DE) (a : DA) : DE := fun σ s Q => o σ s fun x s1 => match deref s1 (.v x) with
  | .ins c' _ => c' = c ∧ a σ s1 fun ds s2 => sp (x :: (ds ++ dds)) s2 (fun r s' => Q (frzS r) s') (fun x s' => W x σ s')
  | _ => False
def dMeO (c : Nat) (sp : DSp) (W : DW) (dds : List D) (o : DE) (a : DA) : DE := fun σ s Q => o σ s fun x s1 => match deref s1 (.v x) with
  | .ins c' _ => c' = c ∧ a σ s1 fun ds s2 => sp (x :: (ds ++ dds)) s2 (fun r s' => match r with | .o d => Q d s' | _ => False) (fun x s' => W x σ s')
  | _ => False
/-- C(..): a new cell -/
def dMk (c : Nat) (sp : DSp) (W : DW) (dds : List D) (a : DA) : DE := fun σ s Q => a σ s fun ds s1 => sp (.ref s1.length :: (ds ++ dds)) (s1 ++ [.ins c []]) (fun r s' => frzS r = .non ∧ Q (.ref s1.length) s') (fun x s' => W x σ s')
/-- C(..): a value, where the object is not changed any more -/
def dMkV (c : Nat) (sp : DSp) (W : DW) (dds : List D) (a : DA) : DE := fun σ s Q => a σ s fun ds s1 => sp (.ref s1.length :: (ds ++ dds)) (s1 ++ [.ins c []]) (fun r s' => frzS r = .non ∧ ∃ xs, s' = s1 ++ [.ins c xs] ∧ refBs s1.length xs = true ∧ Q (.ins c xs) s1) (fun x s' => W x σ s')
def dOrE (a b : DE) : DE := fun σ s Q => a σ s Q ∨ b σ s Q
theorem g_orE (ha : PE X e (LE X.K C g L de)) (hb : PE X e (LE X.K C g L de')) : PE X e (LE X.K C g L (dOrE de de')) := (ha.or hb).imp fun σ H Q ⟨kw, io, O, sd, s, Qd, S, h, k⟩ => h.imp (fun h => ⟨kw, io, O, sd, s, Qd, S, h, k⟩) fun h => ⟨kw, io, O, sd, s, Qd, S, h, k⟩
theorem g_orO (ha : PE X e (LO X.K C g L de)) (hb : PE X e (LO X.K C g L de')) : PE X e (LO X.K C g L (dOrE de de')) := (ha.or hb).imp fun σ H Q ⟨kw, io, O, sd, s, Qd, S, h, k⟩ => h.imp (fun h => ⟨kw, io, O, sd, s, Qd, S, h, k⟩) fun h => ⟨kw, io, O, sd, s, Qd, S, h, k⟩
theorem l_me (hf : m ∉ C.fl c) (hdd : ∀ w, RL X.K C w dvs dds) (σ : St) (H : Hp) (Q : VK) (h : LE X.K C g L (dMe c sp W dds de da) σ H Q) : tMethW (C.ad c) m (LF X.K C sp) dvs (fun σ => WE (LW X.K C g L W) σ) (LE X.K C g L de) (LA X.K C g L da) σ H Q := by
  obtain ⟨kw, io, O, sd, s, Qd, S, h, k⟩ := h
  refine ⟨kw, io, O, sd, s, _, S, h, fun d s1 io1 H1 v q S1 T1 r => ?_⟩
  split at q
  · rename_i c' xs ed
    obtain ⟨rfl, q⟩ := q
    obtain ⟨a, dx, vs, rfl, ha⟩ := ins_at S1 r ed
    exact ⟨a, dx, _, rfl, ha, zip_no hf vs, kw, io1, O, sd, s1, _, S1, q, fun ds s2 io2 H2 ws q2 S2 T2 rs => call_frz S2 (.cons (r.grow T2.gr) (rs.append (hdd _))) q2 fun d s' io' H' v q' S' T' r' => k d s' io' H' v q' S' ((T1.trans T2).trans T') r'⟩
  · exact q.elim
theorem l_meO (hf : m ∉ C.fl c) (hdd : ∀ w, RL X.K C w dvs dds) (σ : St) (H : Hp) (Q : VK) (h : LO X.K C g L (dMeO c sp W dds de da) σ H Q) : tMethW (C.ad c) m (LF X.K C sp) dvs (fun σ => WE (LW X.K C g L W) σ) (LE X.K C g L de) (LA X.K C g L da) σ H Q := by
  obtain ⟨kw, io, O, sd, s, Qd, S, h, k⟩ := h
  refine ⟨kw, io, O, sd, s, _, S, h, fun d s1 io1 H1 v q S1 T1 r => ?_⟩
  split at q
  · rename_i c' xs ed
    obtain ⟨rfl, q⟩ := q
    obtain ⟨a, dx, vs, rfl, ha⟩ := ins_at S1 r ed
    exact ⟨a, dx, _, rfl, ha, zip_no hf vs, kw, io1, O, sd, s1, _, S1, q, fun ds s2 io2 H2 ws q2 S2 T2 rs => call_own S2 (.cons (r.grow T2.gr) (rs.append (hdd _))) q2 fun d s' io' H' p ho q' S' T' => k d s' io' H' p ho q' S' ((T1.trans T2).trans T')⟩
  · exact q.elim
theorem g_me {pl : Sem Bool} (he : PE X o (LE X.K C g L de)) (hc : Cls X.K (C.ad c)) (hm : Meth X.K (C.ad c) m f) (hf : m ∉ C.fl c) (F : FnOk X.prog X.w X.K X.mg X.base (L2.CX X.prog X.w) k f fd ps (LF X.K C sp)) (hr : Room k X.A) (hb : Binds X.K fd ps ds) (hd : Vals dvs ds) (hdd : ∀ w, RL X.K C w dvs dds) (tk : Takes X (LW X.K C g L W))
    (ha : PA X (e :: es) (LA X.K C g L da)) (h1 : starEach (e :: es) X.env = (false, eval e X.env) :: starEach es X.env := by rfl) (h2 : (backTo pos (starEach es X.env)).any (·.1) = false := by rfl) (h3 : EvMeth X o m apos pos (e :: es) pl := by rfl) : PE X (.Call (.Attribute o m apos) (e :: es) [] pos) (LE X.K C g L (dMe c sp W dds de da)) :=
  (pe_methW (pl := pl) he hc hm F hr hb hd (fun σ => passAt tk σ) ha h1 h2 h3).imp (l_me hf hdd)
theorem g_meO {pl : Sem Bool} (he : PE X o (LE X.K C g L de)) (hc : Cls X.K (C.ad c)) (hm : Meth X.K (C.ad c) m f) (hf : m ∉ C.fl c) (F : FnOk X.prog X.w X.K X.mg X.base (L2.CX X.prog X.w) k f fd ps (LF X.K C sp)) (hr : Room k X.A) (hb : Binds X.K fd ps ds) (hd : Vals dvs ds) (hdd : ∀ w, RL X.K C w dvs dds) (tk : Takes X (LW X.K C g L W))
    (ha : PA X (e :: es) (LA X.K C g L da)) (h1 : starEach (e :: es) X.env = (false, eval e X.env) :: starEach es X.env := by rfl) (h2 : (backTo pos (starEach es X.env)).any (·.1) = false := by rfl) (h3 : EvMeth X o m apos pos (e :: es) pl := by rfl) : PE X (.Call (.Attribute o m apos) (e :: es) [] pos) (LO X.K C g L (dMeO c sp W dds de da)) :=
  (pe_methW (pl := pl) he hc hm F hr hb hd (fun σ => passAt tk σ) ha h1 h2 h3).imp (l_meO hf hdd)
theorem g_me0 {pl : Sem Bool} (he : PE X o (LE X.K C g L de)) (hc : Cls X.K (C.ad c)) (hm : Meth X.K (C.ad c) m f) (hf : m ∉ C.fl c) (F : FnOk X.prog X.w X.K X.mg X.base (L2.CX X.prog X.w) k f fd ps (LF X.K C sp)) (hr : Room k X.A) (hb : Binds X.K fd ps ds) (hd : Vals dvs ds) (hdd : ∀ w, RL X.K C w dvs dds) (tk : Takes X (LW X.K C g L W))
    (h3 : EvMeth X o m apos pos [] pl := by rfl) : PE X (.Call (.Attribute o m apos) [] [] pos) (LE X.K C g L (dMe c sp W dds de aNil)) :=
  (pe_methW0 (pl := pl) he hc hm F hr hb hd (fun σ => passAt tk σ) h3).imp fun σ H Q h => by
    obtain ⟨kw, io, O, sd, s, Qd, S, h, k⟩ := l_me (m := m) (dvs := dvs) hf hdd σ H Q h
    exact ⟨kw, io, O, sd, s, Qd, S, h, fun d s' io' H' v q S' T' r => let ⟨a, dx, fs, e1, e2, e3, q2⟩ := k d s' io' H' v q S' T' r; ⟨a, dx, fs, e1, e2, e3, ga_nilT _ _ _ q2⟩⟩
theorem g_meO0 {pl : Sem Bool} (he : PE X o (LE X.K C g L de)) (hc : Cls X.K (C.ad c)) (hm : Meth X.K (C.ad c) m f) (hf : m ∉ C.fl c) (F : FnOk X.prog X.w X.K X.mg X.base (L2.CX X.prog X.w) k f fd ps (LF X.K C sp)) (hr : Room k X.A) (hb : Binds X.K fd ps ds) (hd : Vals dvs ds) (hdd : ∀ w, RL X.K C w dvs dds) (tk : Takes X (LW X.K C g L W))
    (h3 : EvMeth X o m apos pos [] pl := by rfl) : PE X (.Call (.Attribute o m apos) [] [] pos) (LO X.K C g L (dMeO c sp W dds de aNil)) :=
  (pe_methW0 (pl := pl) he hc hm F hr hb hd (fun σ => passAt tk σ) h3).imp fun σ H Q h => by
    obtain ⟨kw, io, O, sd, s, Qd, S, h, k⟩ := l_meO (m := m) (dvs := dvs) hf hdd σ H Q h
    exact ⟨kw, io, O, sd, s, Qd, S, h, fun d s' io' H' v q S' T' r => let ⟨a, dx, fs, e1, e2, e3, q2⟩ := k d s' io' H' v q S' T' r; ⟨a, dx, fs, e1, e2, e3, ga_nilT _ _ _ q2⟩⟩
/-- the new object's cell, its constructor's call -/
theorem l_mkC (hdd : ∀ w, RL X.K C w dvs dds) {σ : St} {Q : VK} {kw : Vw} {io : List Addr} {O : Addr → Prop} {H : Hp} {sd : DSt} {s1 : Store} {ds : List D} {vs : List V} {Qd : DK} (S1 : StOk X.K C g L kw io O H σ sd s1) (rs : RL X.K C (vw g io O H) vs ds) (h : sp (.ref s1.length :: (ds ++ dds)) (s1 ++ [.ins c []]) (fun r s' => frzS r = .non ∧ Qd (.ref s1.length) s') (fun x s' => W x sd s'))
    (k : ∀ s' io' H' x, Qd (.ref s1.length) s' → StOk X.K C g L kw io' O H' σ sd s' → Stp g io O H io' O H' → io'[s1.length]? = some x → Q (.ref x) H') :
    ∀ x dx, H x = none → H dx = none → dx ≠ x → LF X.K C sp (.ref x :: (vs ++ dvs)) (upd (upd H dx (.own x)) x (.ins (C.ad c) dx [])) (fun v H2 => v = .non ∧ Q (.ref x) H2) (WE (LW X.K C g L W) σ) := by
  intro x dx hx hdx ne
  obtain ⟨S2, T2⟩ := S1.stpNew (o := .own x) hdx
  have hx2 : upd H dx (.own x) x = none := by rw [upd_ne (Ne.symm ne)]; exact hx
  obtain ⟨S3, T3⟩ := S2.stpCell (o := .ins (C.ad c) dx []) (d := .ins c []) hx2 (by
    have this := RC.ins (K := X.K) (C := C) (w := vw g io O (upd H dx (.own x))) (dx := dx) (c := c) (vs := []) (ds := []) .nil
    rw [List.zip_nil_right] at this
    exact this)
  have hl : io.length = s1.length := S1.ce.len
  have hxi : (io ++ [x])[s1.length]? = some x := by rw [← hl]; exact List.getElem?_concat_length
  refine call_frz (Qd := fun d s' => d = .non ∧ Qd (.ref s1.length) s') S3 (.cons (.ref hxi) (((rs.grow T2.gr).grow T3.gr).append (hdd _))) h fun d s' io' H' v q' S' T' r' => ?_
  obtain ⟨rfl, q'⟩ := q'
  cases r'
  exact ⟨rfl, k s' io' H' x q' S' ((T2.trans T3).trans T') (T'.gr.get hxi)⟩
theorem l_mk (hdd : ∀ w, RL X.K C w dvs dds) (σ : St) (H : Hp) (Q : VK) (h : LE X.K C g L (dMk c sp W dds da) σ H Q) : tMakeW (C.ad c) (LF X.K C sp) dvs (fun σ => WE (LW X.K C g L W) σ) (LA X.K C g L da) σ H Q := by
  obtain ⟨kw, io, O, sd, s, Qd, S, h, k⟩ := h
  exact ⟨kw, io, O, sd, s, _, S, h, fun ds s1 io1 H1 vs q S1 T1 rs => l_mkC hdd S1 rs q fun s' io' H' x q' S' T' hx => k _ s' io' H' (.ref x) q' S' (T1.trans T') (.ref hx)⟩
theorem l_mkV (hdd : ∀ w, RL X.K C w dvs dds) (σ : St) (H : Hp) (Q : VK) (h : LE X.K C g L (dMkV c sp W dds da) σ H Q) : tMakeW (C.ad c) (LF X.K C sp) dvs (fun σ => WE (LW X.K C g L W) σ) (LA X.K C g L da) σ H Q := by
  obtain ⟨kw, io, O, sd, s, Qd, S, h, k⟩ := h
  refine ⟨kw, io, O, sd, s, _, S, h, fun ds s1 io1 H1 vs q S1 T1 rs => l_mkC (Qd := fun _ s' => ∃ xs, s' = s1 ++ [.ins c xs] ∧ refBs s1.length xs = true ∧ Qd (.ins c xs) s1) hdd S1 rs q fun s' io' H' x q' S' T' hx => ?_⟩
  obtain ⟨xs, rfl, hb, q2⟩ := q'
  have hl : io1.length = s1.length := S1.ce.len
  have hl' : io'.length = (s1 ++ [D.ins c xs]).length := S'.ce.len
  obtain ⟨l, e⟩ := T'.gr.i
  have e : io' = io1 ++ l := e
  have el : l = [x] := by
    rw [e, List.length_append, List.length_append] at hl'
    rw [e, List.getElem?_append_right (by omega), hl, Nat.sub_self] at hx
    cases l with
    | nil => simp at hx
    | cons y l =>
      have : l.length = 0 := by simp at hl'; omega
      rw [List.length_eq_zero_iff.mp this] at *
      simp at hx
      rw [hx]
  rw [el] at e
  subst e
  rw [← hl] at hb
  obtain ⟨S2, T2, r2⟩ := S1.dropIns S' T' hb
  exact k _ s1 io1 H' (.ref x) q2 S2 (T1.trans T2) r2
theorem g_mk (M : Mk X.K (C.ad c) f) (F : FnOk X.prog X.w X.K X.mg X.base (L2.CX X.prog X.w) k f fd ps (LF X.K C sp)) (hr : Room (k + 1) X.A) (hg : Gl X x) (hm : X.mg x = some (.ref (C.ad c))) (hb : Binds X.K fd ps ds) (hd : Vals dvs ds) (hdd : ∀ w, RL X.K C w dvs dds) (tk : Takes X (LW X.K C g L W))
    (ha : PA X (e :: es) (LA X.K C g L da)) (h0 : (x == ("__debug__" : Str)) = false := by decide) (h1 : starEach (e :: es) X.env = (false, eval e X.env) :: starEach es X.env := by rfl) (h2 : (backTo pos (starEach es X.env)).any (·.1) = false := by rfl) :
    PE X (.Call (.Name x p) (e :: es) [] pos) (LE X.K C g L (dMk c sp W dds da)) := (pe_makeW M F hr hg hm hb hd (fun σ => passAt tk σ) ha h0 h1 h2).imp (l_mk hdd)
theorem g_mkV (M : Mk X.K (C.ad c) f) (F : FnOk X.prog X.w X.K X.mg X.base (L2.CX X.prog X.w) k f fd ps (LF X.K C sp)) (hr : Room (k + 1) X.A) (hg : Gl X x) (hm : X.mg x = some (.ref (C.ad c))) (hb : Binds X.K fd ps ds) (hd : Vals dvs ds) (hdd : ∀ w, RL X.K C w dvs dds) (tk : Takes X (LW X.K C g L W))
    (ha : PA X (e :: es) (LA X.K C g L da)) (h0 : (x == ("__debug__" : Str)) = false := by decide) (h1 : starEach (e :: es) X.env = (false, eval e X.env) :: starEach es X.env := by rfl) (h2 : (backTo pos (starEach es X.env)).any (·.1) = false := by rfl) :
    PE X (.Call (.Name x p) (e :: es) [] pos) (LE X.K C g L (dMkV c sp W dds da)) := (pe_makeW M F hr hg hm hb hd (fun σ => passAt tk σ) ha h0 h1 h2).imp (l_mkV hdd)
/-- raise X('m'): X an exception class of the program, over ValueError, without own __init__ -/
def dRaise (W : DW) (c : Nat) : DS := fun _ σ s => W ⟨c, []⟩ σ s
theorem gs_raise {y : Str} {j : Nat} {msg : Str} {p2 pos2 : Pos} (hc : X.calm = true) (tk : Takes X (LW X.K C g L W)) (q : PySem.W.excIn X.K (C.ad c) He.veBase "ValueError.__new__" = true) (kC : PySem.W.keepIn X.K (.ref (C.ad c)) = true) (s1 : PySem.W.subIn X.K (.ref (C.ad c)) (.type "BaseException") = some true) (s2 : PySem.W.typeIn X.K (.ref (C.ad c)) = some (.type "type"))
    (gC : X.mg y = some (.ref (C.ad c))) (hg : Gl X y) (hdb : (y == ("__debug__" : Str)) = false := by decide) : PS X (.Raise (some (.Call (.Name y p) [.Constant (.str msg) j p2] [] pos2)) none pos) (LS X.K C g L (dRaise W c)) :=
  (ps_raise hc tk (pmk_own PySem.F.excBase_ValueError q gC kC (raises_own s1 s2) hg hdb)).imp fun T σ H ⟨kw, io, O, sd, s, D, S, h, E⟩ => ⟨kw, io, O, sd, s, ⟨c, []⟩, S, ⟨rfl, .inl ⟨rfl, rfl⟩⟩, h⟩
end
end G
namespace G
open PySem L2
/-! ### the head, with facts of one's own -/
abbrev FaX : Type := List (PySem.W.Frag → Bool)
def exOk (ex : FaX) (K : PySem.W.Frag) : Bool := ex.all fun f => f K
def obsY (n : Nat) (fa : List He.Fa) (fn : List He.DefD) (ex : FaX) (g : Addr → Option Obj) : He.AlD × Bool := (He.obsDG n fa fn g, exOk ex (He.frG g (He.asD g n)))
def hookY (n : Nat) (fa : List He.Fa) (fn : List He.DefD) (ex : FaX) : PySem.W.Hook where
  α := He.AlD × Bool
  obs := fun s => obsY n fa fn ex s.heap.get?
  val := fun _ => (He.valD fn, true)
  says := fun _ h => ∃ K : PySem.W.Frag, K.In h ∧ He.SaysD fa fn K ∧ exOk ex K = true
  of := fun _ _ e => ⟨_, He.frG_in, congrArg Prod.fst e, congrArg Prod.snd e⟩
  keeps _ _ _ z k := let ⟨K, hK, c⟩ := z; ⟨K, PySem.W.Frag.In.keeps hK k, c⟩
theorem obsY_eq {n : Nat} {fa : List He.Fa} {fn : List He.DefD} {ex : FaX} {g : Addr → Option Obj} {s : Shared} (h : ∀ a, g a = s.heap.get? a) : obsY n fa fn ex g = (hookY n fa fn ex).obs s := by
  rw [show g = s.heap.get? from funext h] <;> rfl
theorem exOk.at {ex : FaX} {K : PySem.W.Frag} (c : exOk ex K = true) (i : Nat) {f : PySem.W.Frag → Bool} (h : ex[i]? = some f) : f K = true := List.all_eq_true.mp c f (List.mem_of_getElem? h)
/-! ### isinstance(x, C), x an object of a class of the program -/
def clsB (x : Str) (K : PySem.W.Frag) : Bool := decide (PySem.W.findIn K (.ref (He.ga K x)) "__class__" = some (some (.builtin "object.__class__"))) && decide (PySem.W.mroIn K (He.ga K x) (.type "object") = some true)
def getB (K : PySem.W.Frag) : Bool := decide (PySem.W.specialIn K (.builtin "object.__class__") "__get__" = some (some (.builtin "getset_descriptor.__get__"))) && decide (PySem.W.takesIn K (.builtin "object.__class__") = some true)
def isiB (x y : Str) (b : Bool) (K : PySem.W.Frag) : Bool := decide (PySem.W.kitOne K (.ref (He.ga K x)) (.ref (He.ga K y)) = some b)
structure IsiOk (K : PySem.W.Frag) (a d : Addr) (b : Bool) : Prop where
  cl : Cls K a
  ha : PySem.W.findIn K (.ref a) "__class__" = some (some (.builtin "object.__class__"))
  hm : PySem.W.mroIn K a (.type "object") = some true
  h3 : PySem.W.specialIn K (.builtin "object.__class__") "__get__" = some (some (.builtin "getset_descriptor.__get__"))
  h4 : PySem.W.takesIn K (.builtin "object.__class__") = some true
  hk : PySem.W.kitOne K (.ref a) (.ref d) = some b
theorem isi_mk {K : PySem.W.Frag} {x y : Str} {b : Bool} (cl : Cls K (He.ga K x)) (h1 : clsB x K = true) (h2 : getB K = true) (h3 : isiB x y b K = true) : IsiOk K (He.ga K x) (He.ga K y) b := by
  obtain ⟨a1, a2⟩ := Bool.and_eq_true_iff.mp h1
  obtain ⟨b1, b2⟩ := Bool.and_eq_true_iff.mp h2
  exact ⟨cl, of_decide_eq_true a1, of_decide_eq_true a2, of_decide_eq_true b1, of_decide_eq_true b2, of_decide_eq_true h3⟩
/-- isinstance(x, C) of objects: the answers by classes -/
def dIsC (js : List (Nat × Bool)) (e : DP) : DE := fun σ s Q => e σ s fun x s' => match deref s' x with
  | .ins c _ => (match js.lookup c with
    | some b => Q (.bl b) s'
    | none => False)
  | _ => False
theorem look_memB {js : List (Nat × Bool)} {c : Nat} {b : Bool} (h : js.lookup c = some b) : (c, b) ∈ js := by
  induction js with
  | nil => cases h
  | cons p js ih =>
    rw [List.lookup_cons] at h
    split at h
    · rename_i e
      cases h
      have : c = p.1 := by simpa using e
      subst this
      exact List.mem_cons_self
    · exact List.mem_cons_of_mem _ (ih h)
section
variable {X : Cx} {C : Tbl} {g : Gw} {L : Lk} {pos p pT : Pos} {e : Expr} {dp : DP}
theorem g_isC {x : Str} {d : Addr} {js : List (Nat × Bool)} (hj : ∀ q ∈ js, IsiOk X.K (C.ad q.1) d q.2) (hg : Gl X "isinstance") (hm : X.mg "isinstance" = none) (ht : PE X (.Name x pT) (tC (.ref d))) (h : PE X e (LP X.K C g L dp))
    (s1 : starEach [e, .Name x pT] X.env = (false, eval e X.env) :: starEach [.Name x pT] X.env := by rfl) (s2 : starEach [.Name x pT] X.env = (false, eval (.Name x pT) X.env) :: starEach [] X.env := by rfl) (hpl : (backTo pos (starEach [.Name x pT] X.env)).any (·.1) = false := by rfl) :
    PE X (.Call (.Name "isinstance" p) [e, .Name x pT] [] pos) (LE X.K C g L (dIsC js dp)) :=
  (pe_callB call_isi hg hm (by decide +kernel) (pa_cons h (pa_cons ht pa_nil s2) s1) (he := s1) (hpl := hpl)).imp fun σ H Q ⟨kw, io, O, sd, s, Qd, S, h, k⟩ => by
  refine ⟨kw, io, O, sd, s, _, S, h, fun x s' io' H' v q S' T' r => ?_⟩
  have go : ∀ {a dx : Addr} {c : Nat} {fs : List (Str × V)} {xs : List D}, v = .ref a → H' a = some (.ins (C.ad c) dx fs) → deref s' x = .ins c xs → ∃ (x c : V) (t u : Value) (b : Bool), [v, .ref d] = [x, c] ∧ ClsV c u ∧ TyX X.K H' x t ∧ PySem.W.kitOne X.K t u = some b ∧ Q (.bl b) H' := by
    intro a dx c fs xs ev ha ed
    rw [ed] at q
    have q : (match js.lookup c with | some b => Qd (.bl b) s' | none => False) := q
    split at q
    · rename_i b eb
      have J := hj _ (look_memB eb)
      subst ev
      exact ⟨_, _, _, _, b, rfl, .own d, .base (.ins ha J.cl J.ha J.h3 J.h4 J.hm), J.hk, k _ s' io' H' _ q S' T' (.bl _)⟩
    · exact q.elim
  rcases r.deref S' with z | ⟨a, ho, e1, e2, z⟩
  · generalize ed : deref s' x = t at z q
    cases z with
    | ins x1 ha rl => exact go rfl ha ed
    | _ => exact False.elim q
  · generalize ed : deref s' x = t at z q
    cases z with
    | ins rl => exact go e1 e2 ed
    | _ => exact False.elim q
end
end G
namespace G
/-- a method, found in a class above -/
def sameB (x y m : PySem.Str) (K : PySem.W.Frag) : Bool := decide (He.ma K (He.ga K x) m = He.ma K (He.ga K y) m)
theorem sameM_ok {x y m : PySem.Str} {K : PySem.W.Frag} (h : sameB x y m K = true) : He.ma K (He.ga K x) m = He.ma K (He.ga K y) m := of_decide_eq_true h
end G
namespace G
open PySem L2
/-! ### texts in lists and tuples -/
theorem any_map_str (xs : List Str) (k : Str) : ((xs.map D.str).any fun z => eqD z (.str k)) = decide (k ∈ xs) := by
  induction xs with
  | nil => simp
  | cons x xs ih =>
    rw [List.map_cons, List.any_cons, ih, eqD_str]
    by_cases h : x = k
    · simp [h]
    · have : ¬ k = x := fun z => h z.symm
      simp [h, this]
theorem all_flat_str (xs : List Str) : (xs.map D.str).all flatD = true := by
  rw [List.all_eq_true]
  intro d hd
  obtain ⟨x, _, rfl⟩ := List.mem_map.mp hd
  rfl
theorem okE_str (n : Nat) {x : Str} (h : PyData.strOk x = true) : okE n (.str x) = true := by cases n <;> exact h
theorem oIn_strT {neg : Bool} {ks : List Str} {k : Str} {s : Store} {Q : DK} (q : Q (.bl (neg ^^ decide (k ∈ ks))) s) : oIn neg (.v (.str k)) (.v (.tup (ks.map D.str))) s Q := by
  refine ⟨rfl, all_flat_str ks, ?_⟩
  show Q (.bl (neg ^^ ((ks.map D.str).any fun z => eqD z (.str k)))) s
  rw [any_map_str]
  exact q
theorem oIn_strL {neg : Bool} {ks : List Str} {k : Str} {s : Store} {Q : DK} (h1 : PyData.strOk k = true) (h2 : ∀ x ∈ ks, PyData.strOk x = true) (q : Q (.bl (neg ^^ decide (k ∈ ks))) s) : oIn neg (.v (.str k)) (.v (.lst (ks.map D.str))) s Q := by
  refine ⟨okE_str _ h1, okEs_map fun x hx => okE_str _ (h2 x hx), ?_⟩
  show Q (.bl (neg ^^ ((ks.map D.str).any fun z => eqD z (.str k)))) s
  rw [any_map_str]
  exact q
theorem oIn_natsO {neg : Bool} {xs : List Nat} {i : Nat} {s : Store} {Q : DK} (q : Q (.bl (neg ^^ decide (i ∈ xs))) s) : oIn neg (.v (.int i)) (.o (.lst (xs.map fun n : Nat => D.int n))) s Q := by
  refine ⟨rfl, okEs_map fun x _ => okE_int _ _, ?_⟩
  show Q (.bl (neg ^^ ((xs.map fun n : Nat => D.int n).any fun z => eqD z (.int i)))) s
  rw [any_map_nat]
  exact q
theorem oSorted_nats {hs : List Nat} {s : Store} {Q : DK} (q : ∀ ys : List Nat, ys.Perm hs → ys.Pairwise (· ≤ ·) → Q (.lst (ys.map fun n : Nat => D.int n)) s) : oSorted [.o (.lst (hs.map fun n : Nat => D.int n))] s Q := by
  show (match intsOf (hs.map fun n : Nat => D.int n) with | some ns => ∀ ys : List Int, ys.Perm ns → ys.Pairwise (· ≤ ·) → Q (.lst (ys.map D.int)) s | none => False)
  have e0 : (hs.map fun n : Nat => D.int n) = (hs.map fun n : Nat => (n : Int)).map D.int := by rw [List.map_map]; rfl
  rw [e0, intsOf_map]
  intro ys hp ho
  have h1 : (ys.map Int.toNat).Perm hs := by
    have := hp.map Int.toNat
    rw [List.map_map] at this
    have e : (Int.toNat ∘ fun n : Nat => (n : Int)) = id := by funext n; simp
    rw [e, List.map_id] at this
    exact this
  have h2 : ((ys.map Int.toNat).map fun n : Nat => D.int n) = ys.map D.int := by
    rw [List.map_map]
    refine List.map_congr_left fun y hy => ?_
    obtain ⟨n, _, rfl⟩ := List.mem_map.mp (hp.mem_iff.mp hy)
    simp
  rw [← h2]
  refine q _ h1 ?_
  rw [List.pairwise_map]
  exact ho.imp fun h => by omega
/-! bounds, an item by a remainder -/
theorem cdiv {i j : Int} (h : 0 < j) (h2 : j < 2 ^ 64) : CDivW i j := by
  refine ⟨h, ?_⟩
  have h3 : j.natAbs < 2 ^ 9000 := Nat.lt_of_lt_of_le (by omega : j.natAbs < 2 ^ 64) (Nat.pow_le_pow_right (by omega) (by omega))
  exact (Nat.log2_lt (by omega)).mpr h3
theorem cmuL {i j : Int} (h : -(2 ^ 64) < i) (h2 : i < 2 ^ 64) : CMu i j := .inl (.inl ⟨h, h2⟩)
theorem cmuR {i j : Int} (h : -(2 ^ 64) < j) (h2 : j < 2 ^ 64) : CMu i j := .inl (.inr ⟨h, h2⟩)
theorem oIx_mod {α : Type} {f : α → D} {hs : List α} {c : Int} {s : Store} {Q : DK} (h : hs ≠ []) (q : ∀ x ∈ hs, Q (f x) s) : 0 < ((hs.map f).length : Int) ∧ oIx (.v (.lst (hs.map f))) (.v (.int (c % (hs.map f).length))) s Q := by
  have hl : 0 < hs.length := List.length_pos_iff.mpr h
  rw [List.length_map]
  refine ⟨by omega, ?_⟩
  have a := Int.emod_lt_of_pos c (show (0 : Int) < hs.length by omega)
  have b := Int.emod_nonneg c (show (hs.length : Int) ≠ 0 by omega)
  have k : (c % hs.length).toNat < hs.length := by omega
  refine oIx_lstI b (by rw [List.getElem?_map, List.getElem?_eq_getElem k]; rfl) ?_
  exact q _ (List.getElem_mem k)
theorem oMax2 {a b : Int} {s : Store} {Q : DK} (q : Q (.int (max a b)) s) : oMax [.v (.int a), .v (.int b)] s Q := by
  have e : (if a < b then b else a) = max a b := by
    split <;> omega
  first
    | exact (e ▸ q : Q (.int (if a < b then b else a)) s)
    | (show Q (.int (maxL a [b])) s; unfold maxL; simp only [List.foldl_cons, List.foldl_nil, e]; exact q)
theorem oMin2 {a b : Int} {s : Store} {Q : DK} (q : Q (.int (min a b)) s) : oMin [.v (.int a), .v (.int b)] s Q := by
  have e : (if b < a then b else a) = min a b := by
    split <;> omega
  first
    | exact (e ▸ q : Q (.int (if b < a then b else a)) s)
    | (show Q (.int (minL a [b])) s; unfold minL; simp only [List.foldl_cons, List.foldl_nil, e]; exact q)
theorem oIx_in {xs : List D} {i : Int} {s : Store} {Q : DK} (h0 : 0 ≤ i) (h1 : i < xs.length) (q : ∀ d ∈ xs, Q d s) : oIx (.v (.lst xs)) (.v (.int i)) s Q := by
  have k : i.toNat < xs.length := by omega
  exact oIx_lstI h0 (List.getElem?_eq_getElem k) (q _ (List.getElem_mem k))
theorem atI_last {α : Type} {xs : List α} (h : xs ≠ []) : atI xs (-1) = some (xs.getLast h) := by
  have hl : 0 < xs.length := List.length_pos_iff.mpr h
  rw [atI_lit]
  rw [if_neg (by omega), if_pos (by omega)]
  have e : ((-1 : Int) + xs.length).toNat = xs.length - 1 := by omega
  rw [e, List.getLast_eq_getElem, List.getElem?_eq_getElem (by omega)]
theorem oIx_last {α : Type} {f : α → D} {xs : List α} {s : Store} {Q : DK} (h : xs ≠ []) (q : Q (f (xs.getLast h)) s) : oIx (.v (.lst (xs.map f))) (.v (.int (-1))) s Q := by
  show optK (atI (xs.map f) (-1)) Q s
  have h' : xs.map f ≠ [] := by simpa using h
  rw [atI_last h', List.getLast_map]
  exact q
theorem oEq_empty {neg : Bool} {α : Type} {f : α → D} {xs : List α} {s : Store} {Q : DK} (h : ∀ x ∈ xs, okE 39 (f x) = true) (q : Q (.bl (neg ^^ xs.isEmpty)) s) : oEq neg (.v (.lst (xs.map f))) (.v (.lst [])) s Q := by
  refine oEq_lst (okEs_map h) rfl ?_
  have e : eqDs (xs.map f) [] = xs.isEmpty := by
    cases xs with
    | nil => exact eqDs_nil
    | cons x xs => exact eqDs_cn _ _
  rw [e]
  exact q
theorem eqD_nilR {α : Type} (f : α → D) (xs : List α) : eqD (.lst (xs.map f)) (.lst []) = xs.isEmpty := by
  rw [eqD_lst]
  cases xs with
  | nil => exact eqDs_nil
  | cons x xs => exact eqDs_cn _ _
theorem eqD_nilR0 (xs : List D) : eqD (.lst xs) (.lst []) = xs.isEmpty := by
  rw [eqD_lst]
  cases xs with
  | nil => exact eqDs_nil
  | cons x xs => exact eqDs_cn _ _
theorem eqD_tnilR0 (xs : List D) : eqD (.tup xs) (.tup []) = xs.isEmpty := by
  rw [eqD_tup]
  cases xs with
  | nil => exact eqDs_nil
  | cons x xs => exact eqDs_cn _ _
end G
namespace G
open PySem L2
/-- {k: v} -/
def dDisp1 (k v : DE) : DE := fun σ s Q => k σ s fun a s1 => v σ s1 fun b s2 => match keyOf a with
  | some q => Q (.dK [(q, b)]) s2
  | none => False
section
variable {X : Cx} {C : Tbl} {g : Gw} {L : Lk} {pos : Pos} {ek ev : Expr} {dk dv : DE}
theorem l_disp1 {K : PySem.W.Frag} (σ : St) (H : Hp) (Q : VK) (h : LO K C g L (dDisp1 dk dv) σ H Q) : tDisp [(LE K C g L dk, LE K C g L dv)] σ H Q := by
  obtain ⟨kw, io, O, sd, s, Qd, S, h, k⟩ := h
  intro p hp
  obtain ⟨S0, T0, hn⟩ := S.newRes (ho := .dK []) hp
  refine ⟨kw, io, ores O p, sd, s, _, S0, h, fun a s1 io1 H1 va q1 S1 T1 r1 => ⟨kw, io1, ores O p, sd, s1, _, S1, q1, fun b s2 io2 H2 vb q2 S2 T2 r2 => ?_⟩⟩
  have e2 : H2 p = some (.dK []) := by rw [T2.ow p (.inr rfl), T1.ow p (.inr rfl)]; exact upd_same
  split at q2
  · rename_i key ek
    have ekv := r1.key ek
    refine ⟨e2, [(key, vb)], by rw [ekv]; rfl, by simp, ?_⟩
    obtain ⟨S3, G3⟩ := S2.writeRes (ho := .dK (mergeK [] [(key, vb)])) hn (fun i d e z => S.noOwn hn i d e z) e2 (by intro _ _ z; cases z)
    have T02 := (T0.trans T1 (fun _ z => .inl z)).trans T2 (fun _ z => .inl z)
    refine k _ s2 io2 _ p _ q2 S3 ⟨T02.gr.trans G3, fun x hx => ?_⟩ hn upd_same (by intro _ _ z; cases z) (.dK ?_)
    · have ne : x ≠ p := by
        rintro rfl
        exact hn hx
      rw [upd_ne ne]
      exact T02.ow x hx
    · exact .cons (r2.grow G3) .nil
  · exact q2.elim
theorem g_disp1 (hk : PE X ek (LE X.K C g L dk)) (hv : PE X ev (LE X.K C g L dv)) : PE X (.Dict [some ek] [ev] pos) (LO X.K C g L (dDisp1 dk dv)) := (pe_disp (pps_cons hk hv pps_nil) rfl rfl (List.cons_ne_nil _ _) (show 1 ≤ 15 by decide)).imp l_disp1
end
end G
namespace G
open PySem L2
/-! ### an object's fields, stored and read, by what its cell holds -/
theorem fldS_one {c j n : Nat} {o v : DE} {Z : DEnds} {σ : DSt} {s s1 s2 : Store} {xs : List D} {x : D} (hv : ∀ P : DK, P x s1 → v σ s P) (ho : ∀ P : DK, P (.ref n) s2 → o σ s1 P) (h : s2[n]? = some (.ins c xs)) (hj : j ≤ xs.length)
    (k : ∀ s', s'[n]? = some (.ins c (putAt xs j x)) → s' = s2.set n (.ins c (putAt xs j x)) → (∀ y, s'.set n y = s2.set n y) → Z.nx σ s') : dFldS [(c, j)] o v Z σ s := by
  refine hv _ (ho _ ?_)
  have hl := (List.getElem?_eq_some_iff.mp h).1
  show (match s2[n]? with
    | some (.ins c' xs) => (match [(c, j)].lookup c' with
      | some j => j ≤ xs.length ∧ Z.nx σ (s2.set n (.ins c' (putAt xs j x)))
      | none => False)
    | _ => False)
  rw [h]
  show (match [(c, j)].lookup c with
      | some j => j ≤ xs.length ∧ Z.nx σ (s2.set n (.ins c (putAt xs j x)))
      | none => False)
  have e : [(c, j)].lookup c = some j := by simp [List.lookup]
  rw [e]
  exact ⟨hj, k _ (List.getElem?_set_self hl) rfl fun y => List.set_set ..⟩
theorem fldS_seq {c j n : Nat} {o v : DE} {u : DS} {Z : DEnds} {σ : DSt} {s s1 s2 : Store} {xs : List D} {x : D} (hv : ∀ P : DK, P x s1 → v σ s P) (ho : ∀ P : DK, P (.ref n) s2 → o σ s1 P) (h : s2[n]? = some (.ins c xs)) (hj : j ≤ xs.length)
    (k : ∀ s', s'[n]? = some (.ins c (putAt xs j x)) → s' = s2.set n (.ins c (putAt xs j x)) → (∀ y, s'.set n y = s2.set n y) → u Z σ s') : dSeq (dFldS [(c, j)] o v) u Z σ s := fldS_one (Z := { Z with nx := u Z }) hv ho h hj k
/-- o.f, o a cell -/
theorem fld_at {c j n : Nat} {e : DE} {σ : DSt} {s s1 : Store} {xs : List D} {x : D} {Q : DK} (he : ∀ P : DK, P (.ref n) s1 → e σ s P) (h : s1[n]? = some (.ins c xs)) (hx : xs[j]? = some x) (q : Q x s1) : dFld [(c, j)] e σ s Q := by
  refine he _ ?_
  show (match deref s1 (.v (.ref n)) with
    | .ins c' xs => (match [(c, j)].lookup c' with
      | some j => (match xs[j]? with
        | some x => Q x s1
        | none => False)
      | none => False)
    | _ => False)
  rw [deref_get h]
  show (match [(c, j)].lookup c with
      | some j => (match xs[j]? with
        | some x => Q x s1
        | none => False)
      | none => False)
  have e : [(c, j)].lookup c = some j := by simp [List.lookup]
  rw [e]
  show (match xs[j]? with
        | some x => Q x s1
        | none => False)
  rw [hx]
  exact q
end G
namespace G
open PySem L2
/-- both ways of an if kept shut -/
theorem ifI {c : DT} {t u : DS} {D : DEnds} {σ : DSt} {s : Store} (h : ∀ T U, T = t → U = u → dIf c T U D σ s) : dIf c t u D σ s := h _ _ rfl rfl
end G
namespace G
open L2 PyProof.Rows PySem PySem.Spec
/-! xs[::c] -/
abbrev byStep (c : Int) (n : Nat) : List Nat := sliceRange 0 n c
def someOf {α : Type} (xs : List α) (is : List Nat) : List α := is.filterMap fun i => xs[i]?
theorem byStep_len {c : Int} (hc : 0 < c) (n : Nat) : (byStep c n).length ≤ n := sliceRange_length_le _ _ _ _ (fun _ => ⟨Int.le_refl _, Int.le_refl _⟩) fun h => absurd hc h
theorem someOf_len {α : Type} {c : Int} (hc : 0 < c) (xs : List α) : (someOf xs (byStep c xs.length)).length ≤ xs.length := Nat.le_trans (List.length_filterMap_le _ _) (byStep_len hc _)
theorem pick_step {c : Int} (hc : 0 < c) (items : Array Value) : slicePick items none none (some c) = (someOf items.toList (byStep c items.toList.length)).toArray := by
  have e : sliceBounds none none (some c) items.size = (0, (items.size : Int), c) := by
    unfold sliceBounds
    simp only [Option.getD_some, show c > 0 from hc, if_true]
  unfold slicePick someOf
  rw [e]
  show (List.filterMap (fun x => items[x]?) (sliceRange 0 (items.size : Int) c)).toArray = _
  congr 1
  rw [Array.length_toList]
  congr 1
  funext i
  rw [Array.getElem?_toList]
theorem vals_pick {xs : List V} {us : List Value} (r : Vals xs us) : ∀ is : List Nat, Vals (someOf xs is) (someOf us is)
  | [] => .nil
  | i :: is => by
    unfold someOf
    rw [List.filterMap_cons, List.filterMap_cons]
    cases e : xs[i]? with
    | none =>
      rw [Vals.none_of r e]
      exact vals_pick r is
    | some x =>
      obtain ⟨u, e1, e2⟩ := Vals.get r e
      rw [e1]
      exact .cons e2 (vals_pick r is)
def tStepL (K : PySem.W.Frag) (c : Int) (te : TE) : TE := fun σ H Q => te σ H fun x H1 => ∃ a xs, x = .ref a ∧ SqL K H1 a xs ∧ ∀ p, H1 p = none → Q (.ref p) (upd H1 p (.lst (someOf xs (byStep c xs.length))))
section
variable {X : Cx}
theorem pe_stepL {e : Expr} {te : TE} {c : Int} {k : Nat} {p1 p3 pos : Pos} (hc : 0 < c) (he : PE X e te) : PE X (.Subscript e (.Slice none none (some (.Constant (.int c) k p1)) p3) pos) (tStepL X.K c te) := by
  constructor
  intro pins s σ H Q I h
  refine Subscript_ (thn (he.run pins s σ H _ I h) fun v s1 qq => ?_)
  obtain ⟨_, H1, I1, r1, ⟨a, xs, rfl, hx, q⟩⟩ := qq
  cases r1
  have part : PO X (some (.Constant (.int c) k p1)) (tPart (tC (.int c))) := po_some pe_int
  refine wpAny_Slice (thn (po_none.run pins s1 σ H1 (fun o H2 => o = none ∧ H2 = H1) I1 ⟨rfl, rfl⟩) fun lo s2 qq => ?_)
  obtain ⟨_, _, I2, plo, rfl, rfl⟩ := qq
  refine thn (po_none.run pins s2 σ _ (fun o H3 => o = none ∧ H3 = _) I2 ⟨rfl, rfl⟩) fun hi s3 qq => ?_
  obtain ⟨_, _, I3, phi, rfl, rfl⟩ := qq
  refine thn (part.run pins s3 σ _ (fun o H4 => o = some c ∧ H4 = _) I3 ⟨c, rfl, rfl, rfl⟩) fun st s4 qq => ?_
  obtain ⟨_, H4, I4, pst, rfl, rfl⟩ := qq
  have I5 : Inv X pins σ H4 { s4 with heap := s4.heap.push { cls := .type "slice", data := .fields #[lo, hi, st] } } := I4.kept (t' := s4.toks) fun b ob q => Heap.get?_push_of_some _ q
  obtain ⟨its, r, isl, lez⟩ := I5.list hx
  have el := r.length
  refine tail_any (ops := [Value.ref a, .ref s4.heap.objs.size]) isl.isList.typeIs PySem.slot_list_getitem.lookup ?_ (by with_unfolding_all rfl)
  refine wpAny_getItem_list_slice isl.isList (Heap.IsSliceOf.new _ lo hi st) plo phi pst (by intro z; have := Option.some.inj z; omega) ?_ (by rw [List.size_toArray]; omega)
  rw [pick_step hc]
  have hl : (someOf xs (byStep c xs.length)).length ≤ sizeLine := Nat.le_trans (someOf_len hc xs) (by omega)
  have rl : Vals (someOf xs (byStep c xs.length)) (someOf its (byStep c its.length)) := by rw [← el]; exact vals_pick r _
  exact ⟨.ref _, _, I5.laid (t' := s4.toks) (o := .lst (someOf xs (byStep c xs.length))) (fun b ob q => Heap.get?_push_of_some _ q) (Nat.le_refl _) ⟨hl, _, 0, rl, Heap.get?_push_size _ rfl⟩, rfl, q _ (I5.hok.fresh (Nat.le_refl _))⟩
end
def seqL? : D → Option (List D)
  | .lst ds => some ds
  | .ro ds => some ds
  | _ => none
def dStep (c : Int) (e : DP) : DE := fun σ s Q => e σ s fun x s1 => match deref s1 x with
  | .lst ds => Q (.lst (someOf ds (byStep c ds.length))) s1
  | .ro ds => Q (.lst (someOf ds (byStep c ds.length))) s1
  | _ => False
theorem RL.pick {K : PySem.W.Frag} {C : Tbl} {w : Vw} {vs : List V} {ds : List D} (r : RL K C w vs ds) : ∀ is : List Nat, RL K C w (someOf vs is) (someOf ds is)
  | [] => .nil
  | i :: is => by
    unfold someOf
    rw [List.filterMap_cons, List.filterMap_cons]
    cases e : ds[i]? with
    | none =>
      have e2 : vs[i]? = none := by
        rw [List.getElem?_eq_none_iff] at e ⊢
        rw [r.length]; exact e
      rw [e2]
      exact RL.pick r is
    | some d =>
      obtain ⟨v, e1, e2⟩ := r.get e
      rw [e1]
      exact .cons e2 (RL.pick r is)
section
variable {X : Cx} {C : Tbl} {g : Gw} {L : Lk} {pos : Pos} {e : Expr} {dp : DP}
theorem g_step {c : Int} {k : Nat} {p1 p3 : Pos} (he : PE X e (LP X.K C g L dp)) (hc : 0 < c := by decide) : PE X (.Subscript e (.Slice none none (some (.Constant (.int c) k p1)) p3) pos) (LO X.K C g L (dStep c dp)) := (pe_stepL hc he).imp fun σ H Q ⟨kw, io, O, sd, s, Qd, S, q, k⟩ => by
  refine ⟨kw, io, O, sd, s, _, S, q, fun x s1 io1 H1 v q1 S1 T1 r1 => ?_⟩
  have fin : ∀ ds, seqL? (deref s1 x) = some ds → Qd (.lst (someOf ds (byStep c ds.length))) s1 → ∃ a xs, v = .ref a ∧ SqL X.K H1 a xs ∧ ∀ p, H1 p = none → Q (.ref p) (upd H1 p (.lst (someOf xs (byStep c xs.length)))) := fun ds e h => by
    have e : deref s1 x = .lst ds ∨ deref s1 x = .ro ds := by
      unfold seqL? at e
      split at e
      · rename_i y z; exact .inl (z.trans (congrArg D.lst (Option.some.inj e)))
      · rename_i y z; exact .inr (z.trans (congrArg D.ro (Option.some.inj e)))
      · cases e
    obtain ⟨a, ws, rfl, hs, r⟩ := r1.seqL S1 e
    have el := r.length
    refine ⟨_, _, rfl, hs, fun p hp => ?_⟩
    obtain ⟨S2, T2, hn⟩ := S1.newRes (ho := .lst (someOf ws (byStep c ws.length))) hp
    refine k _ s1 io1 _ p _ h S2 (T1.trans T2) hn upd_same (by intro _ _ z; cases z) (.lst ?_)
    rw [← el]
    exact (r.pick _).grow T2.gr
  split at q1
  · rename_i ds e; exact fin ds (by rw [e]; rfl) q1
  · rename_i ds e; exact fin ds (by rw [e]; rfl) q1
  · exact q1.elim
end
end G
namespace G
open L2 PyProof.Rows PySem PySem.Spec PySem.Calls
/-! sorted(x, reverse=True): a list of whole numbers, a dict by whole numbers -/
abbrev Down (ys : List Int) : Prop := ys.Pairwise (· ≥ ·)
def rDkR : List V → Hp → VK → Prop := fun xs H Q => ∃ (a : Addr) (kvs : List (Key × V)) (ks : List Int), xs = [.ref a] ∧ Rd H a (.dK kvs) ∧ kvs.map (·.1) = ks.map Sum.inl ∧ ks.length < 64 ∧ ∀ (ys : List Int) (p : Addr), ys.Perm ks → Down ys → H p = none → Q (.ref p) (upd H p (.lst (ys.map V.int)))
theorem ints_of_acc {ks : List Int} {vs : List (Key × Value)} {acc : Array Value} (hk : vs.map (·.1) = ks.map Sum.inl) (hl : acc.size = vs.length) (h : ∀ (j : Nat) (v : Value), acc[j]? = some v → ∃ (k : Key) (x : Value), vs[j]? = some (k, x) ∧ keyIs k v = true) : IntsAre acc.toList ks := by
  have el : vs.length = ks.length := by simpa using congrArg List.length hk
  refine ints_each (by rw [Array.length_toList]; omega) fun j v e => ?_
  obtain ⟨k, x, e1, e2⟩ := h j v (by rw [← Array.getElem?_toList]; exact e)
  have q : (vs.map (·.1))[j]? = some k := by simp [e1]
  rw [hk, List.getElem?_map, Option.map_eq_some_iff] at q
  obtain ⟨y, q1, q2⟩ := q
  rcases keyIs_shape e2 with ⟨i, t, rfl, rfl⟩ | ⟨z, t, rfl, rfl⟩
  · cases q2
    exact ⟨y, t, q1, rfl⟩
  · cases q2
section
variable {X : Cx}
theorem cr_dkR (hc : X.calm = true) : CallRK X (.builtin "sorted") [Str.ofString "reverse"] fun vs zs H Q => zs = [.bl true] ∧ rDkR vs H Q := by
  intro pins s σ H xs zs us ws Q I r rz qq
  obtain ⟨rfl, a, kvs, ks, rfl, hd, hks, h64, q⟩ := qq
  obtain rfl := Vals.ref1 r
  obtain ⟨wv, rfl, ew⟩ := vals1 rz
  obtain rfl : wv = Value.bool true := ew
  obtain ⟨_, lo, vs, rel, dd⟩ := dk_rd I.hok hd
  obtain ⟨ep, hat⟩ := dd.dictAt
  have same : vs.map (·.1) = ks.map Sum.inl := rel.keys.symm.trans hks
  have hl : vs.length = ks.length := by simpa using congrArg List.length same
  have small : vs.length ≤ sizeLine := by rw [sizeLine_eq]; omega
  refine call_function_entry_kw (id := "sorted") kind_sorted plain_sorted entry_sorted (args_sorted_rev _ _) ?_
  unfold Builtin.«sorted»
  refine wpAny_bind (m := checkCount "sorted" 1 1 _) (wpAny_pure (wpAny_bind ?_))
  refine PySem.W.kdu_collect (A := X.A.in1) (PySem.W.kdl_dict (knd := mixKind X.prog X.w) (kvs := vs) (ep := ep) lo) (I.ok.hd hc) hat small fun hp tk got hk hacc => ?_
  have hS := ints_of_acc (acc := got) same hacc.1 hacc.2
  have la : got.toList.length = ks.length := hS.length
  have J : Inv X pins σ H { s with heap := hp, toks := tk } := I.kept hk
  refine wpAny_bind (wpAny_newList ?_ (by rw [la, sizeLine_eq]; omega))
  have at0 : (hp.push (seqObj "list" got.toList.toArray 0)).get? hp.objs.size = some (seqObj "list" got.toList.toArray 0) := Heap.get?_push_size _ rfl
  show wpAny _ _ _ _ _ { s with heap := hp.push (seqObj "list" got.toList.toArray 0), toks := tk }
  refine wpAny_bind (wpAny_holding (wpAny_call_entry_kw slot_list_sort ⟨_, at0, rfl⟩ entry_list_sort ?_ (args_list_sort_rev _ _)))
  refine SrtR.list_sort_ordR (s := { s with heap := hp.push (seqObj "list" got.toList.toArray 0), toks := tk }) SrtO.swo_int at0 (by rw [la, sizeLine_eq]; omega) (fun h2 => SrtO.ints_sortable hS h2) fun out g1 g2 => ?_
  obtain ⟨ys, k1, k2, k3⟩ := SrtR.ints_outR hS g1 g2
  obtain ⟨e', at1⟩ := sortedHeap_at (vs := got.toList) (out := out.toArray.reverse) at0
  have len : (ys.map V.int).length ≤ sizeLine := by rw [List.length_map, k2.length_eq, sizeLine_eq]; omega
  refine ⟨_, rfl, wpAny_pure ⟨_, rfl, .ref hp.objs.size, upd H hp.objs.size (.lst (ys.map V.int)), J.laid (t' := tk) (fun b u eb => ?_) (Nat.le_refl _) (show ObjOk X.prog X.w _ _ _ (.lst (ys.map V.int)) from ⟨len, out.toArray.reverse.toList, e', vals_of_ints k1, at1⟩), rfl, q ys _ k2 k3 (J.hok.fresh (Nat.le_refl _))⟩⟩
  have lt : b < hp.objs.size := Heap.lt_size eb
  rw [sortedHeap_old (Nat.ne_of_lt lt) (by rw [size_push']; exact Nat.lt_succ_of_lt lt)]
  exact Heap.get?_push_of_some _ eb
end
def oSortR : DCl := fun xs s Q => match xs with
  | [x] => (match unlk (deref s x) with
    | .lst ds => (match intsOf ds with | some ns => ∀ ys : List Int, ys.Perm ns → Down ys → Q (.lst (ys.map D.int)) s | none => False)
    | .dK m => (match keysI m with | some ns => ns.length < 64 ∧ ∀ ys : List Int, ys.Perm ns → Down ys → Q (.lst (ys.map D.int)) s | none => False)
    | _ => False)
  | _ => False
def rSortR (K : PySem.W.Frag) : List V → Hp → VK → Prop := fun xs H Q => (∃ (a : Addr) (ns : List Int), xs = [.ref a] ∧ SqL K H a (ns.map V.int) ∧ ∀ (ys : List Int) (p : Addr), ys.Perm ns → Down ys → H p = none → Q (.ref p) (upd H p (.lst (ys.map V.int)))) ∨ rDkR xs H Q
theorem cr_sortR {X : Cx} (hc : X.calm = true) : CallRK X (.builtin "sorted") [Str.ofString "reverse"] fun vs zs H Q => zs = [.bl true] ∧ rSortR X.K vs H Q := by
  intro pins s σ H xs zs us ws Q I r rz qq
  obtain ⟨e, ⟨a, ns, e1, hs, q⟩ | q⟩ := qq
  · exact cr_sortedRev (b := true) pins s σ H xs zs us ws Q I r rz ⟨a, ns, e1, e, hs, fun ys p h1 h2 => q ys p h1 h2⟩
  · exact cr_dkR hc pins s σ H xs zs us ws Q I r rz ⟨e, q⟩
theorem oc_sortR {K : PySem.W.Frag} {C : Tbl} {g : Gw} {L : Lk} : ClN K C g L (rSortR K) oSortR := by
  intro kw io O H σ sd s xs vs Qd Q S rx h k
  unfold oSortR at h
  split at h
  · obtain ⟨v, rfl, ry⟩ := rx.one
    have out : ∀ ns : List Int, (∀ ys : List Int, ys.Perm ns → Down ys → Qd (.lst (ys.map D.int)) s) → ∀ (ys : List Int) (p : Addr), ys.Perm ns → Down ys → H p = none → Q (.ref p) (upd H p (.lst (ys.map V.int))) := fun ns h ys p h1 h2 hp => by
      obtain ⟨S2, T2, hn⟩ := S.newRes (ho := .lst (ys.map V.int)) hp
      exact k _ s io _ p _ (h ys h1 h2) S2 T2 hn upd_same (by intro _ _ z; cases z) (.lst (RL.of_ints ys))
    split at h
    · rename_i ds e
      split at h
      · rename_i ns en
        obtain ⟨a, ws, rfl, hs, r⟩ := ry.seqL S (.inl (ry.unlk S e (by intro _ z; cases z) (by intro _ z; cases z)))
        cases r.ints en
        exact .inl ⟨a, ns, rfl, hs, out ns h⟩
      · exact h.elim
    · rename_i m e
      split at h
      · rename_i ns en
        obtain ⟨a, ws, rfl, hs, r⟩ := ry.dK S e
        exact .inr ⟨a, ws, ns, rfl, hs, r.keysI en, h.1, out ns h.2⟩
      · exact h.elim
    · exact h.elim
  · exact h.elim
section
variable {X : Cx} {C : Tbl} {g : Gw} {L : Lk} {pos p : Pos} {e : Expr} {es : List Expr}
theorem g_sortR {x : Str} {dps : DPs} {j : Nat} {kp bp : Pos} (hc : X.calm = true) (hg : Gl X x) (hm : X.mg x = none) (hv : bootBuiltins x = some (.builtin "sorted")) (ha : PA X (e :: es) (LPs X.K C g L dps)) (hn : x ≠ "__name__" := by decide) (hdb : (x == ("__debug__" : Str)) = false := by decide)
    (he : backTo pos (starEach (e :: es) X.env) = (false, eval e X.env) :: backTo pos (starEach es X.env) := by rfl) (hpl : (backTo pos (starEach (e :: es) X.env)).any (·.1) = false := by rfl) :
    PE X (.Call (.Name x p) (e :: es) [⟨some "reverse", .Constant (.bool true) j bp, kp⟩] pos) (LO X.K C g L (dBi oSortR dps)) :=
  (pe_callBK (cr_sortR hc) hg hm hv ha (pk_cons pe_bl pk_nil) hn hdb he hpl).imp fun σ H Q q => by
    obtain ⟨kw, io, O, sd, s, Qd, S, he, k⟩ := l_biN oc_sortR σ H Q q
    exact ⟨kw, io, O, sd, s, Qd, S, he, fun xs s1 io1 H1 vs q1 S1 T1 r1 => ⟨rfl, k xs s1 io1 H1 vs q1 S1 T1 r1⟩⟩
end
theorem oSortR_dI {x : Sl} {l : List (Int × Int)} {s : Store} {Q : DK} (hx : deref s x = .dK (dI l)) (hl : l.length < 64) (q : ∀ ys : List Int, ys.Perm (l.map (·.1)) → Down ys → Q (.lst (ys.map D.int)) s) : oSortR [x] s Q := by
  unfold oSortR
  dsimp only
  rw [hx]
  show (match keysI (dI l) with | some ns => ns.length < 64 ∧ ∀ ys : List Int, ys.Perm ns → Down ys → Q (.lst (ys.map D.int)) s | none => False)
  rw [keysI_dI]
  exact ⟨by rw [List.length_map]; exact hl, q⟩
end G
namespace G
open L2 PyProof.Rows PySem PySem.Spec
/-! xs == [], xs != [], whatever stands in xs -/
def rNil (K : PySem.W.Frag) (neg : Bool) : R2 := fun x y H Q => ∃ a b xs, x = .ref a ∧ y = .ref b ∧ SqL K H a xs ∧ SqL K H b [] ∧ Q (.bl (neg ^^ xs.isEmpty)) H
section
variable {X : Cx}
theorem op_nilE {k : Nat} (hr : Room k X.A) : OpR X (compareOp .Eq) (rNil X.K false) := by
  intro pins s σ H x y v u
  intro Q I rx ry h
  obtain ⟨a, b, xs, rfl, rfl, ha, hb, q⟩ := h
  have ev : v = Value.ref a := rx
  cases ev
  have eu : u = Value.ref b := ry
  cases eu
  obtain ⟨us, r1, ⟨p1, _⟩⟩ := I.list ha
  obtain ⟨ws, r2, ⟨p2, _⟩⟩ := I.list hb
  cases r2
  cases r1 with
  | nil =>
    refine SeqAt.rcP_lists (e := fun _ => true) p1.isList p2.isList rfl hr.units0 (fun j h1 => absurd h1 (Nat.not_lt_zero j)) _ _ ⟨.bl true, H, I, rfl, q⟩
  | cons h t =>
    exact SeqAt.RcAt.lists_lengths p1.isList p2.isList (by simp) hr.units0 X.prog X.w _ _ ⟨.bl false, H, I, rfl, q⟩
theorem op_nilN {k : Nat} (hr : Room k X.A) : OpR X (compareOp .NotEq) (rNil X.K true) := by
  intro pins s σ H x y v u
  intro Q I rx ry h
  obtain ⟨a, b, xs, rfl, rfl, ha, hb, q⟩ := h
  have ev : v = Value.ref a := rx
  cases ev
  have eu : u = Value.ref b := ry
  cases eu
  obtain ⟨us, r1, ⟨p1, _⟩⟩ := I.list ha
  obtain ⟨ws, r2, ⟨p2, _⟩⟩ := I.list hb
  cases r2
  cases r1 with
  | nil =>
    refine SeqAt.RcNeAt.lists (e := fun _ => true) p1.isList p2.isList rfl hr.units0 (fun j h1 => absurd h1 (Nat.not_lt_zero j)) X.prog X.w _ _ ⟨.bl false, H, I, rfl, q⟩
  | cons h t =>
    exact SeqAt.RcNeAt.lists_lengths p1.isList p2.isList (by simp) hr.units0 X.prog X.w _ _ ⟨.bl true, H, I, rfl, q⟩
end
def oNil (neg : Bool) : DOp := fun x y s Q => match deref s x, deref s y with
  | .lst ds, .lst [] => Q (.bl (neg ^^ ds.isEmpty)) s
  | .ro ds, .lst [] => Q (.bl (neg ^^ ds.isEmpty)) s
  | _, _ => False
theorem rl_emp {K : PySem.W.Frag} {C : Tbl} {w : Vw} {vs : List V} {ds : List D} (r : RL K C w vs ds) : vs.isEmpty = ds.isEmpty := by
  have := r.length
  cases vs <;> cases ds <;> first | rfl | simp at this
theorem og_nil {K : PySem.W.Frag} {C : Tbl} {g : Gw} {L : Lk} (neg : Bool) : OpG K C g L (rNil K neg) (oNil neg) := by
  intro kw io O H σ sd s x y v u Qd Q S rx ry h k
  unfold oNil at h
  have out : ∀ ds, (deref s x = .lst ds ∨ deref s x = .ro ds) → deref s y = .lst [] → Qd (.bl (neg ^^ ds.isEmpty)) s → rNil K neg v u H Q := fun ds e1 e2 h => by
    obtain ⟨a, vs, rfl, h1, r1⟩ := rx.seqL S e1
    obtain ⟨b, ws, rfl, h2, r2⟩ := ry.seqL S (.inl e2)
    cases r2
    refine ⟨a, b, vs, rfl, rfl, h1, h2, ?_⟩
    rw [rl_emp r1]
    exact k _ s io H _ h S (Stp.refl ..) (.bl _)
  split at h
  · rename_i ds e1 e2; exact out ds (.inl e1) e2 h
  · rename_i ds e1 e2; exact out ds (.inr e1) e2 h
  · exact h.elim
theorem oNil_lst {neg : Bool} {x : Sl} {ds : List D} {s : Store} {Q : DK} (h : deref s x = .lst ds) (q : Q (.bl (neg ^^ ds.isEmpty)) s) : oNil neg x (.v (.lst [])) s Q := by
  unfold oNil
  rw [h]
  exact q
end G
namespace G
open L2 PyProof.Rows PySem PySem.Spec
/-! d.update(e): the dict e is another one -/
def rDUpd : V → List V → Hp → VK → Prop := fun x vs H Q => ∃ (a b : Addr) (kvs more : List (Key × V)), x = .ref a ∧ vs = [.ref b] ∧ a ≠ b ∧ H a = some (.dK kvs) ∧ Rd H b (.dK more) ∧ kvs.length + more.length ≤ sizeLine ∧ Q .non (upd H a (.dK (mergeK kvs more)))
theorem mt_dupd {X : Cx} : MtR X "dict.update" rDUpd := by
  intro pins s σ H x vs
  intro v us Q I rx rv h
  obtain ⟨a, b, kvs, more, rfl, rfl, ne, e1, e2, len, q⟩ := h
  have ev : v = Value.ref a := rx
  cases ev
  obtain rfl := Vals.ref1 rv
  obtain ⟨_, hd, va, ra, da⟩ := dk_of I.hok e1
  obtain ⟨_, ho, vb, rb, db⟩ := dk_rd I.hok e2
  have sz : va.length + vb.length ≤ sizeLine := by rw [← ra.length, ← rb.length]; exact len
  refine call_meetsIn PySem.F.slot_dict_update da.typeIs PySem.F.entry_dict_update (PySem.F.args_dict_update_2 _ _) (meets_dict_update (mixKind X.prog X.w) a b ne ho) ⟨va, vb, da, db, sz, fun h' da' _ hs => ?_⟩
  have m := KV.merge rb ra
  have there : ∃ q, h'.get? a = some q := let ⟨q, _, _, hq, _⟩ := da'; ⟨q, hq⟩
  have small : (mergeK kvs more).length ≤ sizeLine := by rw [m.length]; exact Nat.le_trans (merged_length_le va vb) sz
  exact ⟨.non, _, d_write (t' := s.toks) I (by rw [e1]; exact True.intro) hs there (dk_new small hd m da'), rfl, q⟩
/-- as MuG, where nobody else has the container -/
def MuX (K : PySem.W.Frag) (C : Tbl) (r : V → List V → Hp → VK → Prop) (f : DMu) : Prop :=
  ∀ (w : Vw) a ho c vs ds s Kd Q, w.X a → w.H a = some ho → RC K C w ho c → RL K C w vs ds → (∀ z, c ≠ .lk z) → f c ds s Kd →
    (∀ c' x' ho' v, Kd c' x' → (∀ od u, ho' ≠ .frz od u) → RC K C w ho' c' → RD K C w v x' → Q v (upd w.H a ho')) → r (.ref a) vs w.H Q
def putAll (m : List (Key × D)) (l : List (Key × D)) : List (Key × D) := l.foldl (fun m p => put m p.1 p.2) m
def mDUpd : DMu := fun c ds _ Q => match c, ds with
  | .dK m, [.dK l] => m.length + l.length < lim ∧ Q (.dK (putAll m l)) .non
  | _, _ => False
theorem RK.putAll {K : PySem.W.Frag} {C : Tbl} {w : Vw} : ∀ {ws : List (Key × V)} {l : List (Key × D)}, RK K C w ws l → ∀ {vs : List (Key × V)} {m : List (Key × D)}, RK K C w vs m → RK K C w (mergeK vs ws) (G.putAll m l)
  | _, _, .nil, _, _, r => r
  | _, _, .cons (k := k) h t, _, _, r => RK.putAll t ((RM.put r.rm k h).rk)
theorem mux_dupd {K : PySem.W.Frag} {C : Tbl} : MuX K C rDUpd mDUpd := fun w a ho c vs ds s Kd Q hx e rc r nl h k => by
  unfold mDUpd at h
  split at h
  · cases rc with
    | dK rc => cases r with
      | cons r t =>
        cases t
        cases r with
        | @dK b ws _ x hb rb =>
          refine ⟨a, b, _, ws, rfl, rfl, fun z => x (z ▸ hx), e, hb, ?_, k _ _ _ _ h.2 (by intro _ _ z; cases z) (.dK (rb.putAll rc)) .non⟩
          have l1 := rc.len
          have l2 := rb.len
          have := h.1
          rw [l1, l2]
          exact lim_le (Nat.le_of_lt this)
  · exact h.elim
section
variable {X : Cx} {C : Tbl} {g : Gw} {L : Lk}
theorem l_muX {K : PySem.W.Frag} {T : String} {f : DMu} {r : V → List V → Hp → VK → Prop} {i : Nat} {a : DA} (hf : MuX K C r f) (Tn : Ends) (σ : L2.St) (H : Hp) (h : LS K C g L (dMuO T f i a) Tn σ H) : tDrop (tBM K T r (tVar i) (LA K C g L a)) Tn σ H := by
  obtain ⟨kw, io, O, sd, s, D, S, h, E⟩ := h
  unfold dMuO at h
  split at h
  · rename_i c e
    obtain ⟨ty, h⟩ := h
    obtain ⟨b, ho, e1, e2, oa, nf, rc⟩ := S.own_at e
    refine ⟨_, e1, tyC_ty (w := vw g io O H) ty rc e2, kw, io, O, sd, s, _, S, h, fun ds s2 io2 H2 vs q2 S2 T2 r2 => ?_⟩
    obtain ⟨ho2, e3, rc2, nf2, wr⟩ := Pl.at_ok S2 (p := .own i) (d := c) (by show (match sd[i]? with | some (some (.o d)) => some d | _ => none) = some c; rw [e]) (show σ[i]? = _ from e1) (tyC_lk ty)
    refine hf (vw g io2 O H2) b ho2 c vs ds s2 _ _ (.inr (.inr oa)) e3 rc2 r2 (tyC_lk ty) q2 fun c' x' ho' z q3 nf' rc' rz => ?_
    obtain ⟨S3, G3⟩ := wr ho' c' nf' rc'
    exact E.nx io2 O _ σ _ s2 q3 S3
  · exact h.elim
theorem gs_muX {T : String} {f : DMu} {r : V → List V → Hp → VK → Prop} {i : Nat} {a : DA} {st : Stmt} (hf : MuX X.K C r f) (h : PS X st (tDrop (tBM X.K T r (tVar i) (LA X.K C g L a)))) : PS X st (LS X.K C g L (dMuO T f i a)) := h.imp fun Tn σ H q => l_muX hf Tn σ H q
theorem l_muEX {K : PySem.W.Frag} {T : String} {f : DMu} {r : V → List V → Hp → VK → Prop} {o : DE} {a : DA} (hf : MuX K C r f) (σ : L2.St) (H : Hp) (Q : VK) (h : LE K C g L (dMuE T f o a) σ H Q) : tBM K T r (LE K C g L o) (LA K C g L a) σ H Q := by
  obtain ⟨kw, io, O, sd, s, Qd, S, h, k⟩ := h
  refine ⟨kw, io, O, sd, s, _, S, h, fun x s1 io1 H1 v q1 S1 T1 r1 => ?_⟩
  cases r1 with
  | @ref n b hb =>
    have q1 : (match s1[n]? with
      | some c0 => tyC T c0 = true ∧ a sd s1 fun ds s2 => (match s2[n]? with
        | some c => tyC T c = true ∧ f c ds s2 fun c' y => Qd y (s2.set n c')
        | none => False)
      | none => False) := q1
    split at q1
    · rename_i c0 e0
      obtain ⟨ty, q1⟩ := q1
      obtain ⟨ho, e1, rc, nf, _⟩ := Pl.at_ok S1 (p := .cell n) (d := c0) e0 hb (tyC_lk ty)
      refine ⟨tyC_ty (w := vw g io1 O H1) ty rc e1, kw, io1, O, sd, s1, _, S1, q1, fun ds s2 io2 H2 vs q2 S2 T2 r2 => ?_⟩
      split at q2
      · rename_i c e2
        obtain ⟨ty2, q2⟩ := q2
        have hb2 : io2[n]? = some b := T2.gr.get hb
        obtain ⟨ho2, e3, rc2, nf2, wr⟩ := Pl.at_ok S2 (p := .cell n) (d := c) e2 hb2 (tyC_lk ty2)
        refine hf (vw g io2 O H2) b ho2 c vs ds s2 _ Q (.inr (.inl (List.mem_of_getElem? hb2))) e3 rc2 r2 (tyC_lk ty2) q2 fun c' x' ho' z q3 nf' rc' rz => ?_
        obtain ⟨S3, G3⟩ := wr ho' c' nf' rc'
        refine k x' _ io2 _ z q3 S3 ((T1.trans T2).trans ⟨G3, fun y hy => ?_⟩) (rz.grow G3)
        have : y ≠ b := fun e => S2.dj y hy (by rw [e]; exact List.mem_of_getElem? hb2)
        rw [upd_ne this]; rfl
      · exact q2.elim
    · exact q1.elim
  | _ => exact False.elim q1
theorem g_muEX {T : String} {f : DMu} {r : V → List V → Hp → VK → Prop} {o : DE} {a : DA} {e : Expr} (hf : MuX X.K C r f) (h : PE X e (tBM X.K T r (LE X.K C g L o) (LA X.K C g L a))) : PE X e (LE X.K C g L (dMuE T f o a)) := h.imp fun σ H Q q => l_muEX hf σ H Q q
end
end G
namespace G
open L2 PyProof.Rows PySem PySem.Spec
/-! i in range(n), i not in range(n) -/
def rRg1 : List V → Hp → VK → Prop := fun vs H Q => ∃ j, vs = [V.int j] ∧ ∀ p, H p = none → Q (.ref p) (upd H p (.rng 0 j))
def rInRg (neg : Bool) : R2 := fun x y H Q => ∃ i a lo hi, x = V.int i ∧ y = V.ref a ∧ H a = some (.rng lo hi) ∧ Q (.bl (neg ^^ decide (lo ≤ i ∧ i < hi))) H
section
variable {X : Cx}
theorem cr_rg1 : CallR X (.type "range") rRg1 := by
  intro pins s σ H vs us
  intro Q I r h
  obtain ⟨j, rfl, q⟩ := h
  obtain ⟨u, rfl, ⟨t, rfl⟩⟩ := vals1 r
  exact call_range_1 ⟨.ref s.heap.objs.size, upd H s.heap.objs.size (.rng 0 j), I.laid (t' := s.toks + 1 + 1) (fun b o e => Heap.get?_push_of_some _ e) (Nat.le_refl _) ⟨_, _, _, Heap.get?_push_size _ rfl⟩, rfl, q _ (I.hok.fresh (Nat.le_refl _))⟩
theorem op_inRg : OpR X (compareOp .In) (rInRg false) := fun pins s σ H x y v u Q I rx ry ⟨i, a, lo, hi, e1, e2, ha, q⟩ => op_in_rng pins s σ H x y v u Q I rx ry ⟨i, a, lo, hi, e1, e2, ha, by rw [Bool.false_xor] at q; exact q⟩
theorem op_notInRg : OpR X (compareOp .NotIn) (rInRg true) := by
  intro pins s σ H x y v u
  intro Q I rx ry h
  obtain ⟨i, a, lo, hi, rfl, h⟩ := h
  obtain ⟨rfl, ha, q⟩ := h
  obtain ⟨k, rfl⟩ := rx
  have eu : u = Value.ref a := ry
  cases eu
  have hok := I.hok a _ ha
  obtain ⟨t1, t2, t3, ho⟩ := hok
  show wpAny _ _ (do return Value.bool (!(← contains (Value.ref a) (Value.int i k)))) _ _ s
  have T : s.TypeIs (.ref a) "range" := ⟨_, ho, rfl⟩
  refine wpAny_bind (wpAny_contains_slot T PySem.F.slot_range_contains ?_)
  refine call_meets PySem.F.slot_range_contains T PySem.F.entry_range_contains (PySem.F.args_range_contains_2 _ _) (q_contains a lo hi i t1 t2 t3 k) ⟨ho, ?_⟩
  refine wpAny_truthy_bool (wpAny_pure ⟨.bl _, H, I, rfl, ?_⟩)
  rw [place1]
  rw [Bool.true_xor] at q
  exact q
variable {C : Tbl} {g : Gw} {L : Lk} {pos p p2 : Pos} {e n : Expr} {de : DE} {da : DA}
def dInRg (neg : Bool) (e : DE) (a : DA) : DE := fun σ s Q => e σ s fun x s1 => a σ s1 fun ds s2 => match x, ds with
  | .int i, [.int j] => Q (.bl (neg ^^ decide (0 ≤ i ∧ i < j))) s2
  | _, _ => False
theorem l_inRg {neg : Bool} (σ : L2.St) (H : Hp) (Q : VK) (h : LE X.K C g L (dInRg neg de da) σ H Q) : tOp (rInRg neg) (LE X.K C g L de) (tCB rRg1 (LA X.K C g L da)) σ H Q := by
  obtain ⟨kw, io, O, sd, s, Qd, S, h, k⟩ := h
  refine ⟨kw, io, O, sd, s, _, S, h, fun x s1 io1 H1 v q1 S1 T1 r1 => ⟨kw, io1, O, sd, s1, _, S1, q1, fun ds s2 io2 H2 vs q2 S2 T2 r2 => ?_⟩⟩
  split at q2
  · rename_i i j
    cases r1
    cases r2 with
    | cons r t =>
      cases t
      cases r
      refine ⟨j, rfl, fun a ha => ?_⟩
      obtain ⟨S3, T3⟩ := S2.stpNew (o := .rng 0 j) ha
      exact ⟨i, a, 0, j, rfl, rfl, upd_same, k _ s2 io2 _ _ q2 S3 ((T1.trans T2).trans T3) (.bl _)⟩
  · exact q2.elim
theorem g_inRg (hg : Gl X "range") (hm : X.mg "range" = none) (he : PE X e (LE X.K C g L de)) (hn : PA X [n] (LA X.K C g L da)) (h1 : starEach [n] X.env = (false, eval n X.env) :: starEach [] X.env := by rfl) (h2 : (backTo p2 (starEach [] X.env)).any (·.1) = false := by rfl)
    (hi : behindInMarks .In (.Call (.Name "range" p) [n] [] p2) = false := by rfl) : PE X (.Compare e [.In] [.Call (.Name "range" p) [n] [] p2] pos) (LE X.K C g L (dInRg false de da)) :=
  (pe_cmpR op_inRg he (pe_callTy cr_rg1 hg hm rfl hn (by decide) (by decide) h1 h2) hi).imp l_inRg
theorem g_notInRg (hg : Gl X "range") (hm : X.mg "range" = none) (he : PE X e (LE X.K C g L de)) (hn : PA X [n] (LA X.K C g L da)) (h1 : starEach [n] X.env = (false, eval n X.env) :: starEach [] X.env := by rfl) (h2 : (backTo p2 (starEach [] X.env)).any (·.1) = false := by rfl)
    (hi : behindInMarks .NotIn (.Call (.Name "range" p) [n] [] p2) = false := by rfl) : PE X (.Compare e [.NotIn] [.Call (.Name "range" p) [n] [] p2] pos) (LE X.K C g L (dInRg true de da)) :=
  (pe_cmpR op_notInRg he (pe_callTy cr_rg1 hg hm rfl hn (by decide) (by decide) h1 h2) hi).imp l_inRg
theorem gt_inRg (hg : Gl X "range") (hm : X.mg "range" = none) (he : PE X e (LE X.K C g L de)) (hn : PA X [n] (LA X.K C g L da)) (h1 : starEach [n] X.env = (false, eval n X.env) :: starEach [] X.env := by rfl) (h2 : (backTo p2 (starEach [] X.env)).any (·.1) = false := by rfl)
    (hi : behindInMarks .In (.Call (.Name "range" p) [n] [] p2) = false := by rfl) : PT X (.Compare e [.In] [.Call (.Name "range" p) [n] [] p2] pos) (LT X.K C g L (dB (dInRg false de da))) :=
  (pt_cmpR op_inRg he (pe_callTy cr_rg1 hg hm rfl hn (by decide) (by decide) h1 h2) hi).imp fun σ H Q q => l_inRg σ H _ (l_b σ H Q q)
theorem gt_notInRg (hg : Gl X "range") (hm : X.mg "range" = none) (he : PE X e (LE X.K C g L de)) (hn : PA X [n] (LA X.K C g L da)) (h1 : starEach [n] X.env = (false, eval n X.env) :: starEach [] X.env := by rfl) (h2 : (backTo p2 (starEach [] X.env)).any (·.1) = false := by rfl)
    (hi : behindInMarks .NotIn (.Call (.Name "range" p) [n] [] p2) = false := by rfl) : PT X (.Compare e [.NotIn] [.Call (.Name "range" p) [n] [] p2] pos) (LT X.K C g L (dB (dInRg true de da))) :=
  (pt_cmpR op_notInRg he (pe_callTy cr_rg1 hg hm rfl hn (by decide) (by decide) h1 h2) hi).imp fun σ H Q q => l_inRg σ H _ (l_b σ H Q q)
end
end G
namespace G
open L2 PyProof.Rows PySem PySem.Spec
/-! for .. in xs[k], xs a name that holds a list of dicts: frozen ones, or cells -/
section
variable {X : Cx} {C : Tbl} {g : Gw} {L : Lk} {pos p p1 p2 : Pos} {iter tg : Expr} {gt : TG} {dg : DTg} {it : Addr → Obj → List (Key × V) → It} {its : List (Key × D) → List D}
def dForIx (i k : Nat) (its : List (Key × D) → List D) (dg : DTg) (tb : DS) : DS := fun D σ s => match σ[i]? with
  | some (some (.v (.lst ds))) => (match ds[k]? with
    | some (.dK m) => loopD (fun _ => True) dg tb (its m) D σ s
    | some (.ref n) => (match s[n]? with
      | some (.dK m) => loopD (fun _ => True) dg tb (its m) (lkE n m D) σ (s.set n (.lk (.dK m)))
      | _ => False)
    | _ => False)
  | _ => False
abbrev tAtK (K : PySem.W.Frag) (i k : Nat) : TE := tOp (rIx K) (tVar i) (tC (.int (k : Int)))
theorem gs_forIx {body : List Stmt} {tb : DS} {i k : Nat} (hp : PassesOwn (model X.prog X.w) X.A X.env X.xe) (hc : X.calm = true) (hw : WalkD it its) (hi : PI X tg iter (iDe it (tAtK X.K i k))) (hg : PG X tg gt)
    (ht : ∀ L, TgG X.K C g L gt dg) (hb : ∀ L, PSs X body (LS X.K C g L tb)) (hs : ∀ x, foldedSetIterable iter X.env x = pure x := by intro _; rfl) : PS X (.For tg iter body [] pos) (LS X.K C g L (dForIx i k its dg tb)) := by
  have base := ps_for (pos := pos) hp hc hi hg (PSs.ex hb) hs
  refine (PS_or (ps_lock base) base).imp fun T σ H ⟨kw, io, O, sd, s, D, S, h, E⟩ => ?_
  unfold dForIx at h
  split at h
  · rename_i ds e
    obtain ⟨v, e1, r⟩ := S.sl.get i _ e
    cases r with
    | v r =>
      cases r with
      | @lst a vs _ xa ha r0 =>
        have ha : H a = some (.lst vs) := ha
        have reads : ∀ (H' : Hp) (b : Addr) (Q : VK), H' a = some (.lst vs) → vs[k]? = some (.ref b) → Q (.ref b) H' → tAtK X.K i k σ H' Q := fun H' b Q h1 h2 q => ⟨_, e1, .inl ⟨a, vs, k, .ref b, rfl, rfl, .inl (.inl h1), atI_nat h2, q⟩⟩
        split at h
        · rename_i m ek
          obtain ⟨w, ew, rw⟩ := r0.get ek
          cases rw with
          | @dK b ws _ x h1 r1 =>
            rcases h1 with h1 | ⟨o, h1⟩
            · have h1 : H b = some (.dK ws) := h1
              refine .inl ⟨b, .dK ws, h1, trivial, fun od => ?_⟩
              obtain ⟨S1, G1⟩ := S.here.lockV x h1 rfl od
              have x1 : ¬ (vw g io O (upd H b (.frz od (.dK ws)))).X b := G1.x b _ x h1
              have ne : a ≠ b := fun z => by rw [z, h1] at ha; cases ha
              refine reads _ b _ (by rw [upd_ne ne]; exact ha) ew ⟨b, od, ws, rfl, upd_same, ?_⟩
              exact for_core (F := fun D σ H => ∃ L', LS X.K C g L' tb D σ H) S1.here (hw _ _ _ _ _ b od ws m (r1.grow G1) fun io2 O2 H2 σ2 sd2 s2 S2 => S2.kp.frz x1 upd_same) h (end_lockV S x h1 rfl E) (ht _) fun D σ H q => ⟨_, q⟩
            · have h1 : H b = some (.frz o (.dK ws)) := h1
              refine .inr (reads _ b _ ha ew ⟨b, o, ws, rfl, h1, ?_⟩)
              refine for_core (F := fun D σ H => ∃ L', LS X.K C g L' tb D σ H) S.here (hw _ _ _ _ _ b o ws m r1 fun io2 O2 H2 σ2 sd2 s2 S2 => S2.kp.frz x h1) h ⟨fun io O H σ sd s q S2 => E.nx _ _ _ _ _ _ q (S2.rebase S.kp), fun r s io P H v q S2 rr => E.rt _ _ _ _ _ _ q (S2.rebase S.kp) rr, fun io O H σ sd s q S2 => E.bk _ _ _ _ _ _ q (S2.rebase S.kp), fun io O H σ sd s q S2 => E.ct _ _ _ _ _ _ q (S2.rebase S.kp)⟩ (ht _) fun D σ H q => ⟨_, q⟩
        · rename_i n ek
          split at h
          · rename_i m es
            obtain ⟨w, ew, rw⟩ := r0.get ek
            cases rw with
            | @ref _ b hn =>
              have hn : io[n]? = some b := hn
              obtain ⟨c, ho, q1, q2, rc⟩ := S.ce.get n _ es
              have q1 : io[n]? = some c := q1
              rw [hn] at q1; cases q1
              have q2 : H b = some ho := q2
              cases rc with
              | @dK ws _ rk =>
                refine .inl ⟨b, .dK ws, q2, trivial, fun od => ?_⟩
                obtain ⟨S1, G1⟩ := S.here.lockC hn q2 rk od
                have ne : a ≠ b := fun z => by rw [z, q2] at ha; cases ha
                refine reads _ b _ (by rw [upd_ne ne]; exact ha) ew ⟨b, od, ws, rfl, upd_same, ?_⟩
                exact for_core (F := fun D σ H => ∃ L', LS X.K C g L' tb D σ H) S1.here (hw _ _ _ _ _ b od ws m (rk.grow G1) fun io2 O2 H2 σ2 sd2 s2 S2 => (S2.lk _ List.mem_cons_self).1) h (end_lockC S hn q2 rk E) (ht _) fun D σ H q => ⟨_, q⟩
          · exact h.elim
        · exact h.elim
  · exact h.elim
theorem gi_atK {x : Str} {i j : Nat} (k : Nat) (hx : PE X (.Name x p) (tVar i)) (hs : PlainIx (.Constant (.int (k : Int)) j p1)) : PI X tg (.Subscript (.Name x p) (.Constant (.int (k : Int)) j p1) p2) (iDe Itk (tAtK X.K i k)) :=
  (pi_keys (pe_ix ix_seq hx pe_int hs)).imp fun σ H R ⟨v, e, h⟩ => ⟨v, e, by
    rcases h with ⟨a, xs, n, w, e1, e2, e3, e4, d, o, kvs, f1, f2, q⟩ | ⟨a, xs, n, w, e1, e2, e3, e4, d, o, kvs, f1, f2, q⟩ | ⟨z, n, c, e1, e2, e3, e4, d, o, kvs, f1, _⟩
    · exact .inl ⟨a, xs, n, w, e1, e2, e3, e4, d, o, f1, .inl ⟨kvs, f2, q⟩⟩
    · exact .inr (.inl ⟨a, xs, n, w, e1, e2, e3, e4, d, o, f1, .inl ⟨kvs, f2, q⟩⟩)
    · cases f1⟩
end
end G
namespace G
open L2 PyProof.Rows PySem PySem.Spec PySem.Calls SrtO
/-! sorted(xs, key=f): f a def of the program that gives two whole numbers -/
section
variable {α β : Type}
def insK (k : α → Int × Int) (x : α) : List α → List α
  | [] => [x]
  | y :: l => if lexB (k y) (k x) = true then y :: insK k x l else x :: y :: l
/-- by k, like ones in their order -/
def sortK (k : α → Int × Int) : List α → List α
  | [] => []
  | x :: l => insK k x (sortK k l)
theorem lex_swo (k : α → Int × Int) : Swo fun x y => lexB (k x) (k y) :=
  ⟨fun x y h => lexB_no.mpr fun z => by have := lexB_iff.mp h; omega, fun x y z h1 h2 => lexB_no.mpr fun q => by have a := lexB_no.mp h1; have b := lexB_no.mp h2; omega⟩
theorem insK_perm (k : α → Int × Int) (x : α) : ∀ l, (insK k x l).Perm (x :: l)
  | [] => List.Perm.refl _
  | y :: l => by
    unfold insK
    split
    · exact ((insK_perm k x l).cons y).trans (.swap x y l)
    · exact List.Perm.refl _
theorem sortK_perm (k : α → Int × Int) : ∀ l, (sortK k l).Perm l
  | [] => List.Perm.refl _
  | x :: l => (insK_perm k x _).trans ((sortK_perm k l).cons x)
theorem insK_srtd (k : α → Int × Int) (x : α) : ∀ l, Srtd (fun x y => lexB (k x) (k y)) l → Srtd (fun x y => lexB (k x) (k y)) (insK k x l)
  | [], _ => List.pairwise_singleton _ _
  | y :: l, h => by
    have hpw := List.pairwise_cons.mp h
    obtain ⟨h1, h2⟩ := hpw
    unfold insK
    split
    · rename_i c
      refine List.pairwise_cons.mpr ⟨fun z hz => ?_, insK_srtd k x l h2⟩
      rcases (List.mem_cons).1 ((insK_perm k x l).mem_iff.mp hz) with rfl | hz
      · exact (lex_swo k).asym _ _ c
      · exact h1 z hz
    · rename_i c
      have c : lexB (k y) (k x) = false := by simpa using c
      refine List.pairwise_cons.mpr ⟨fun z hz => ?_, h⟩
      rcases (List.mem_cons).1 hz with rfl | hz
      · exact c
      · exact (lex_swo k).tr x y z c (h1 z hz)
theorem sortK_srtd (k : α → Int × Int) : ∀ l, Srtd (fun x y => lexB (k x) (k y)) (sortK k l)
  | [] => List.Pairwise.nil
  | x :: l => insK_srtd k x _ (sortK_srtd k l)
theorem insK_cls (k : α → Int × Int) (x z : α) : ∀ l, (insK k x l).filter (eqv (fun x y => lexB (k x) (k y)) z) = (x :: l).filter (eqv (fun x y => lexB (k x) (k y)) z)
  | [] => rfl
  | y :: l => by
    unfold insK
    split
    · rename_i c
      have ih := insK_cls k x z l
      rcases bcase (eqv (fun x y => lexB (k x) (k y)) z x) with e | e
      · have ny : eqv (fun x y => lexB (k x) (k y)) z y = false := by
          rw [eqv_trans (lex_swo k) e]
          unfold eqv
          dsimp only
          rw [c]
          simp
        rw [List.filter_cons_of_neg (by rw [ny]; decide), ih, List.filter_cons_of_pos e, List.filter_cons_of_pos e, List.filter_cons_of_neg (by rw [ny]; decide)]
      · rw [List.filter_cons_of_neg (p := eqv _ z) (a := x) (by rw [e]; decide)] at ih ⊢
        rcases bcase (eqv (fun x y => lexB (k x) (k y)) z y) with f | f
        · rw [List.filter_cons_of_pos f, List.filter_cons_of_pos f, ih]
        · rw [List.filter_cons_of_neg (by rw [f]; decide), List.filter_cons_of_neg (by rw [f]; decide), ih]
    · rfl
theorem sortK_stb (k : α → Int × Int) : ∀ l, Stb (fun x y => lexB (k x) (k y)) (sortK k l) l
  | [] => Stb.refl _
  | x :: l => by
    have ih := sortK_stb k l
    refine ⟨sortK_perm k _, fun z => ?_⟩
    show (insK k x (sortK k l)).filter _ = _
    rw [insK_cls]
    rcases bcase (eqv (fun x y => lexB (k x) (k y)) z x) with e | e
    · rw [List.filter_cons_of_pos e, List.filter_cons_of_pos e, ih.cls z]
    · rw [List.filter_cons_of_neg (by rw [e]; decide), List.filter_cons_of_neg (by rw [e]; decide), ih.cls z]
/-- item by item alike -/
theorem insK_pair {R : α → β → Prop} {k : α → Int × Int} {m : β → Int × Int} (hk : ∀ a b, R a b → k a = m b) {x : α} {y : β} (h : R x y) : ∀ {l : List α} {r : List β}, Paired R l r → Paired R (insK k x l) (insK m y r)
  | _, _, .nil => .cons h .nil
  | _, _, .cons (a := a) (b := b) h1 t => by
    unfold insK
    rw [hk _ _ h1, hk _ _ h]
    split
    · exact .cons h1 (insK_pair hk h t)
    · exact .cons h (.cons h1 t)
theorem sortK_pair {R : α → β → Prop} {k : α → Int × Int} {m : β → Int × Int} (hk : ∀ a b, R a b → k a = m b) : ∀ {l : List α} {r : List β}, Paired R l r → Paired R (sortK k l) (sortK m r)
  | _, _, .nil => .nil
  | _, _, .cons h t => insK_pair hk h (sortK_pair hk t)
end
/-! the sort, behind the keys -/
theorem pair_one {h : Heap} {v : Value} {x y x' y' : Int} (p : Srt.IsPair h v x y) (q : Srt.IsPair h v x' y') : x = x' ∧ y = y' := by
  obtain ⟨a, o, t, u, n, e, ho, _, hd⟩ := p
  obtain ⟨a', o', t', u', n', e', ho', _, hd'⟩ := q
  rw [e] at e'
  cases e'
  rw [ho] at ho'
  cases ho'
  rw [hd] at hd'
  cases hd'
  exact ⟨rfl, rfl⟩
open Classical in
/-- what a pair tells -/
noncomputable def kOf (h : Heap) (v : Value) : Int × Int := if p : ∃ q : Int × Int, Srt.IsPair h v q.1 q.2 then p.choose else (0, 0)
theorem kOf_eq {h : Heap} {v : Value} {q : Int × Int} (p : Srt.IsPair h v q.1 q.2) : kOf h v = q := by
  have ex : ∃ q : Int × Int, Srt.IsPair h v q.1 q.2 := ⟨q, p⟩
  unfold kOf
  rw [dif_pos ex]
  obtain ⟨e1, e2⟩ := pair_one ex.choose_spec p
  exact Prod.ext e1 e2
theorem Paired.zipB {α β γ : Type} {F : α → β → Prop} {G : α × γ → β × γ → Prop} (h : ∀ a b c, F a b → G (a, c) (b, c)) : ∀ {l : List α} {m : List β} (r : List γ), Paired F l m → Paired G (l.zip r) (m.zip r)
  | _, _, [], .nil => .nil
  | _, _, _ :: _, .nil => .nil
  | _, _, [], .cons _ _ => .nil
  | _, _, c :: r, .cons f t => .cons (h _ _ c f) (Paired.zipB h r t)
theorem Paired.map_eq {α β γ : Type} {F : α → β → Prop} {f : α → γ} {g : β → γ} (h : ∀ a b, F a b → f a = g b) : ∀ {l : List α} {m : List β}, Paired F l m → l.map f = m.map g
  | _, _, .nil => rfl
  | _, _, .cons q t => by rw [List.map_cons, List.map_cons, h _ _ q, Paired.map_eq h t]
theorem Paired.memL {α β : Type} {F : α → β → Prop} : ∀ {l : List α} {m : List β}, Paired F l m → ∀ a ∈ l, ∃ b ∈ m, F a b
  | _, _, .nil, a, h => absurd h (by simp)
  | _, _, .cons q t, a, h => by
    rcases (List.mem_cons).1 h with rfl | h
    · exact ⟨_, List.mem_cons_self, q⟩
    · obtain ⟨b, hb, f⟩ := Paired.memL t a h
      exact ⟨b, List.mem_cons_of_mem _ hb, f⟩
theorem zip_vals : ∀ (kz : List (Int × Int)) (xs : List V) (us : List Value), Vals xs us → Paired (fun (p : (Int × Int) × V) (q : (Int × Int) × Value) => p.1 = q.1 ∧ RelV p.2 q.2) (kz.zip xs) (kz.zip us)
  | [], _, _, _ => .nil
  | _ :: _, _, _, .nil => .nil
  | _ :: kz, _, _, .cons r t => .cons ⟨rfl, r⟩ (zip_vals kz _ _ t)
theorem Paired.imp {α β : Type} {F G : α → β → Prop} (h : ∀ a b, F a b → G a b) : ∀ {l : List α} {m : List β}, Paired F l m → Paired G l m
  | _, _, .nil => .nil
  | _, _, .cons q t => .cons (h _ _ q) (Paired.imp h t)
section
variable {A : Around} {prog : Program} {w : World}
variable {E : Value → Shared → Prop} {s : Shared}
theorem key_end {a kS : Addr} {its : List Value} {keys : Array Value} {kz : List (Int × Int)} {e e1 : Nat} {P : PySem.Fin → Shared → Prop} (hk : s.heap.get? kS = some (seqObj "list" keys e)) (ha : s.heap.get? a = some (seqObj "list" #[] e1)) (ne : kS ≠ a)
    (hp : Paired (fun v q => Srt.IsPair s.heap v q.1 q.2) keys.toList kz) (hl : keys.size = its.length) (hz : its.length ≤ sizeLine)
    (q : ∀ h' n, (∀ b o, b ≠ a → b ≠ kS → s.heap.get? b = some o → h'.get? b = some o) → (∃ o, h'.get? kS = some o) → h'.get? a = some (seqObj "list" ((sortK (·.1) (kz.zip its)).map (·.2)).toArray n) → P (.done (.ret .none)) { s with heap := h' }) :
    wpAny (model prog w) A (ksk_end a false its.toArray e1 (.ref kS) keys) P E s := by
  have O : Swo fun v u => lexB (kOf s.heap v) (kOf s.heap u) := swo_lex (kOf s.heap)
  have hz2 := hz
  have ez : (keys.zip its.toArray).toList = keys.toList.zip its := ksk_zip keys its
  have hR := Paired.zipB (G := fun (p : Keyed) (r : (Int × Int) × Value) => kOf s.heap p.1 = r.1 ∧ p.2 = r.2) (fun v r c h => ⟨kOf_eq h, rfl⟩) its hp
  have fin : ∀ st : SortSt, Srtd (lt2 fun v u => lexB (kOf s.heap v) (kOf s.heap u)) (arrOf st).toList → Stb (lt2 fun v u => lexB (kOf s.heap v) (kOf s.heap u)) (arrOf st).toList (keys.toList.zip its) → failedOf st = none → wpAny (model prog w) A (ksk_tail a false e1 (.ref kS) st) P E s := by
    intro st h1 h2 h3
    have e2 : (arrOf st).toList = sortK (fun p : Keyed => kOf s.heap p.1) (keys.toList.zip its) := by
      refine stb_uniq (swo2 O) h1 (sortK_srtd _ _) ⟨h2.perm.trans (sortK_perm _ _).symm, fun z => ?_⟩
      rw [h2.cls z]
      exact ((sortK_stb (fun p : Keyed => kOf s.heap p.1) (keys.toList.zip its)).cls z).symm
    have e3 : ((arrOf st).map (·.2)) = ((sortK (·.1) (kz.zip its)).map (·.2)).toArray := by
      apply Array.toList_inj.mp
      rw [Array.toList_map, e2]
      exact Paired.map_eq (fun _ _ h => h.2) (sortK_pair (fun _ _ h => h.1) hR)
    have l3 : ((arrOf st).map (·.2)).size ≤ its.length := by
      rw [Array.size_map, ← Array.length_toList, e2, (sortK_perm _ _).length_eq, List.length_zip]
      exact Nat.min_le_right ..
    have sm1 := Heap.SameBut.update s.heap kS (Obj.mapSeq fun _ => (#[] : Array Value))
    have na : (s.heap.update kS (Obj.mapSeq fun _ => (#[] : Array Value))).get? a = some (seqObj "list" #[] e1) := (sm1.2 a ne.symm).trans ha
    have sm2 := Heap.SameBut.update (s.heap.update kS (Obj.mapSeq fun _ => (#[] : Array Value))) a (Obj.mapSeq fun _ => (arrOf st).map (·.2))
    have nk : ∃ o, (s.heap.update kS (Obj.mapSeq fun _ => (#[] : Array Value))).get? kS = some o := ⟨_, get?_update_seq hk fun _ => #[]⟩
    unfold ksk_tail
    try dsimp only
    refine wpAny_bind (listUpdate_at hk rfl ?_ (by omega) (Nat.zero_le _))
    refine wpAny_bind ?_
    refine wpAny_letGo ?_
    refine wpAny_bind (seqEpoch_at na rfl ?_)
    refine wpAny_bind (listUpdate_at na rfl ?_ (Nat.zero_le _) (by simp only [Bool.false_eq_true, if_false]; omega))
    rw [h3]
    simp only [if_false, Bool.false_eq_true, bne_self_eq_false]
    have hf := get?_update_seq na fun _ => (arrOf st).map (·.2)
    rw [e3] at hf
    have nk2 : ∃ o, ((s.heap.update kS (Obj.mapSeq fun _ => (#[] : Array Value))).update a (Obj.mapSeq fun _ => (arrOf st).map (·.2))).get? kS = some o := ⟨_, (sm2.2 kS ne).trans nk.choose_spec⟩
    exact wpAny_pure (q _ _ (fun b o b1 b2 hb => (sm2.2 b b1).trans ((sm1.2 b b2).trans hb)) nk2 (by rw [e3]; exact hf))
  have hsz : its.toArray.size = its.length := List.size_toArray ..
  unfold ksk_end
  try dsimp only
  rw [if_neg (by decide)]
  by_cases h2 : its.toArray.size < 2
  · rw [if_pos h2, if_pos h2]
    refine wpAny_bind ?_
    refine wpAny_pure ?_
    rw [StateT.run_pure]
    refine wpAny_bind ?_
    refine wpAny_pure ?_
    try dsimp only
    refine fin (SortSt.mk' general' (keys.zip its.toArray) #[] 7 none) ?_ ?_ rfl
    · show Srtd _ (keys.zip its.toArray).toList
      rw [ez]
      have hl2 : (keys.toList.zip its).length < 2 := by rw [List.length_zip]; omega
      match keys.toList.zip its, hl2 with
      | [], _ => constructor
      | [one], _ => exact List.pairwise_singleton _ one
      | _ :: _ :: l, z => exact absurd z (by rw [List.length_cons, List.length_cons]; omega)
    · show Stb _ (keys.zip its.toArray).toList _
      rw [ez]
      exact Stb.refl _
  · rw [if_neg h2, if_neg h2]
    have hp' : ∀ v ∈ keys.toList, Srt.IsPair s.heap v (kOf s.heap v).1 (kOf s.heap v).2 := fun v hv => by
      obtain ⟨r, _, hr⟩ := Paired.memL hp v hv
      rw [kOf_eq hr]
      exact hr
    obtain ⟨fs, f1, f2, f3⟩ := Srt.firsts_of fun v hm => ⟨_, _, hp' v hm⟩
    have hkl : keys.toList.length = its.length := by rw [Array.length_toList]; exact hl
    refine wpAny_bind ?_
    have ek : keyKind' keys = keyKind' keys.toList.toArray := by rw [Array.toArray_toList]
    rw [ek]
    refine PySem.W.kat_kind (T := .type "int") f1 (by omega) (fun f hm => ?_) (by rfl) ?_
    · obtain ⟨x, t, rfl⟩ := f3 f hm
      exact PySem.W.Looks.now
    have ty : (Value.type "int" != Value.type "tuple") = true := by first | decide +kernel | rfl | decide
    rw [ty]
    have T := pair_cmp (prog := prog) (w := w) (A := A) (s := s) hp'
    have hall : AllL (fun p : Keyed => p.1 ∈ keys.toList) (keys.zip its.toArray).toList := fun p hm => by
      rw [ez] at hm
      exact (List.of_mem_zip (a := p.1) (b := p.2) hm).1
    refine wpAny_bind (wpAny_mono (wpS_sortO (st0 := SortSt.mk' (tuples' true) (keys.zip its.toArray) #[] 7 none) (Q := fun _ st' => Srtd (lt2 fun v u => lexB (kOf s.heap v) (kOf s.heap u)) (arrOf st').toList ∧ Stb (lt2 fun v u => lexB (kOf s.heap v) (kOf s.heap u)) (arrOf st').toList (keys.zip its.toArray).toList ∧ failedOf st' = none)
      (swo2 O) T rfl hall rfl rfl fun st' a1 a2 a3 => ⟨a1, a2, a3⟩) ?_ fun _ _ z => z)
    rintro ⟨⟨⟩, st'⟩ s' ⟨rfl, h1, h3, h4⟩
    rw [ez] at h3
    exact fin st' h1 h3 h4
end
/-! the keys, then the sort -/
def rSortKF (K : PySem.W.Frag) (sp : Sp) : List V → Hp → VK → Prop := fun vs H Q => ∃ (a : Addr) (xs : List V) (J : List V → Hp → Prop), vs = [V.ref a] ∧ SqL K H a xs ∧ J [] H ∧
  (∀ ks x H', xs[ks.length]? = some x → J ks H' → sp [x] H' (fun y H2 => J (ks ++ [y]) H2) fun _ _ _ => False) ∧
  ∀ ks H', ks.length = xs.length → J ks H' → ∃ kz : List (Int × Int), Paired (fun y q => ∃ t, y = V.ref t ∧ H' t = some (.tup [.int q.1, .int q.2])) ks kz ∧
    ∀ p, H' p = none → Q (.ref p) (upd H' p (.lst ((sortK (·.1) (kz.zip xs)).map (·.2))))
section
variable {X : Cx} {k : Nat} {f : Addr} {fd : FuncData} {ps : List Str} {sp : Sp}
/-- f called within a built-in's work -/
theorem call_in2 {pins : List (Addr × Obj)} {s : Shared} {σ : L2.St} {H : Hp} {u : Value} {x : V} {Q : VK} {E : Value → Shared → Prop} (F : FnOk X.prog X.w X.K X.mg X.base (L2.CX X.prog X.w) k f fd ps sp) (hr : Room k X.A.in1.in1) (hb : Binds X.K fd ps []) (I : Inv X pins σ H s) (r : RelV x u)
    (h : sp [x] H Q fun _ _ _ => False) : wpAny (model X.prog X.w) X.A.in1.in1 (call (.ref f) [u]) (EP X pins σ Q) E s := by
  have r2 : Vals [x] [u] := .cons r .nil
  have hl : ([u] ++ []).length = ps.length := F.len _ _ _ _ h
  have run := F.run X.A.in1.in1 X.stack s H ⟨[u], []⟩ [u] [x] Q (fun _ _ _ => False) hr I.env0.in1.in1 (hb s [u] I.kIn hl) r2 h
  refine wpAny_call (codeAny_mono run fun r s' hq => ?_)
  match r, hq with
  | .ok (.ret v), hq => exact I.after hq
  | .ok .next, hq => exact hq.elim
  | .ok .brk, hq => exact hq.elim
  | .ok .cont, hq => exact hq.elim
  | .error e, hq =>
    obtain ⟨_, _, _, _, _, _, _, _, _, _, _, _, z⟩ := hq
    exact z.elim
theorem cr_sortKF (F : FnOk X.prog X.w X.K X.mg X.base (L2.CX X.prog X.w) k f fd ps sp) (hr : Room (k + 2) X.A) (hb : Binds X.K fd ps []) : CallRK X (.builtin "sorted") [Str.ofString "key"] fun vs zs H Q => zs = [.ref f] ∧ rSortKF X.K sp vs H Q := by
  intro pins s σ H xs0 zs us ws Q I r rz qq
  obtain ⟨rfl, a0, xs, J, rfl, hs, j0, jn, je⟩ := qq
  obtain rfl := Vals.ref1 r
  obtain ⟨wv, rfl, ew⟩ := vals1 rz
  obtain rfl : wv = Value.ref f := ew
  have hIl := I.list hs
  obtain ⟨its, rv, hl, hz⟩ := hIl
  have lv := rv.length
  have hz' : its.length ≤ sizeLine := by omega
  refine call_function_entry_kw (id := "sorted") kind_sorted plain_sorted entry_sorted (ksk_s1 _ _) ?_
  unfold Builtin.«sorted»
  refine wpAny_bind (m := checkCount "sorted" 1 1 _) (wpAny_pure (wpAny_bind (collect_list hl.isList ?_ hz')))
  refine wpAny_bind (wpAny_newList ?_ hz')
  have hsz : ((s.heap.push (seqObj "list" #[] 0)).update s.heap.objs.size (Obj.mapSeq (· ++ its.toArray))).objs.size = s.heap.objs.size + 1 := by
    simp only [Heap.size_update, size_push']
  have hoL : (((s.heap.push (seqObj "list" #[] 0)).update s.heap.objs.size (Obj.mapSeq (· ++ its.toArray))).push (seqObj "list" its.toArray 0)).get? (s.heap.objs.size + 1) = some (seqObj "list" its.toArray 0) := by
    rw [← hsz]
    refine Heap.get?_push_size _ ?_
    rfl
  have kept1 : ∀ b o, s.heap.get? b = some o → (((s.heap.push (seqObj "list" #[] 0)).update s.heap.objs.size (Obj.mapSeq (· ++ its.toArray))).push (seqObj "list" its.toArray 0)).get? b = some o := fun b o q => by
    refine Heap.get?_push_of_some _ ?_
    rw [Heap.get?_update_ne _ _ _ _ (Nat.ne_of_lt (Heap.lt_size q))]
    refine Heap.get?_push_of_some _ ?_
    exact q
  show wpAny _ _ _ _ _ { s with heap := ((s.heap.push (seqObj "list" #[] 0)).update s.heap.objs.size (Obj.mapSeq (· ++ its.toArray))).push (seqObj "list" its.toArray 0) }
  dsimp only
  rw [hsz]
  generalize ((s.heap.push (seqObj "list" #[] 0)).update s.heap.objs.size (Obj.mapSeq (· ++ its.toArray))).push (seqObj "list" its.toArray 0) = h1 at hoL kept1 ⊢
  refine wpAny_bind (wpAny_holding (wpAny_call_entry_kw slot_list_sort ⟨_, hoL, rfl⟩ entry_list_sort ?_ (ksk_l1 _ _)))
  show wpAny _ _ (Builtin.«list.sort» ⟨[.ref (s.heap.objs.size + 1)], [(Str.ofString "key", .ref f)]⟩) _ _ _
  rw [ksk_t1]
  obtain ⟨a, ea⟩ : ∃ a, a = s.heap.objs.size + 1 := ⟨_, rfl⟩
  rw [← ea] at hoL ⊢
  obtain ⟨e1, ho1⟩ : ∃ e1, (h1.update a (Obj.mapSeq fun _ => #[])).get? a = some (seqObj "list" #[] e1) := ⟨_, get?_update_seq hoL (fun _ => #[])⟩
  unfold ksk_tree
  refine wpAny_bind (listItems_at hoL rfl (wpAny_bind (listUpdate_at hoL rfl ?_ (by rw [List.size_toArray]; exact hz') (Nat.zero_le _))))
  refine wpAny_bind (seqEpoch_at ho1 rfl (wpAny_bind (wpAny_newTuple ?_ hz')))
  refine wpAny_bind ?_
  refine wpAny_newList ?_ (Nat.zero_le _)
  refine wpAny_holding ?_
  have same1 := Heap.SameBut.update h1 a (Obj.mapSeq fun _ => (#[] : Array Value))
  have lt1 : ∀ (b : Nat) o, s.heap.get? b = some o → b < s.heap.objs.size := fun b o q => Heap.lt_size q
  have alt : a < h1.objs.size := Heap.lt_size hoL
  obtain ⟨kS, eS⟩ : ∃ kS, kS = ((h1.update a (Obj.mapSeq fun _ => #[])).push (seqObj "tuple" its.toArray 0)).objs.size := ⟨_, rfl⟩
  have ltS : a < kS := by rw [eS, size_push', Heap.size_update]; omega
  have hoS : (((h1.update a (Obj.mapSeq fun _ => #[])).push (seqObj "tuple" its.toArray 0)).push (seqObj "list" #[] 0)).get? kS = some (seqObj "list" #[] 0) := by
    rw [eS]
    refine Heap.get?_push_size _ ?_
    rfl
  have hoA : (((h1.update a (Obj.mapSeq fun _ => #[])).push (seqObj "tuple" its.toArray 0)).push (seqObj "list" #[] 0)).get? a = some (seqObj "list" #[] e1) := Heap.get?_push_of_some _ (Heap.get?_push_of_some _ ho1)
  have kept2 : ∀ b o, s.heap.get? b = some o → (((h1.update a (Obj.mapSeq fun _ => #[])).push (seqObj "tuple" its.toArray 0)).push (seqObj "list" #[] 0)).get? b = some o := fun b o q => by
    have := lt1 b o q
    exact Heap.get?_push_of_some _ (Heap.get?_push_of_some _ ((same1.2 b (Nat.ne_of_lt (by omega))).trans (kept1 b o q)))
  show wpAny _ _ (ksk_rest a (.ref f) false its.toArray e1 (.ref ((h1.update a (Obj.mapSeq fun _ => #[])).push (seqObj "tuple" its.toArray 0)).objs.size)) _ _ { s with heap := ((h1.update a (Obj.mapSeq fun _ => #[])).push (seqObj "tuple" its.toArray 0)).push (seqObj "list" #[] 0) }
  rw [← eS]
  generalize ((h1.update a (Obj.mapSeq fun _ => #[])).push (seqObj "tuple" its.toArray 0)).push (seqObj "list" #[] 0) = h2 at hoS hoA kept2 ⊢
  have I0 : Inv X pins σ H { s with heap := h2 } := I.kept kept2
  have oldP : ∀ p ∈ X.pn ++ pins, s.heap.objs.size > p.1 := fun p hp => lt1 _ _ (I.pin p hp).1
  have oldC : ∀ x (c : Nat), X.env.cells.lookup x = some c → c < s.heap.objs.size := fun x c e => by
    obtain ⟨_, o, ho, _⟩ := I.cell x c e
    exact lt1 c o ho
  have oldL := I.lt
  have new_ok : ∀ b, s.heap.objs.size ≤ b → b ≠ X.env.locals ∧ b ∉ X.fs := fun b hb => ⟨Nat.ne_of_gt (Nat.lt_of_lt_of_le oldL hb), I.nofs hb⟩
  have noc : ∀ (l : Array Value) (n : Nat) (v : Option Value), (seqObj "list" l n).data ≠ .cell v := fun _ _ _ z => by cases z
  have I1 : Inv X (pins ++ [(kS, seqObj "list" #[] 0), (a, seqObj "list" #[] e1)]) σ H { s with heap := h2 } := by
    refine I0.pins_of fun p hp => ?_
    rcases (List.mem_append).1 hp with hp | hp
    · exact I0.pin p (List.mem_append_right _ hp)
    · simp only [List.mem_cons, List.not_mem_nil, or_false] at hp
      rcases hp with rfl | rfl
      · exact ⟨hoS, I.hok.fresh (by omega), (new_ok kS (by omega)).1, (new_ok kS (by omega)).2, noc _ _⟩
      · exact ⟨hoA, I.hok.fresh (by omega), (new_ok a (by omega)).1, (new_ok a (by omega)).2, noc _ _⟩
  clear I0
  unfold ksk_rest
  refine wpAny_bind ?_
  refine wpAny_rule ?_
  rw [List.forIn_toArray]
  refine wpAny_bind (ksk_fold (fun i s' => ∃ kA e ks H', ks.length = i ∧ Inv X (pins ++ [(kS, seqObj "list" kA e), (a, seqObj "list" #[] e1)]) σ H' s' ∧ J ks H' ∧ Vals ks kA.toList) its 0 _ ⟨#[], 0, [], H, rfl, I1, j0, .nil⟩ ?step ?done)
  case step =>
    rintro j x s1 hx ⟨kA, e, ks, H1, el, J1, q1, rk⟩
    simp only [Nat.zero_add] at el ⊢
    have hj : j < its.length := (List.getElem?_eq_some_iff.mp hx).1
    obtain ⟨y, hy⟩ : ∃ y, xs[j]? = some y := ⟨_, List.getElem?_eq_getElem (by omega)⟩
    obtain ⟨x', hx', rx⟩ := rv.get hy
    rw [hx] at hx'
    cases hx'
    have sk : kA.size = ks.length := by rw [← Array.length_toList]; exact rk.length.symm
    refine wpAny_bind (wpAny_attempt (wpAny_mono (call_in2 F hr.in1.in1 hb J1 rx (jn ks y H1 (by rw [el]; exact hy) q1)) (fun v s2 hv => ?_) fun _ _ z => z))
    obtain ⟨yk, H2, J2, r2, q2⟩ := hv
    try dsimp only
    have pk := J2.pin (kS, seqObj "list" kA e) (List.mem_append_right _ (List.mem_append_right _ (.head _)))
    have pa := J2.pin (a, seqObj "list" #[] e1) (List.mem_append_right _ (List.mem_append_right _ (.tail _ (.head _))))
    have same := Heap.SameBut.update s2.heap kS (Obj.mapSeq (·.push v))
    obtain ⟨c2, hc2⟩ : ∃ c2, (s2.heap.update kS (Obj.mapSeq (·.push v))).get? kS = some (seqObj "list" (kA.push v) c2) := ⟨_, get?_update_seq pk.1 (·.push v)⟩
    refine wpAny_bind (listUpdate_at pk.1 rfl ?_ (by omega) (Nat.le_trans (Nat.le_of_eq (Array.size_push ..)) (by omega)))
    have J3 : Inv X (pins ++ [(a, seqObj "list" #[] e1)]) σ H2 s2 := J2.pins_of fun p hp => by
      rcases (List.mem_append).1 hp with hp | hp
      · exact J2.pin p (List.mem_append_right _ (List.mem_append_left _ hp))
      · rw [List.mem_singleton.mp hp]; exact pa
    have J4 : Inv X (pins ++ [(a, seqObj "list" #[] e1)]) σ H2 { s2 with heap := s2.heap.update kS (Obj.mapSeq (·.push v)) } := by
      refine J3.turned (it := kS) (t' := s2.toks) (fun b o hb ho => (same.2 b hb).trans ho) pk.2.1 pk.2.2.1 (.inr (Nat.le_trans I.sz (by omega))) (fun x c ex z => ?_) fun p hp z => ?_
      · have := oldC x c ex
        rw [z] at this
        omega
      · rw [← List.append_assoc] at hp
        rcases (List.mem_append).1 hp with hp | hp
        · have := oldP p hp
          rw [z] at this
          omega
        · rw [List.mem_singleton.mp hp] at z
          have z : a = kS := z
          rw [z] at ltS
          exact absurd ltS (Nat.lt_irrefl _)
    refine wpAny_pure ⟨rfl, kA.push v, c2, ks ++ [yk], H2, by simp [el], J4.pins_of fun p hp => ?_, q2, by rw [Array.toList_push]; exact Paired.snoc rk r2⟩
    rcases (List.mem_append).1 hp with hp | hp
    · exact J4.pin p (List.mem_append_right _ (List.mem_append_left _ hp))
    · simp only [List.mem_cons, List.not_mem_nil, or_false] at hp
      rcases hp with rfl | rfl
      · exact ⟨hc2, pk.2.1, pk.2.2.1, pk.2.2.2.1, noc _ _⟩
      · exact J4.pin _ (List.mem_append_right _ (List.mem_append_right _ (.head _)))
  case done =>
    rintro s1 ⟨kA, e, ks, H1, el, J1, q1, rk⟩
    simp only [Nat.zero_add] at el
    have sk : kA.size = ks.length := by rw [← Array.length_toList]; exact rk.length.symm
    have pk := J1.pin (kS, seqObj "list" kA e) (List.mem_append_right _ (List.mem_append_right _ (.head _)))
    have pa := J1.pin (a, seqObj "list" #[] e1) (List.mem_append_right _ (List.mem_append_right _ (.tail _ (.head _))))
    obtain ⟨kz, hkz, fin⟩ := je ks H1 (by omega) q1
    try dsimp only
    refine wpAny_bind (listItems_at pk.1 rfl ?_)
    have isP : ∀ (ks : List V) (us : List Value) (kz : List (Int × Int)), Paired (fun y q => ∃ t, y = V.ref t ∧ H1 t = some (.tup [.int q.1, .int q.2])) ks kz → Vals ks us → Paired (fun v q => Srt.IsPair s1.heap v q.1 q.2) us kz := by
      intro ks us kz h
      induction h generalizing us with
      | nil => intro r; cases r; exact .nil
      | cons h t ih =>
        intro r
        cases r with
        | cons r1 r2 =>
          refine .cons ?_ (ih _ r2)
          obtain ⟨t0, rfl, ht⟩ := h
          obtain ⟨_, its2, r3, o, ho, hc, n, hd⟩ := J1.hok _ _ ht
          obtain ⟨u1, u2, rfl, ri, rj⟩ := vals2 r3
          obtain ⟨t1, rfl⟩ := ri
          obtain ⟨t2, rfl⟩ := rj
          exact ⟨t0, o, t1, t2, n, r1, ho, hc, hd⟩
    have nSA : kS ≠ a := Nat.ne_of_gt ltS
    refine key_end pk.1 pa.1 nSA (isP _ _ _ hkz rk) (by omega) hz' fun h' n keep hS hA => ?_
    have J2 : Inv X pins σ H1 s1 := J1.pins_of fun p hp => J1.pin p (List.mem_append_right _ (List.mem_append_left _ hp))
    refine ⟨_, rfl, wpAny_pure ⟨_, rfl, .ref a, upd H1 a (.lst ((sortK (·.1) (kz.zip xs)).map (·.2))), ?_, rfl, fin a pa.2.1⟩⟩
    have ys_rel : Vals ((sortK (·.1) (kz.zip xs)).map (·.2)) ((sortK (·.1) (kz.zip its)).map (·.2)) := by
      have z1 : ∀ (l : List ((Int × Int) × V)) (m : List ((Int × Int) × Value)), Paired (fun p q => p.1 = q.1 ∧ RelV p.2 q.2) l m → Vals (l.map (·.2)) (m.map (·.2)) := by
        intro l m h
        induction h with
        | nil => exact .nil
        | cons h _ ih => exact .cons h.2 ih
      exact z1 _ _ (sortK_pair (fun _ _ h => h.1) (zip_vals kz xs its rv))
    have lenY : ((sortK (·.1) (kz.zip xs)).map (·.2)).length ≤ sizeLine := by
      rw [List.length_map, (sortK_perm _ _).length_eq, List.length_zip]
      exact Nat.le_trans (Nat.min_le_right ..) hz
    have neL : ∀ b, b = a ∨ b = kS → b ≠ X.env.locals := fun b hb z => by
      have := (new_ok a (by omega)).1
      have := (new_ok kS (by omega)).1
      rcases hb with rfl | rfl <;> contradiction
    have hn : H1 a = none := pa.2.1
    have hnS : H1 kS = none := pk.2.1
    have trk : ∀ b u, H1 b = some u → b ≠ a ∧ b ≠ kS := fun b u hb => ⟨fun z => (by rw [z, hn] at hb; cases hb), fun z => (by rw [z, hnS] at hb; cases hb)⟩
    refine J2.step (g' := s1.gens) (d' := s1.drawn) (t' := s1.toks) (ch := [a, kS]) (fun b hb => ?_) (fun b o _ _ hc e _ => keep b o (fun z => hc (by simp [z])) (fun z => hc (by simp [z])) e) (fun b o _ _ hc e _ => ⟨o.slots, keep b o (fun z => hc (by simp [z])) (fun z => hc (by simp [z])) e⟩)
      (fun b o hc e n => by rw [upd_ne (fun z => hc (by simp [z]))]; exact n) (fun b o hc e => ⟨o, keep b o (fun z => hc (by simp [z])) (fun z => hc (by simp [z])) e⟩) (fun b l e => by rw [upd_ne (trk b _ e).1]; exact e) (fun b o u e => by rw [upd_ne (trk b _ e).1]; exact e)
      (fun b l e => ⟨#[], by rw [upd_ne (trk b _ e).1, e]; simp⟩) (fun m hm => ?_) (fun b u e => ?_) J2.bare
    · have hb : b = a ∨ b = kS := by simpa using hb
      have big : s.heap.objs.size ≤ b := by
        rcases hb with z | z
        · rw [z]; omega
        · rw [z]; omega
      refine ⟨.inr (Nat.le_trans I.sz big), neL b hb, fun x c ex z => ?_, fun p hp z => ?_⟩
      · have := oldC x c ex
        rw [z] at this
        omega
      · have := oldP p hp
        rw [z] at this
        omega
    · obtain ⟨o, es, ep, hm⟩ := hm
      obtain ⟨ho, r⟩ := hm
      exact ⟨o, es, ep, keep _ o (fun z => neL _ (.inl rfl) z.symm) (fun z => neL _ (.inr rfl) z.symm) ho, r⟩
    · by_cases eb : b = a
      · subst eb
        rw [upd_same] at e
        cases e
        exact ⟨lenY, _, n, ys_rel, hA⟩
      · rw [upd_ne eb] at e
        refine (J2.hok b u e).stay (fun c v hc q => keep c v ?_ ?_ q) (fun c q => ?_) fun c l q => ?_
        · rcases hc with z | z
          · rw [z]; exact (trk b _ e).1
          · exact (trk c _ z).1
        · rcases hc with z | z
          · rw [z]; exact (trk b _ e).2
          · exact (trk c _ z).2
        · rw [upd_ne (trk c _ q).1]; exact q
        · rw [upd_ne (trk c _ q).1]; exact q
end
/-! .. over data -/
/-- sp tells the key of each item; kf: what it tells -/
def oSortK (sp : DSp) : DCl := fun xs s Q => match xs with
  | [x] => (match unlk (deref s x) with
    | .lst ds => ∃ kf : D → Int × Int, (∀ d ∈ ds, sp [d] s (fun r s' => s' = s ∧ frzS r = .tup [.int (kf d).1, .int (kf d).2]) fun _ _ => False) ∧ Q (.lst (sortK kf ds)) s
    | _ => False)
  | _ => False
theorem LF.noE {K : PySem.W.Frag} {C : Tbl} {sp : DSp} {vs : List V} {H : Hp} {Q : VK} {E E' : XK} (h : LF K C sp vs H Q E) (hE : ∀ cls d H', E cls d H' → E' cls d H') : LF K C sp vs H Q E' := by
  obtain ⟨B, io, s, ds, Qd, Wd, h1, h2, h3, h4, h5⟩ := h
  exact ⟨B, io, s, ds, Qd, Wd, h1, h2, h3, h4, fun x s' io' H' cls d a b c => hE _ _ _ (h5 x s' io' H' cls d a b c)⟩
theorem RD.pair {K : PySem.W.Frag} {C : Tbl} {w : Vw} {v : V} {i j : Int} (r : RD K C w v (.tup [.int i, .int j])) : ∃ t, v = .ref t ∧ w.H t = some (.tup [.int i, .int j]) := by
  cases r with
  | tup x h r =>
    cases r with
    | cons r1 r2 =>
      cases r1
      cases r2 with
      | cons r3 r4 =>
        cases r3
        cases r4
        exact ⟨_, rfl, h⟩
theorem oc_sortK {K : PySem.W.Frag} {C : Tbl} {g : Gw} {L : Lk} {sp : DSp} : ClN K C g L (rSortKF K (LF K C sp)) (oSortK sp) := by
  intro kw io O H σ sd s xs vs Qd Q S rx h k
  unfold oSortK at h
  split at h
  · obtain ⟨v, rfl, ry⟩ := rx.one
    split at h
    · rename_i ds e
      obtain ⟨kf, hk, q⟩ := h
      obtain ⟨a, ws, rfl, hs, r⟩ := ry.seqL S (.inl (ry.unlk S e (by intro _ z; cases z) (by intro _ z; cases z)))
      have lw := r.length
      refine ⟨a, ws, fun ks H' => ∃ io', StOk K C g L kw io' O H' σ sd s ∧ Stp g io O H io' O H' ∧ RL K C (vw g io' O H') ks ((ds.take ks.length).map fun d => .tup [.int (kf d).1, .int (kf d).2]), rfl, hs, ⟨io, S, Stp.refl .., .nil⟩, ?_, ?_⟩
      · rintro ks x H' hx ⟨io', S1, T1, r1⟩
        obtain ⟨d, hd, rd⟩ := r.getV hx
        have hm : d ∈ ds := List.mem_of_getElem? hd
        refine (call_frz (W := fun _ _ _ => False) S1 (.cons (rd.grow T1.gr) .nil) (Qd := fun d' s' => s' = s ∧ d' = .tup [.int (kf d).1, .int (kf d).2]) (hk d hm) ?_).noE ?_
        · rintro d' s' io2 H2 v ⟨rfl, rfl⟩ S2 T2 r2
          refine ⟨io2, S2, T1.trans T2, ?_⟩
          have e1 : (ds.take (ks ++ [v]).length).map (fun d => D.tup [.int (kf d).1, .int (kf d).2]) = (ds.take ks.length).map (fun d => D.tup [.int (kf d).1, .int (kf d).2]) ++ [.tup [.int (kf d).1, .int (kf d).2]] := by
            rw [List.length_append, List.length_singleton, List.take_add_one, hd]
            simp
          rw [e1]
          exact RL.append (r1.grow T2.gr) (.cons r2 .nil)
        · rintro cls d H2 ⟨_, _, _, _, _, _, _, _, z⟩
          exact z
      · rintro ks H' hl ⟨io', S1, T1, r1⟩
        rw [List.take_of_length_le (by omega)] at r1
        have e0 : ds.map (fun d => D.tup [.int (kf d).1, .int (kf d).2]) = (ds.map kf).map fun q => .tup [.int q.1, .int q.2] := by rw [List.map_map]; rfl
        rw [e0] at r1
        refine ⟨ds.map kf, ?_, fun p hp => ?_⟩
        · clear e0
          generalize ds.map kf = kz at r1
          clear hl
          induction kz generalizing ks with
          | nil => cases r1; exact .nil
          | cons q kz ih =>
            cases r1 with
            | cons h1 t1 => exact .cons h1.pair (ih _ t1)
        · obtain ⟨S2, T2, hn⟩ := S1.newRes (ho := .lst ((sortK (·.1) ((ds.map kf).zip ws)).map (·.2))) hp
          refine k _ s io' _ p _ q S2 (T1.trans T2) hn upd_same (by intro _ _ z; cases z) (.lst ?_)
          have rr : RL K C (vw g io' (ores O p) (upd H' p (.lst ((sortK (·.1) ((ds.map kf).zip ws)).map (·.2))))) ws ds := r.grow (T1.trans T2).gr
          have z0 : ∀ {w : Vw} {ws : List V} {ds : List D}, RL K C w ws ds → Paired (fun (p : (Int × Int) × V) (d : D) => p.1 = kf d ∧ RD K C w p.2 d) ((ds.map kf).zip ws) ds := by
            intro w ws
            induction ws with
            | nil => intro ds r; cases r; exact .nil
            | cons x ws ih => intro ds r; cases r with | cons h t => exact .cons ⟨rfl, h⟩ (ih t)
          have z1 : ∀ {w : Vw} {l : List ((Int × Int) × V)} {m : List D}, Paired (fun (p : (Int × Int) × V) (d : D) => p.1 = kf d ∧ RD K C w p.2 d) l m → RL K C w (l.map (·.2)) m := by
            intro w l m h
            induction h with
            | nil => exact .nil
            | cons h _ ih => exact .cons h.2 ih
          exact z1 (sortK_pair (k := fun p : (Int × Int) × V => p.1) (m := kf) (fun _ _ h => h.1) (z0 rr))
    · exact h.elim
  · exact h.elim
section
variable {X : Cx} {C : Tbl} {g : Gw} {L : Lk} {pos p p2 : Pos} {e : Expr} {es : List Expr} {k : Nat} {f : Addr} {fd : FuncData} {ps : List Str} {sp : DSp}
theorem g_sortK {x y : Str} {dps : DPs} {kp : Pos} (F : FnOk X.prog X.w X.K X.mg X.base (L2.CX X.prog X.w) k f fd ps (LF X.K C sp)) (hr : Room (k + 2) X.A) (hb : Binds X.K fd ps []) (hgy : Gl X y) (hmy : X.mg y = some (.ref f)) (hg : Gl X x) (hm : X.mg x = none) (hv : bootBuiltins x = some (.builtin "sorted")) (ha : PA X (e :: es) (LPs X.K C g L dps))
    (hdy : (y == ("__debug__" : Str)) = false := by decide) (hn : x ≠ "__name__" := by decide) (hdb : (x == ("__debug__" : Str)) = false := by decide)
    (he : backTo pos (starEach (e :: es) X.env) = (false, eval e X.env) :: backTo pos (starEach es X.env) := by rfl) (hpl : (backTo pos (starEach (e :: es) X.env)).any (·.1) = false := by rfl) :
    PE X (.Call (.Name x p) (e :: es) [⟨some "key", .Name y p2, kp⟩] pos) (LO X.K C g L (dBi (oSortK sp) dps)) :=
  (pe_callBK (cr_sortKF F hr hb) hg hm hv ha (pk_cons (pe_glob (v := .ref f) hgy hmy rfl hdy) pk_nil) hn hdb he hpl).imp fun σ H Q q => by
    obtain ⟨kw, io, O, sd, s, Qd, S, he, k⟩ := l_biN oc_sortK σ H Q q
    exact ⟨kw, io, O, sd, s, Qd, S, he, fun xs s1 io1 H1 vs q1 S1 T1 r1 => ⟨rfl, k xs s1 io1 H1 vs q1 S1 T1 r1⟩⟩
end
end G
namespace G
open L2 PyProof.Rows PySem PySem.Spec
/-! int(x), x a whole number or a truth -/
def oInt : DCl := fun xs s Q => match xs with
  | [.v (.int i)] => Q (.int i) s
  | [.v (.bl b)] => Q (.int (if b then 1 else 0)) s
  | _ => False
abbrev rInt1 : List V → Hp → VK → Prop := fun xs H Q => (∃ i, xs = [.int i] ∧ Q (.int i) H) ∨ ∃ k, xs = [.bl k] ∧ Q (.int (if k then 1 else 0)) H
theorem oc_int {K : PySem.W.Frag} {C : Tbl} {g : Gw} {L : Lk} : ClG K C g L rInt1 oInt := by
  intro kw io O H σ sd s xs vs Qd Q S rx h k
  unfold oInt at h
  split at h
  · obtain ⟨v, rfl, ry⟩ := rx.one
    cases ry with
    | v r => cases r; exact .inl ⟨_, rfl, k _ s io H _ h S (Stp.refl ..) (.int _)⟩
  · obtain ⟨v, rfl, ry⟩ := rx.one
    cases ry with
    | v r => cases r; exact .inr ⟨_, rfl, k _ s io H _ h S (Stp.refl ..) (.int _)⟩
  · exact h.elim
end G
namespace G
open L2 PyProof.Rows PySem PySem.Spec SrtO
/-! the order of pairs of whole numbers: >, min; sorted of tuples of whole numbers -/
abbrev pyP (a b : Int) : PyData := .tuple [.int a, .int b]
theorem lt_pair (a b c d : Int) : W.dataLt (pyP a b) (pyP c d) = lexB (a, b) (c, d) := by
  have il : ∀ a b : Int, itemLt (.inl a) (.inl b) = decide (a < b) := fun _ _ => rfl
  unfold W.dataLt lexB pyP
  simp only [W.keyToks, W.keyToksAll, List.cons_append, List.nil_append]
  by_cases e : a = c
  · subst e
    by_cases e2 : b = d
    · subst e2
      simp [PyProof.Rows.lexLt, il]
    · by_cases e3 : b < d
      · have e4 : ¬ d < b := by omega
        simp [PyProof.Rows.lexLt, il, e3, e4]
      · simp [PyProof.Rows.lexLt, il, e3]
  · by_cases e3 : a < c
    · have e4 : ¬ c < a := by omega
      simp [PyProof.Rows.lexLt, il, e, e3]
    · have e4 : c < a := by omega
      simp [PyProof.Rows.lexLt, il, e, e3, e4]
def rGtP (K : PySem.W.Frag) : R2 := fun x y H Q => (rI0 fun i j => .bl (decide (j < i))) x y H Q ∨ ∃ a b c d, Dp K H x (pyP a b) ∧ Dp K H y (pyP c d) ∧ Q (.bl (lexB (c, d) (a, b))) H
theorem op_gtP {X : Cx} {k : Nat} (hr : Room k X.A) : OpR X (compareOp .Gt) (rGtP X.K) := by
  refine op_gt.or ?_
  intro pins s σ H x y v u
  intro Q I rx ry h
  obtain ⟨a, b, c, d, h1, h2, q⟩ := h
  obtain ⟨as, r1⟩ := Dp.reads I (pyP a b) x v h1 rx
  obtain ⟨bs, r2⟩ := Dp.reads I (pyP c d) y u h2 ry
  have hu := hr.un
  refine W.gt_data r1 r2 rfl (by intro z; cases z) ?_ ?_
  · show X.A.units + min _ _ < _
    have : (pyP a b).depth = 1 := rfl
    rw [this]
    have := Nat.min_le_left 1 (pyP c d).depth
    omega
  · rw [lt_pair]
    exact ⟨.bl _, H, I, rfl, q⟩
def oGtP : DOp := fun x y s Q => match deref s x, deref s y with
  | .int i, .int j => Q (.bl (decide (j < i))) s
  | .tup [.int a, .int b], .tup [.int c, .int d] => Q (.bl (lexB (c, d) (a, b))) s
  | _, _ => False
theorem RD.dpP {K : PySem.W.Frag} {C : Tbl} {w : Vw} {v : V} {a b : Int} (r : RD K C w v (.tup [.int a, .int b])) : Dp K w.H v (pyP a b) := RD.dp 3 (.tup [.int a, .int b]) v rfl r
theorem og_gtP {K : PySem.W.Frag} {C : Tbl} {g : Gw} {L : Lk} : OpG K C g L (rGtP K) oGtP := by
  intro kw io O H σ sd s x y v u Qd Q S rx ry h k
  unfold oGtP at h
  split at h
  · rename_i i j e1 e2
    have r1 := deref_v S rx e1 (.inl ⟨_, rfl⟩)
    have r2 := deref_v S ry e2 (.inl ⟨_, rfl⟩)
    cases r1
    cases r2
    exact .inl ⟨_, _, rfl, rfl, k _ s io H _ h S (Stp.refl ..) (.bl _)⟩
  · rename_i a b c d e1 e2
    have r1 := deref_v S rx e1 (.inr (.inr ⟨_, rfl⟩))
    have r2 := deref_v S ry e2 (.inr (.inr ⟨_, rfl⟩))
    exact .inr ⟨a, b, c, d, r1.dpP, r2.dpP, k _ s io H _ h S (Stp.refl ..) (.bl _)⟩
  · exact h.elim
/-! min of a list of pairs -/
def pairsOfD : List D → Option (List (Int × Int))
  | [] => some []
  | .tup [.int a, .int b] :: r => (pairsOfD r).map fun l => (a, b) :: l
  | _ :: _ => none
theorem pairsOfD_map : ∀ l : List (Int × Int), pairsOfD (l.map fun p => .tup [.int p.1, .int p.2]) = some l
  | [] => rfl
  | p :: l => by
    have ih := pairsOfD_map l
    rw [List.map_cons]
    unfold pairsOfD
    rw [ih]
    rfl
theorem RL.pairs {K : PySem.W.Frag} {C : Tbl} {w : Vw} : ∀ {ds : List D} {vs : List V} {l : List (Int × Int)}, RL K C w vs ds → pairsOfD ds = some l → DpAll K w.H vs (l.map fun p => pyP p.1 p.2) ∧ ds = l.map fun p => .tup [.int p.1, .int p.2]
  | _, _, _, .nil, h => by cases h; exact ⟨.nil, rfl⟩
  | d :: ds, _, l, .cons r t, h => by
    unfold pairsOfD at h
    split at h
    · rename_i e
      cases e
    · rename_i a b r' e
      cases e
      obtain ⟨l', h1, rfl⟩ := Option.map_eq_some_iff.mp h
      obtain ⟨q1, q2⟩ := RL.pairs t h1
      exact ⟨.cons r.dpP q1, by rw [q2]; rfl⟩
    · cases h
def rMinP (K : PySem.W.Frag) : List V → Hp → VK → Prop := fun vs H Q => ∃ (a : Addr) (xs : List V) (p : Int × Int) (l : List (Int × Int)), vs = [V.ref a] ∧ SqL K H a xs ∧ DpAll K H xs ((p :: l).map fun p => pyP p.1 p.2) ∧
  ∀ (i : Nat) v q, xs[i]? = some v → (p :: l)[i]? = some q → (∀ y ∈ p :: l, lexB y q = false) → Q v H
theorem minD_at (p : Int × Int) (l : List (Int × Int)) : ∃ q ∈ p :: l, W.minD (pyP p.1 p.2) (l.map fun p => pyP p.1 p.2) = pyP q.1 q.2 ∧ ∀ y ∈ p :: l, lexB y q = false := by
  induction l generalizing p with
  | nil => exact ⟨p, List.mem_cons_self, rfl, fun y hy => by rw [List.mem_singleton.mp hy]; exact (lex_swo id).refl p⟩
  | cons r l ih =>
    have e : W.minD (pyP p.1 p.2) ((r :: l).map fun p => pyP p.1 p.2) = W.minD (if W.dataLt (pyP r.1 r.2) (pyP p.1 p.2) then pyP r.1 r.2 else pyP p.1 p.2) (l.map fun p => pyP p.1 p.2) := rfl
    rw [e, lt_pair]
    rcases bcase (lexB (r.1, r.2) (p.1, p.2)) with c | c
    · have c' : lexB r p = true := c
      rw [c, if_pos rfl]
      obtain ⟨q, hq, e2, h2⟩ := ih r
      refine ⟨q, List.mem_cons_of_mem _ hq, e2, fun y hy => ?_⟩
      rcases (List.mem_cons).1 hy with rfl | hy
      · exact (lex_swo id).tr _ _ _ (h2 r List.mem_cons_self) ((lex_swo id).asym _ _ c')
      · exact h2 y hy
    · have c' : lexB r p = false := c
      rw [c, if_neg (by decide)]
      obtain ⟨q, hq, e2, h2⟩ := ih p
      refine ⟨q, ?_, e2, fun y hy => ?_⟩
      · rcases (List.mem_cons).1 hq with rfl | hq
        · exact List.mem_cons_self
        · exact List.mem_cons_of_mem _ (List.mem_cons_of_mem _ hq)
      · rcases (List.mem_cons).1 hy with rfl | hy
        · exact h2 y List.mem_cons_self
        · rcases (List.mem_cons).1 hy with rfl | hy
          · exact (lex_swo id).tr _ _ _ (h2 p List.mem_cons_self) c'
          · exact h2 y (List.mem_cons_of_mem _ hy)
theorem reads_pair {h : Heap} {v : Value} {a b : Int} {as : List Addr} (r : Reads h v (pyP a b) as) : ∃ t o n t1 t2, v = .ref t ∧ h.get? t = some o ∧ o.data = .seq #[.int a t1, .int b t2] n := by
  cases r with
  | @tuple t o vs n _ _ h1 h2 h3 h4 =>
    obtain ⟨l⟩ := vs
    have h4 : ReadsAll h l [.int a, .int b] _ := h4
    cases h4 with
    | cons r1 r2 =>
      cases r1
      cases r2 with
      | cons r3 r4 =>
        cases r3
        cases r4
        exact ⟨t, o, n, _, _, rfl, h1, h3⟩
theorem depth_pairs : ∀ l : List (Int × Int), PyData.depthAll (l.map fun p => pyP p.1 p.2) ≤ 1
  | [] => by decide
  | p :: l => by
    have ih := depth_pairs l
    show max (pyP p.1 p.2).depth (PyData.depthAll (l.map fun p => pyP p.1 p.2)) ≤ 1
    have : (pyP p.1 p.2).depth = 1 := rfl
    omega
theorem cr_minP {X : Cx} {k : Nat} (hc : X.calm = true) (hr : Room k X.A) : CallR X (.builtin "min") (rMinP X.K) := by
  intro pins s σ H vs us
  intro Q I r h
  obtain ⟨a, xs, p, l, rfl, hs, hd, q⟩ := h
  have hIl := I.list hs
  obtain ⟨its, rv, hl, hz⟩ := hIl
  obtain ⟨as, ra⟩ := Dp.readsAll I _ xs its hd rv
  obtain rfl := Vals.ref1 r
  have hu := hr.un
  have dp := depth_pairs (p :: l)
  refine W.min_list_data (x := pyP p.1 p.2) (xs := l.map fun p : Int × Int => pyP p.1 p.2) (as := as) (I.ok.hd hc) hl.isList (show ReadsAll s.heap its.toArray.toList ((p :: l).map fun p => pyP p.1 p.2) as from ra) ⟨fun x hx y hy => ?_, fun x hx => ?_⟩ ?_ fun i v h' tk bs hv rm keep => ?_
  · obtain ⟨x', _, rfl⟩ := List.mem_map.mp (show x ∈ (p :: l).map fun p => pyP p.1 p.2 from hx)
    obtain ⟨y', _, rfl⟩ := List.mem_map.mp (show y ∈ (p :: l).map fun p => pyP p.1 p.2 from hy)
    rfl
  · obtain ⟨x', _, rfl⟩ := List.mem_map.mp (show x ∈ (p :: l).map fun p => pyP p.1 p.2 from hx)
    intro z
    cases z
  · show X.A.units + 1 + PyData.depthAll ((p :: l).map fun p => pyP p.1 p.2) < cLine
    omega
  · have hv : its[i]? = some v := by simpa using hv
    obtain ⟨m, hm, em, le⟩ := minD_at p l
    rw [em] at rm
    have il : i < its.length := (List.getElem?_eq_some_iff.mp hv).1
    have lx := rv.length
    obtain ⟨y, hy⟩ : ∃ y, xs[i]? = some y := ⟨_, List.getElem?_eq_getElem (by omega)⟩
    obtain ⟨v', hv', ry⟩ := rv.get hy
    rw [hv] at hv'
    cases hv'
    obtain ⟨bs2, r2, i2, _⟩ := W.readsAll_at (h := s.heap) ra i v hv
    rw [List.length_map] at i2
    obtain ⟨q0, hq0⟩ : ∃ q0, (p :: l)[i]? = some q0 := ⟨_, List.getElem?_eq_getElem i2⟩
    have e3 : ((p :: l).map fun p => pyP p.1 p.2).getD i .none = pyP q0.1 q0.2 := by
      rw [List.getD_eq_getElem?_getD, List.getElem?_map, hq0]
      rfl
    rw [e3] at r2
    obtain ⟨t, o, n, t1, t2, e4, g1, g2⟩ := reads_pair r2
    obtain ⟨t', o', n', t1', t2', e5, g3, g4⟩ := reads_pair rm
    rw [e4] at e5
    cases e5
    rw [keep _ _ g1] at g3
    cases g3
    rw [g2] at g4
    have e6 : q0 = m := by
      injection g4 with g5
      simp at g5
      exact Prod.ext g5.1.1 g5.2.1
    rw [e6] at hq0
    exact ⟨y, H, I.kept keep, ry, q i y m hy hq0 le⟩
/-- of a list of pairs: the least one; of two whole numbers; of a list of whole numbers: oMin -/
def oMinP : DCl := fun xs s Q => match xs with
  | [x] => (match unlk (deref s x) with
    | .lst ds => (match pairsOfD ds with
      | some (p :: l) => ∀ q ∈ p :: l, (∀ y ∈ p :: l, lexB y q = false) → Q (.tup [.int q.1, .int q.2]) s
      | _ => False)
    | _ => False)
  | _ => False
theorem oc_minP {K : PySem.W.Frag} {C : Tbl} {g : Gw} {L : Lk} : ClG K C g L (rMinP K) oMinP := by
  intro kw io O H σ sd s xs vs Qd Q S rx h k
  unfold oMinP at h
  split at h
  · obtain ⟨v, rfl, ry⟩ := rx.one
    split at h
    · rename_i ds e
      split at h
      · rename_i p l en
        obtain ⟨a, ws, rfl, hs, r⟩ := ry.seqL S (.inl (ry.unlk S e (by intro _ z; cases z) (by intro _ z; cases z)))
        obtain ⟨q1, q2⟩ := r.pairs en
        refine ⟨a, ws, p, l, rfl, hs, q1, fun i v q hv hq le => ?_⟩
        have hd : ds[i]? = some (.tup [.int q.1, .int q.2]) := by rw [q2, List.getElem?_map, hq]; rfl
        obtain ⟨v', hv', rd⟩ := r.get hd
        rw [hv] at hv'
        cases hv'
        exact k _ s io H v (h q (List.mem_of_getElem? hq) le) S (Stp.refl ..) rd
      · exact h.elim
    · exact h.elim
  · exact h.elim
/-! sorted of tuples of whole numbers: some order -/
theorem RL.paired {K : PySem.W.Frag} {C : Tbl} {w : Vw} : ∀ {vs : List V} {ds : List D}, RL K C w vs ds → Paired (RD K C w) vs ds
  | _, _, .nil => .nil
  | _, _, .cons h t => .cons h (RL.paired t)
theorem RL.of_paired {K : PySem.W.Frag} {C : Tbl} {w : Vw} : ∀ {vs : List V} {ds : List D}, Paired (RD K C w) vs ds → RL K C w vs ds
  | _, _, .nil => .nil
  | _, _, .cons h t => .cons h (RL.of_paired t)
theorem Paired.perm {α β : Type} {F : α → β → Prop} {l l' : List α} (p : l'.Perm l) : ∀ {m : List β}, Paired F l m → ∃ m', m'.Perm m ∧ Paired F l' m' := by
  induction p with
  | nil => intro m h; cases h; exact ⟨[], List.Perm.refl _, .nil⟩
  | cons x _ ih =>
    intro m h
    cases h with
    | cons h t =>
      obtain ⟨m', p', h'⟩ := ih t
      exact ⟨_ :: m', p'.cons _, .cons h h'⟩
  | swap x y l =>
    intro m h
    cases h with
    | cons h t => cases t with
      | cons h2 t => exact ⟨_ :: _ :: _, .swap .., .cons h2 (.cons h t)⟩
  | trans _ _ ih1 ih2 =>
    intro m h
    obtain ⟨m1, p1, h1⟩ := ih2 h
    obtain ⟨m2, p2, h2⟩ := ih1 h1
    exact ⟨m2, p2.trans p1, h2⟩
def rSortTA (K : PySem.W.Frag) : List V → Hp → VK → Prop := fun vs H Q => ∃ (n : Nat) (B : Int), 1 ≤ n ∧ rSortU K n B vs H Q
theorem cr_sortTA {X : Cx} : CallR X (.builtin "sorted") (rSortTA X.K) := by
  intro pins s σ H vs us
  intro Q I r h
  obtain ⟨n, B, hn, h⟩ := h
  exact cr_sortT hn pins s σ H vs us Q I r h
def oSortT : DCl := fun xs s Q => match xs with
  | [x] => (match unlk (deref s x) with
    | .lst ds => ds.length < 64 ∧ ∃ (n : Nat) (B : Int), 1 ≤ n ∧ (∀ d ∈ ds, ∃ ns : List Int, d = .tup (ns.map .int) ∧ ns.length = n ∧ ∀ m ∈ ns, 0 ≤ m ∧ m < B) ∧ ∀ es : List D, es.Perm ds → Q (.lst es) s
    | _ => False)
  | _ => False
theorem RD.tupI {K : PySem.W.Frag} {C : Tbl} {w : Vw} {v : V} {ns : List Int} (r : RD K C w v (.tup (ns.map .int))) : TupI K w.H v ns := by
  generalize e : D.tup (ns.map D.int) = d at r
  cases r with
  | tup x h r =>
    cases e
    refine ⟨_, rfl, .inl (.inl ?_)⟩
    have e2 : ∀ {vs : List V} {ns : List Int}, RL K C w vs (ns.map D.int) → vs = ns.map V.int := by
      intro vs ns
      induction ns generalizing vs with
      | nil => intro r; cases r; rfl
      | cons n ns ih => intro r; cases r with | cons a b => cases a; rw [ih b]; rfl
    rw [← e2 r]
    exact h
  | _ => cases e
theorem oc_sortT {K : PySem.W.Frag} {C : Tbl} {g : Gw} {L : Lk} : ClN K C g L (rSortTA K) oSortT := by
  intro kw io O H σ sd s xs vs Qd Q S rx h k
  unfold oSortT at h
  split at h
  · obtain ⟨v, rfl, ry⟩ := rx.one
    split at h
    · rename_i ds e
      obtain ⟨h64, n, B, hn, hB, q⟩ := h
      obtain ⟨a, ws, rfl, hs, r⟩ := ry.seqL S (.inl (ry.unlk S e (by intro _ z; cases z) (by intro _ z; cases z)))
      refine ⟨n, B, hn, a, ws, rfl, hs, by rw [r.length]; exact h64, fun x hx => ?_, fun ys p hp _ hf => ?_⟩
      · obtain ⟨i, hi⟩ := List.getElem?_of_mem hx
        obtain ⟨d, hd, rd⟩ := r.getV hi
        obtain ⟨ns, rfl, h1, h2⟩ := hB d (List.mem_of_getElem? hd)
        exact ⟨ns, rd.tupI, h1, h2⟩
      · obtain ⟨es, h1, h2⟩ := Paired.perm hp r.paired
        obtain ⟨S2, T2, hn2⟩ := S.newRes (ho := .lst ys) hf
        exact k _ s io _ p _ (q es h1) S2 T2 hn2 upd_same (by intro _ _ z; cases z) (.lst ((RL.of_paired h2).grow T2.gr))
    · exact h.elim
  · exact h.elim
end G
namespace G
open L2
/-- [f a for a in .. if p a], item by item, over a list of any kind -/
theorem lc_filterTo {src : Store → Prop} {dg : DTg} {dt : DT} {de : DE} {σ : DSt} {s : Store} {Q : List D → Store → Prop} {α : Type} (g : α → D) (p : α → Bool) (f : α → D) (hs : src s) (ds : List α) {r : List D} (e : (ds.filter p).map f = r) (hl : ds.length < lim)
    (h : ∀ a ∈ ds, ∀ (Ky : D → Store → Prop) (Kn : Store → Prop), (p a = true → Ky (f a) s) → (p a = false → Kn s) → dg (g a) σ s fun σ' s1 => dt σ' s1 fun b s2 => if b = true then de σ' s2 Ky else Kn s2) (q : Q r s) : lcD src dg dt de σ (ds.map g) [] s Q := by
  have go : ∀ (ds : List α) (acc : List D), acc.length + ds.length < lim → (∀ a ∈ ds, ∀ (Ky : D → Store → Prop) (Kn : Store → Prop), (p a = true → Ky (f a) s) → (p a = false → Kn s) → dg (g a) σ s fun σ' s1 => dt σ' s1 fun b s2 => if b = true then de σ' s2 Ky else Kn s2) →
      Q (acc ++ (ds.filter p).map f) s → lcD src dg dt de σ (ds.map g) acc s Q := by
    intro ds
    induction ds with
    | nil => intro acc _ _ q; exact ⟨hs, by simpa using q⟩
    | cons d r ih =>
      intro acc hl h q
      rw [List.length_cons] at hl
      refine ⟨hs, h d List.mem_cons_self _ _ (fun k => ?_) fun k => ?_⟩
      · refine ⟨by omega, ih _ (by simp; omega) (fun d hd => h d (List.mem_cons_of_mem _ hd)) ?_⟩
        rw [List.filter_cons_of_pos k] at q
        simpa using q
      · refine ih _ (by omega) (fun d hd => h d (List.mem_cons_of_mem _ hd)) ?_
        rw [List.filter_cons_of_neg (by rw [k]; decide)] at q
        exact q
  exact go ds [] (by simpa using hl) h (by simpa [e] using q)
end G
namespace G
open PySem L2
/-! methods that only read: o.m(..) -/
def tyR (T : String) : D → Bool
  | .lst _ => T == "list"
  | .ro _ => T == "list"
  | .str _ => T == "str"
  | _ => false
abbrev DRm := Sl → List D → Store → DK → Prop
def dRm (T : String) (f : DRm) (o : DP) (a : DA) : DE := fun σ s Q => o σ s fun x s1 => tyR T (deref s1 x) = true ∧ a σ s1 fun ds s2 => f x ds s2 Q
section
variable {K : PySem.W.Frag} {C : Tbl} {g : Gw} {L : Lk}
def RmG (K : PySem.W.Frag) (C : Tbl) (g : Gw) (L : Lk) (r : V → List V → Hp → VK → Prop) (f : DRm) : Prop :=
  ∀ kw io O H σ sd s x ds v vs Qd Q, StOk K C g L kw io O H σ sd s → RSl K C (vw g io O H) O v x → RL K C (vw g io O H) vs ds → f x ds s Qd →
    (∀ d s' io' H' z, Qd d s' → StOk K C g L kw io' O H' σ sd s' → Stp g io O H io' O H' → RD K C (vw g io' O H') z d → Q z H') → r v vs H Q
def RmN (K : PySem.W.Frag) (C : Tbl) (g : Gw) (L : Lk) (r : V → List V → Hp → VK → Prop) (f : DRm) : Prop :=
  ∀ kw io O H σ sd s x ds v vs Qd Q, StOk K C g L kw io O H σ sd s → RSl K C (vw g io O H) O v x → RL K C (vw g io O H) vs ds → f x ds s Qd →
    (∀ d s' io' H' p ho, Qd d s' → StOk K C g L kw io' (ores O p) H' σ sd s' → Stp g io O H io' (ores O p) H' → ¬ O p → H' p = some ho → (∀ od u, ho ≠ .frz od u) → RC K C (vw g io' (ores O p) H') ho d → Q (.ref p) H') → r v vs H Q
theorem tyR_ty {kw : Vw} {io : List Addr} {O : Addr → Prop} {H : Hp} {σ : St} {sd : DSt} {s : Store} {T : String} {v : V} {x : Sl} (S : StOk K C g L kw io O H σ sd s) (r : RSl K C (vw g io O H) O v x) (h : tyR T (deref s x) = true) : tyV K T v H := by
  cases e : deref s x with
  | lst ds =>
    rw [e] at h
    obtain ⟨a, ws, rfl, hs, _⟩ := r.seqL S (.inl e)
    exact .inl ⟨by simpa [tyR] using h, _, hs⟩
  | ro ds =>
    rw [e] at h
    obtain ⟨a, ws, rfl, hs, _⟩ := r.seqL S (.inr e)
    exact .inl ⟨by simpa [tyR] using h, _, hs⟩
  | str z =>
    rw [e] at h
    rcases r.deref S with q | ⟨a, ho, _, _, q⟩
    · rw [e] at q
      cases q
      show T = "str"
      simpa [tyR] using h
    · rw [e] at q
      cases q
  | _ => rw [e] at h; cases h
theorem l_rm {T : String} {f : DRm} {r : V → List V → Hp → VK → Prop} {o : DP} {a : DA} (hf : RmG K C g L r f) (σ : L2.St) (H : Hp) (Q : VK) (h : LE K C g L (dRm T f o a) σ H Q) : tBM K T r (LP K C g L o) (LA K C g L a) σ H Q := by
  obtain ⟨kw, io, O, sd, s, Qd, S, h, k⟩ := h
  refine ⟨kw, io, O, sd, s, _, S, h, fun x s1 io1 H1 v q1 S1 T1 r1 => ⟨tyR_ty S1 r1 q1.1, kw, io1, O, sd, s1, _, S1, q1.2, fun ds s2 io2 H2 vs q2 S2 T2 r2 => ?_⟩⟩
  exact hf kw io2 O H2 σ sd s2 x ds v vs Qd Q S2 (r1.grow T2.gr T2.ow) r2 q2 fun d s' io' H' z q3 S3 T3 => k d s' io' H' z q3 S3 ((T1.trans T2).trans T3)
theorem l_rmN {T : String} {f : DRm} {r : V → List V → Hp → VK → Prop} {o : DP} {a : DA} (hf : RmN K C g L r f) (σ : L2.St) (H : Hp) (Q : VK) (h : LO K C g L (dRm T f o a) σ H Q) : tBM K T r (LP K C g L o) (LA K C g L a) σ H Q := by
  obtain ⟨kw, io, O, sd, s, Qd, S, h, k⟩ := h
  refine ⟨kw, io, O, sd, s, _, S, h, fun x s1 io1 H1 v q1 S1 T1 r1 => ⟨tyR_ty S1 r1 q1.1, kw, io1, O, sd, s1, _, S1, q1.2, fun ds s2 io2 H2 vs q2 S2 T2 r2 => ?_⟩⟩
  exact hf kw io2 O H2 σ sd s2 x ds v vs Qd Q S2 (r1.grow T2.gr T2.ow) r2 q2 fun d s' io' H' p ho q3 S3 T3 => k d s' io' H' p ho q3 S3 ((T1.trans T2).trans T3)
end
section
variable {X : Cx} {C : Tbl} {g : Gw} {L : Lk}
theorem g_rm {T : String} {f : DRm} {r : V → List V → Hp → VK → Prop} {o : DP} {a : DA} {e : Expr} (hf : RmG X.K C g L r f) (h : PE X e (tBM X.K T r (LP X.K C g L o) (LA X.K C g L a))) : PE X e (LE X.K C g L (dRm T f o a)) := h.imp fun σ H Q q => l_rm hf σ H Q q
theorem g_rmN {T : String} {f : DRm} {r : V → List V → Hp → VK → Prop} {o : DP} {a : DA} {e : Expr} (hf : RmN X.K C g L r f) (h : PE X e (tBM X.K T r (LP X.K C g L o) (LA X.K C g L a))) : PE X e (LO X.K C g L (dRm T f o a)) := h.imp fun σ H Q q => l_rmN hf σ H Q q
end
/-! xs.index(x), x there -/
def rmIndex : DRm := fun x ds s Q => match deref s x, ds with
  | .lst es, [d] => okEs 30 es = true ∧ okE 30 d = true ∧ ∃ j z, es[j]? = some z ∧ eqD z d = true ∧ (∀ m z', m < j → es[m]? = some z' → eqD z' d = false) ∧ Q (.int (j : Nat)) s
  | _, _ => False
theorem pyDs_get : ∀ (ds : List D) (j : Nat), (pyDs ds)[j]? = (ds[j]?).map pyD
  | [], j => by rw [show pyDs [] = [] from rfl]; simp
  | d :: ds, 0 => rfl
  | d :: ds, j + 1 => by
    show (pyD d :: pyDs ds)[j + 1]? = _
    rw [List.getElem?_cons_succ, List.getElem?_cons_succ, pyDs_get ds j]
theorem rg_index {K : PySem.W.Frag} {C : Tbl} {g : Gw} {L : Lk} : RmG K C g L (rIndexD K) rmIndex := by
  intro kw io O H σ sd s x ds v vs Qd Q S rx rv h k
  unfold rmIndex at h
  split at h
  · rename_i es d e
    obtain ⟨h1, h2, j, z, hz, hq, hno, q⟩ := h
    obtain ⟨a, ws, rfl, _, _⟩ := rx.seqL S (.inl e)
    have c3 : okE 31 (deref s x) = true := by rw [e]; exact h1
    have d1 := rx.dp S c3
    have sh := okE_shaped c3 (by decide)
    rw [e] at d1 sh
    cases rv with
    | cons ry t =>
      cases t
      rename_i y
      have dy : Dp K H y (pyD d) := RD.dp 30 _ _ h2 ry
      refine ⟨a, y, pyD d, pyDs es, j, pyD z, rfl, rfl, d1, dy, sh, okE_shaped h2 (by decide), ?_, hq, fun m z' hm hz' => ?_, k _ s io H _ q S (Stp.refl ..) (.int _)⟩
      · rw [pyDs_get, hz]; rfl
      · rw [pyDs_get] at hz'
        obtain ⟨w, hw, rfl⟩ := Option.map_eq_some_iff.mp hz'
        exact hno m w hm hw
  · exact h.elim
end G
namespace G
open L2 PyProof.Rows PySem PySem.Spec PySem.Calls SrtO
/-! min(xs, key=f): f a def of the program that tells two whole numbers -/
theorem _root_.L2.FpOk.more {X : Cx} {pins ps : List (Addr × Obj)} {H H' : Hp} {b : Addr} (h : FpOk X pins H b) (hn : H' b = none) (hm : ∀ p ∈ ps, p.1 ≠ b) : FpOk X (pins ++ ps) H' b :=
  ⟨hn, h.2.1, h.2.2.1, h.2.2.2.1, h.2.2.2.2.1, fun p hp => by
    rw [← List.append_assoc] at hp
    exact ((List.mem_append).1 hp).elim (h.2.2.2.2.2 p) (hm p)⟩
section
variable {X : Cx} {k : Nat} {f : Addr} {fd : FuncData} {ps : List Str} {sp : Sp}
/-- f called one storey within -/
theorem call_in1 {pins : List (Addr × Obj)} {s : Shared} {σ : L2.St} {H : Hp} {u : Value} {x : V} {Q : VK} {E : Value → Shared → Prop} (F : FnOk X.prog X.w X.K X.mg X.base (L2.CX X.prog X.w) k f fd ps sp) (hr : Room k X.A.in1) (hb : Binds X.K fd ps []) (I : Inv X pins σ H s) (r : RelV x u)
    (h : sp [x] H Q fun _ _ _ => False) : wpAny (model X.prog X.w) X.A.in1 (call (.ref f) [u]) (EP X pins σ Q) E s := by
  have two : Vals [x] [u] := .cons r .nil
  have len : ([u] ++ []).length = ps.length := F.len _ _ _ _ h
  have go := F.run X.A.in1 X.stack s H ⟨[u], []⟩ [u] [x] Q (fun _ _ _ => False) hr I.env0.in1 (hb s [u] I.kIn len) two h
  refine wpAny_call (codeAny_mono go fun r s' hq => ?_)
  match r, hq with
  | .ok .next, hq => exact hq.elim
  | .ok .brk, hq => exact hq.elim
  | .ok .cont, hq => exact hq.elim
  | .ok (.ret v), hq => exact I.after hq
  | .error e, hq =>
    obtain ⟨_, _, _, _, _, _, _, _, _, _, _, _, z⟩ := hq
    exact z.elim
variable {pins : List (Addr × Obj)} {σ : L2.St} {l I S : Addr} {xs : List V} {kz : List (Int × Int)} {J : List V → Hp → Prop} {P : Result → Shared → Prop}
theorem minK_go (F : FnOk X.prog X.w X.K X.mg X.base (L2.CX X.prog X.w) k f fd ps sp) (hr : Room k X.A.in1) (hb : Binds X.K fd ps []) (hh : X.A.in1.handled = none) (hu : X.A.in1.units + 1 < cLine)
    (nl : l ≠ I) (nS : S ≠ I) (fI : FpOk X pins (fun _ => none) I) (fS : FpOk X pins (fun _ => none) S) (ekz : kz.length = xs.length)
    (js : ∀ ks H', J ks H' → SqL X.K H' l xs) (jn : ∀ ks x H', xs[ks.length]? = some x → J ks H' → sp [x] H' (fun y H2 => J (ks ++ [y]) H2) fun _ _ _ => False)
    (jk : ∀ ks H' (i : Nat) y, J ks H' → ks[i]? = some y → ∃ q, kz[i]? = some q ∧ Dp X.K H' y (pyP q.1 q.2))
    (hP : ∀ ks H' (b : Nat) x v s' q, ks.length = xs.length → J ks H' → xs[b]? = some x → RelV x v → kz[b]? = some q → (∀ (m : Nat) q', kz[m]? = some q' → lexB q' q = false) → Inv X pins σ H' s' → P (.ok (.ret v)) s') :
    ∀ (r j b : Nat) (ks : List V) (H' : Hp) (s : Shared) (vb kb : Value) (c : Nat) (oI : Obj) (x y : V) (q : Int × Int), xs.length - (j + 1) = r → j + 1 ≤ xs.length → ks.length = j + 1 → J ks H' → Inv X (pins ++ [(S, seqObj "list" #[vb, kb] c), (I, oI)]) σ H' s →
      (∀ h : Heap, h.get? I = some oI → h.IsListIter I l (j + 1)) → xs[b]? = some x → RelV x vb → ks[b]? = some y → RelV y kb → kz[b]? = some q → (∀ (m : Nat) q', m ≤ j → kz[m]? = some q' → lexB q' q = false) →
      codeAny (model X.prog X.w) X.A (.builtin "min.loop" ⟨[.ref I, .ref f, .ref S], []⟩) P s := by
  have named : (toString "min" ++ toString ".loop" : String) = "min.loop" := by decide
  intro r
  induction r with
  | zero =>
    intro j b ks H' s vb kb c oI x y q hk hj hl hJ I0 hit hx rx hy ry hq low
    have pS := I0.pin (S, seqObj "list" #[vb, kb] c) (List.mem_append_right _ (List.mem_append_right _ (.head _)))
    have pI := I0.pin (I, oI) (List.mem_append_right _ (List.mem_append_right _ (.tail _ (.head _))))
    have hIl := I0.list (js _ _ hJ)
    obtain ⟨its, rv, il, hz⟩ := hIl
    have lv := rv.length
    have wk := Walks.list (prog := X.prog) (w := X.w) (A := X.A.in1) hh I l nl its.toArray
    have sz : its.toArray.size = j + 1 := by rw [List.size_toArray]; omega
    have I1 : Inv X pins σ H' s := I0.pins_of fun p hp => I0.pin p (List.mem_append_right _ (List.mem_append_left _ hp))
    refine codeAny_builtin (b := _) PySem.F.entry_min_loop ?_
    rw [(Around.under_plainId PySem.F.plain_min_loop _ : _ = X.A.in1)]
    show wpAny _ X.A.in1 (seqItems? (.ref S) >>= _) _ _ _
    refine wpAny_bind (wpAny_seqItems pS.1 rfl ?_)
    show wpAny _ X.A.in1 (tryCatch (pyNext (.ref I)) _ >>= _) _ _ _
    refine wpAny_bind (wpAny_tryCatch (wk.done s _ _ ⟨by rw [sz]; exact hit _ pI.1, il.isList⟩ fun h' tk' keep => ?_))
    have gS := keep S _ (by simpa using nS) pS.1
    have same := Heap.SameBut.update h' S (Obj.mapSeq fun _ => (#[] : Array Value))
    show wpAny _ X.A.in1 (updateSeq S (fun _ => #[]) >>= _) _ _ _
    refine wpAny_bind (wpAny_updateSeq gS rfl (wpAny_bind (wpAny_letGo (wpAny_pure ?_))))
    refine hP ks H' b x vb _ q (by omega) hJ hx rx hq (fun m q' hm => low m q' ?_ hm) ?_
    · have := (List.getElem?_eq_some_iff.mp hm).1
      omega
    · refine show Inv X pins σ H' { s with heap := h'.update S (Obj.mapSeq fun _ => (#[] : Array Value)), toks := tk' } from I1.turnedL (h' := h'.update S (Obj.mapSeq fun _ => (#[] : Array Value))) (ch := [I, S]) (t' := tk') (fun b o hb ho => ?_) fun b hb => ?_
      · simp only [List.mem_cons, List.not_mem_nil, or_false, not_or] at hb
        exact (same.2 b hb.2).trans (keep b o (by simpa using hb.1) ho)
      · simp only [List.mem_cons, List.not_mem_nil, or_false] at hb
        rcases hb with rfl | rfl
        · have := fI.more (ps := []) (H' := H') pI.2.1 (by simp)
          rwa [List.append_nil] at this
        · have := fS.more (ps := []) (H' := H') pS.2.1 (by simp)
          rwa [List.append_nil] at this
  | succ r ih =>
    intro j b ks H' s vb kb c oI x y q hk hj hl hJ I0 hit hx rx hy ry hq low
    have pS := I0.pin (S, seqObj "list" #[vb, kb] c) (List.mem_append_right _ (List.mem_append_right _ (.head _)))
    have pI := I0.pin (I, oI) (List.mem_append_right _ (List.mem_append_right _ (.tail _ (.head _))))
    have hIl := I0.list (js _ _ hJ)
    obtain ⟨its, rv, il, hz⟩ := hIl
    have lv := rv.length
    have wk := Walks.list (prog := X.prog) (w := X.w) (A := X.A.in1) hh I l nl its.toArray
    have sz : its.toArray.size = its.length := List.size_toArray ..
    refine codeAny_builtin (b := _) PySem.F.entry_min_loop ?_
    rw [(Around.under_plainId PySem.F.plain_min_loop _ : _ = X.A.in1)]
    show wpAny _ X.A.in1 (seqItems? (.ref S) >>= _) _ _ _
    refine wpAny_bind (wpAny_seqItems pS.1 rfl ?_)
    show wpAny _ X.A.in1 (tryCatch (pyNext (.ref I)) _ >>= _) _ _ _
    refine wpAny_bind (wpAny_tryCatch (wk.item (j + 1) s _ _ (by omega) ⟨hit _ pI.1, il.isList⟩ fun v h' tk' hv st keep => ?_))
    have hv : its[j + 1]? = some v := by simpa using hv
    obtain ⟨xj, hxj⟩ : ∃ xj, xs[j + 1]? = some xj := ⟨_, List.getElem?_eq_getElem (by omega)⟩
    obtain ⟨v', hv', rxj⟩ := rv.get hxj
    rw [hv] at hv'
    cases hv'
    obtain ⟨oI', gI, oc, od⟩ := id st.1
    have gS := keep S _ (by simpa using nS) pS.1
    have I1 : Inv X (pins ++ [(S, seqObj "list" #[vb, kb] c), (I, oI')]) σ H' { s with heap := h', toks := tk' } := by
      have a1 : Inv X (pins ++ [(S, seqObj "list" #[vb, kb] c)]) σ H' s := I0.pins_of fun p hp => I0.pin p (List.mem_append_right _ (by
        rcases (List.mem_append).1 hp with hp | hp
        · exact List.mem_append_left _ hp
        · rw [List.mem_singleton.mp hp]; exact List.mem_append_right _ (.head _)))
      have a2 := a1.turnedL (h' := h') (ch := [I]) (t' := tk') keep fun b hb => by
        rw [List.mem_singleton.mp hb]
        exact fI.more pI.2.1 fun p hp => by rw [List.mem_singleton.mp hp]; exact nS
      refine a2.pins_of fun p hp => ?_
      rcases (List.mem_append).1 hp with hp | hp
      · exact a2.pin p (List.mem_append_right _ (List.mem_append_left _ hp))
      · simp only [List.mem_cons, List.not_mem_nil, or_false] at hp
        rcases hp with rfl | rfl
        · exact a2.pin _ (List.mem_append_right _ (List.mem_append_right _ (.head _)))
        · exact ⟨gI, pI.2.1, fI.2.1, fI.2.2.1, fun v z => by rw [od] at z; cases z⟩
    have it' : ∀ h : Heap, h.get? I = some oI' → h.IsListIter I l (j + 1 + 1) := fun h e => ⟨oI', e, oc, od⟩
    show wpAny _ X.A.in1 (tryCatch (holding [v] (call (.ref f) [v])) _ >>= _) _ _ _
    refine wpAny_bind (wpAny_tryCatch (wpAny_holding (wpAny_mono (call_in1 F hr hb I1 rxj (jn ks xj H' (by rw [hl]; exact hxj) hJ)) (fun kv s2 hv2 => ?_) fun _ _ z => z)))
    obtain ⟨yk, H2, I2, r2, J2⟩ := hv2
    have pS2 := I2.pin (S, seqObj "list" #[vb, kb] c) (List.mem_append_right _ (List.mem_append_right _ (.head _)))
    have pI2 := I2.pin (I, oI') (List.mem_append_right _ (List.mem_append_right _ (.tail _ (.head _))))
    have gk : (ks ++ [yk])[j + 1]? = some yk := by rw [← hl, List.getElem?_append_right (Nat.le_refl _), Nat.sub_self]; rfl
    have hbk : b < ks.length := (List.getElem?_eq_some_iff.mp hy).1
    have gb : (ks ++ [yk])[b]? = some y := by rw [List.getElem?_append_left hbk]; exact hy
    obtain ⟨qk, hqk, dk⟩ := jk _ _ _ _ J2 gk
    obtain ⟨qb, hqb, db⟩ := jk _ _ _ _ J2 gb
    rw [hq] at hqb
    cases hqb
    obtain ⟨as1, rd1⟩ := Dp.reads I2 _ yk kv dk r2
    obtain ⟨as2, rd2⟩ := Dp.reads I2 _ y kb db ry
    show wpAny _ X.A.in1 (tryCatch (holding [v, kv] (richCompare .Lt kv kb >>= _)) _ >>= _) _ _ _
    refine wpAny_bind (wpAny_tryCatch (wpAny_holding (wpAny_bind (PySem.W.rcLt_alike (pyP qk.1 qk.2) (pyP q.1 q.2) X.A.in1 s2 kv kb as1 as2 rd1 rd2 rfl (by intro z; cases z) ?_ X.prog X.w _ _ ?_))))
    · have : (pyP qk.1 qk.2).depth = 1 := rfl
      rw [this]
      have := Nat.min_le_left 1 (pyP q.1 q.2).depth
      omega
    refine wpAny_bind (wpAny_holding (wpAny_truthy_bool (wpAny_bind (wpAny_letGo (wpAny_pure ?_)))))
    rw [lt_pair]
    cases less : lexB (qk.1, qk.2) (q.1, q.2) with
    | true =>
      simp only [if_true]
      have same := Heap.SameBut.update s2.heap S (Obj.mapSeq fun _ => (#[v, kv] : Array Value))
      obtain ⟨c2, hc2⟩ : ∃ c2, (s2.heap.update S (Obj.mapSeq fun _ => (#[v, kv] : Array Value))).get? S = some (seqObj "list" #[v, kv] c2) := ⟨_, get?_update_seq pS2.1 fun _ => #[v, kv]⟩
      refine wpAny_bind (wpAny_updateSeq pS2.1 rfl (wpAny_bind (wpAny_letGo ?_)))
      rw [named]
      refine wpAny_pure ⟨plainId_quiet PySem.F.plain_min_loop _, ih (j + 1) (j + 1) (ks ++ [yk]) H2 _ v kv c2 oI' xj yk qk (by omega) (by omega) (by simp [hl]) J2 ?_ it' hxj rxj gk r2 hqk fun m q' hm hq' => ?_⟩
      · have a1 : Inv X (pins ++ [(I, oI')]) σ H2 s2 := I2.pins_of fun p hp => I2.pin p (List.mem_append_right _ (by
          rcases (List.mem_append).1 hp with hp | hp
          · exact List.mem_append_left _ hp
          · rw [List.mem_singleton.mp hp]; exact List.mem_append_right _ (.tail _ (.head _))))
        have a2 := a1.turnedL (h' := s2.heap.update S (Obj.mapSeq fun _ => (#[v, kv] : Array Value))) (ch := [S]) (t' := s2.toks) (fun b o hb ho => (same.2 b (by simpa using hb)).trans ho) fun b hb => by
          rw [List.mem_singleton.mp hb]
          exact fS.more pS2.2.1 fun p hp => by rw [List.mem_singleton.mp hp]; exact nS.symm
        refine a2.pins_of fun p hp => ?_
        rcases (List.mem_append).1 hp with hp | hp
        · exact a2.pin p (List.mem_append_right _ (List.mem_append_left _ hp))
        · simp only [List.mem_cons, List.not_mem_nil, or_false] at hp
          rcases hp with rfl | rfl
          · exact ⟨hc2, pS2.2.1, fS.2.1, fS.2.2.1, fun v z => by cases z⟩
          · exact a2.pin _ (List.mem_append_right _ (List.mem_append_right _ (.head _)))
      · have less : lexB qk q = true := less
        by_cases e : m = j + 1
        · rw [e, hqk] at hq'
          cases hq'
          exact (lex_swo id).refl qk
        · exact (lex_swo id).tr _ _ _ ((lex_swo id).asym qk q less) (low m q' (by omega) hq')
    | false =>
      simp only [if_false, Bool.false_eq_true]
      refine wpAny_bind (m := letGo _) (wpAny_letGo ?_)
      rw [named]
      refine wpAny_pure ⟨plainId_quiet PySem.F.plain_min_loop _, ih (j + 1) b (ks ++ [yk]) H2 _ vb kb c oI' x y q (by omega) (by omega) (by simp [hl]) J2 I2 it' hx rx gb ry hq fun m q' hm hq' => ?_⟩
      by_cases e : m = j + 1
      · rw [e, hqk] at hq'
        cases hq'
        exact less
      · exact low m q' (by omega) hq'
def rMinKF (K : PySem.W.Frag) (sp : Sp) : List V → Hp → VK → Prop := fun vs H Q => ∃ (a : Addr) (xs : List V) (kz : List (Int × Int)) (J : List V → Hp → Prop), vs = [V.ref a] ∧ 0 < xs.length ∧ kz.length = xs.length ∧ J [] H ∧ (∀ ks H', J ks H' → SqL K H' a xs) ∧
  (∀ ks x H', xs[ks.length]? = some x → J ks H' → sp [x] H' (fun y H2 => J (ks ++ [y]) H2) fun _ _ _ => False) ∧ (∀ ks H' (i : Nat) y, J ks H' → ks[i]? = some y → ∃ q, kz[i]? = some q ∧ Dp K H' y (pyP q.1 q.2)) ∧
  ∀ ks H' (b : Nat) x q, ks.length = xs.length → J ks H' → xs[b]? = some x → kz[b]? = some q → (∀ (m : Nat) q', kz[m]? = some q' → lexB q' q = false) → Q x H'
theorem cr_minKF (hc : X.calm = true) (F : FnOk X.prog X.w X.K X.mg X.base (L2.CX X.prog X.w) k f fd ps sp) (hr : Room (k + 1) X.A) (hb : Binds X.K fd ps []) : CallRK X (.builtin "min") [Str.ofString "key"] fun vs zs H Q => zs = [.ref f] ∧ rMinKF X.K sp vs H Q := by
  intro pins s σ H xs0 zs us ws Q I r rz qq
  obtain ⟨rfl, l, xs, kz, J, rfl, pos, ekz, j0, js, jn, jk, je⟩ := qq
  obtain rfl := Vals.ref1 r
  obtain ⟨wv, rfl, ew⟩ := vals1 rz
  obtain rfl : wv = Value.ref f := ew
  have hIl := I.list (js _ _ j0)
  obtain ⟨its, rv, il, hz⟩ := hIl
  have lv := rv.length
  have hh : X.A.in1.handled = none := I.ok.hd hc
  have hu : X.A.in1.units + 1 < cLine := by
    have := hr.un
    show X.A.units + 1 + 1 < cLine
    omega
  have named : (toString "min" ++ toString ".loop" : String) = "min.loop" := by decide
  refine kmk_tree PySem.F.kind_min PySem.F.plain_min PySem.F.entry_min (kmk_min_key (.ref l) (.ref f)) ?_
  show wpAny _ X.A.in1 (Builtin.Builtins.bindParams "min" ["key", "default"] 0 ⟨[], [(Str.ofString "key", .ref f)]⟩ >>= _) _ _ _
  refine wpAny_bind (wpAny_of_eq (show Builtin.Builtins.bindParams "min" ["key", "default"] 0 ⟨[], [(Str.ofString "key", .ref f)]⟩ = pure [some (.ref f), none] from rfl) ?_)
  refine wpAny_bind (wpAny_pure (wpAny_bind (wpAny_pyIter_list il.isList (wpAny_bind (wpAny_newList ?_ (Nat.zero_le _))))))
  rw [named]
  have hll : l < s.heap.objs.size := by obtain ⟨_, e, _⟩ := il.isList; exact Heap.lt_size e
  obtain ⟨oI, eo⟩ : ∃ oI : Obj, oI = { cls := .type "list_iterator", data := .fields #[.ref l, .int 0 0] } := ⟨_, rfl⟩
  rw [← eo]
  have hS : (s.heap.push oI).objs.size = s.heap.objs.size + 1 := size_push' ..
  show wpAny (model X.prog X.w) X.A.in1 (pure (Fin.again (.builtin "min.loop" ⟨[.ref s.heap.objs.size, .ref f, .ref (s.heap.push oI).objs.size], []⟩))) _ _ { s with heap := (s.heap.push oI).push (seqObj "list" #[] 0) }
  obtain ⟨i, ei⟩ : ∃ i, i = s.heap.objs.size := ⟨_, rfl⟩
  obtain ⟨z, ez⟩ : ∃ z, z = (s.heap.push oI).objs.size := ⟨_, rfl⟩
  rw [← ez, ← ei]
  have ezi : z = i + 1 := by rw [ez, ei, hS]
  have gI : ((s.heap.push oI).push (seqObj "list" #[] 0)).get? i = some oI := Heap.get?_push_of_some _ (by rw [ei]; exact Heap.get?_push_size _ (by rw [eo]; rfl))
  have gS : ((s.heap.push oI).push (seqObj "list" #[] 0)).get? z = some (seqObj "list" #[] 0) := by rw [ez]; exact Heap.get?_push_size _ rfl
  have keep0 : ∀ b u, s.heap.get? b = some u → ((s.heap.push oI).push (seqObj "list" #[] 0)).get? b = some u := fun b u e => Heap.get?_push_of_some _ (Heap.get?_push_of_some _ e)
  generalize (s.heap.push oI).push (seqObj "list" #[] 0) = h1 at gI gS keep0 ⊢
  have I0 : Inv X pins σ H { s with heap := h1 } := I.kept keep0
  have fI : FpOk X pins (fun _ => none) i := I.fpOk (by omega) rfl
  have fS : FpOk X pins (fun _ => none) z := I.fpOk (by omega) rfl
  have nI : H i = none := I.hok.fresh (by omega)
  have nZ : H z = none := I.hok.fresh (by omega)
  have nS : z ≠ i := by omega
  have nl : l ≠ i := fun e => by rw [e, ei] at hll; exact Nat.lt_irrefl _ hll
  have il1 : h1.IsList l its.toArray := il.isList.at fun o e => keep0 _ o e
  have it0 : h1.IsListIter i l 0 := ⟨oI, gI, by rw [eo], by rw [eo]; rfl⟩
  have wk := Walks.list (prog := X.prog) (w := X.w) (A := X.A.in1) hh i l nl its.toArray
  have sz : its.toArray.size = its.length := List.size_toArray ..
  refine wpAny_pure ⟨plainId_quiet PySem.F.plain_min_loop _, codeAny_builtin PySem.F.entry_min_loop ?_⟩
  rw [(Around.under_plainId PySem.F.plain_min_loop _ : _ = X.A.in1)]
  show wpAny _ X.A.in1 (seqItems? (.ref z) >>= _) _ _ _
  refine wpAny_bind (wpAny_seqItems (a := z) gS rfl ?_)
  show wpAny _ X.A.in1 (tryCatch (pyNext (.ref i)) _ >>= _) _ _ _
  refine wpAny_bind (wpAny_tryCatch (wk.item 0 _ _ _ (by omega) ⟨it0, il1⟩ fun v h' tk' hv st keep => ?_))
  have hv : its[0]? = some v := by simpa using hv
  obtain ⟨x0, hx0⟩ : ∃ x0, xs[0]? = some x0 := ⟨_, List.getElem?_eq_getElem pos⟩
  obtain ⟨v', hv', rx0⟩ := rv.get hx0
  rw [hv] at hv'
  cases hv'
  obtain ⟨oJ, gJ, oc, od⟩ := id st.1
  have gS2 := keep z _ (by simpa using nS) gS
  have I1 : Inv X (pins ++ [(z, seqObj "list" #[] 0), (i, oJ)]) σ H { s with heap := h', toks := tk' } := by
    have a2 := I0.turnedL (h' := h') (ch := [i]) (t' := tk') keep fun b hb => by
      rw [List.mem_singleton.mp hb]
      have := fI.more (ps := []) (H' := H) nI (by simp)
      rwa [List.append_nil] at this
    refine a2.pins_of fun p hp => ?_
    rcases (List.mem_append).1 hp with hp | hp
    · exact a2.pin p (List.mem_append_right _ hp)
    · simp only [List.mem_cons, List.not_mem_nil, or_false] at hp
      rcases hp with rfl | rfl
      · exact ⟨gS2, nZ, fS.2.1, fS.2.2.1, fun v z => by cases z⟩
      · exact ⟨gJ, nI, fI.2.1, fI.2.2.1, fun v z => by rw [od] at z; cases z⟩
  show wpAny _ X.A.in1 (tryCatch (holding [v] (call (.ref f) [v])) _ >>= _) _ _ _
  refine wpAny_bind (wpAny_tryCatch (wpAny_holding (wpAny_mono (call_in1 F hr.in1 hb I1 rx0 (jn [] x0 H hx0 j0)) (fun kv s2 hv2 => ?_) fun _ _ z => z)))
  obtain ⟨yk, H2, I2, r2, J2⟩ := hv2
  have pS2 := I2.pin (z, seqObj "list" #[] 0) (List.mem_append_right _ (List.mem_append_right _ (.head _)))
  have pI2 := I2.pin (i, oJ) (List.mem_append_right _ (List.mem_append_right _ (.tail _ (.head _))))
  obtain ⟨q0, hq0, _⟩ := jk _ _ 0 yk J2 rfl
  have same := Heap.SameBut.update s2.heap z (Obj.mapSeq fun _ => (#[v, kv] : Array Value))
  obtain ⟨c2, hc2⟩ : ∃ c2, (s2.heap.update z (Obj.mapSeq fun _ => (#[v, kv] : Array Value))).get? z = some (seqObj "list" #[v, kv] c2) := ⟨_, get?_update_seq pS2.1 fun _ => #[v, kv]⟩
  show wpAny _ X.A.in1 (updateSeq z (fun _ => #[v, kv]) >>= _) _ _ _
  refine wpAny_bind (wpAny_updateSeq pS2.1 rfl ?_)
  rw [named]
  refine wpAny_pure ⟨plainId_quiet PySem.F.plain_min_loop _, minK_go (P := fun r s' => match r with
      | .ok (.ret u) => EP X pins σ Q u s'
      | .ok _ => False
      | .error e => X.xe e s') F hr.in1 hb hh hu nl nS fI fS ekz js jn jk (fun ks H' b x v s' q e1 e2 e3 e4 e5 e6 e7 => ⟨x, H', e7, e4, je ks H' b x q e1 e2 e3 e5 e6⟩)
    (xs.length - 1) 0 0 [yk] H2 _ v kv c2 oJ x0 yk q0 (by omega) (by omega) rfl J2 ?_ (fun h e => ⟨oJ, e, oc, od⟩) hx0 rx0 rfl r2 hq0 fun m q' hm hq' => ?_⟩
  · have a1 : Inv X (pins ++ [(i, oJ)]) σ H2 s2 := I2.pins_of fun p hp => I2.pin p (List.mem_append_right _ (by
      rcases (List.mem_append).1 hp with hp | hp
      · exact List.mem_append_left _ hp
      · rw [List.mem_singleton.mp hp]; exact List.mem_append_right _ (.tail _ (.head _))))
    have a2 := a1.turnedL (h' := s2.heap.update z (Obj.mapSeq fun _ => (#[v, kv] : Array Value))) (ch := [z]) (t' := s2.toks) (fun b o hb ho => (same.2 b (by simpa using hb)).trans ho) fun b hb => by
      rw [List.mem_singleton.mp hb]
      exact fS.more pS2.2.1 fun p hp => by rw [List.mem_singleton.mp hp]; exact nS.symm
    refine a2.pins_of fun p hp => ?_
    rcases (List.mem_append).1 hp with hp | hp
    · exact a2.pin p (List.mem_append_right _ (List.mem_append_left _ hp))
    · simp only [List.mem_cons, List.not_mem_nil, or_false] at hp
      rcases hp with rfl | rfl
      · exact ⟨hc2, pS2.2.1, fS.2.1, fS.2.2.1, fun v z => by cases z⟩
      · exact a2.pin _ (List.mem_append_right _ (List.mem_append_right _ (.head _)))
  · have e : m = 0 := by omega
    rw [e, hq0] at hq'
    cases hq'
    exact (lex_swo id).refl q0
end
/-! .. over data -/
def oMinK (sp : DSp) : DCl := fun xs s Q => match xs with
  | [.v (.lst ds)] => 0 < ds.length ∧ ∃ kf : D → Int × Int, (∀ d ∈ ds, sp [d] s (fun r s' => s' = s ∧ frzS r = .tup [.int (kf d).1, .int (kf d).2]) fun _ _ => False) ∧ ∀ d ∈ ds, (∀ e ∈ ds, lexB (kf e) (kf d) = false) → Q d s
  | _ => False
theorem oc_minK {K : PySem.W.Frag} {C : Tbl} {g : Gw} {L : Lk} {sp : DSp} : ClG K C g L (rMinKF K (LF K C sp)) (oMinK sp) := by
  intro kw io O H σ sd s xs vs Qd Q S rx h k
  unfold oMinK at h
  split at h
  · rename_i ds
    obtain ⟨pos, kf, hk, q⟩ := h
    obtain ⟨v, rfl, ry⟩ := rx.one
    cases ry with
    | v ry =>
    cases ry with
    | @lst a ws _ hx hs r =>
    have lw := r.length
    refine ⟨a, ws, ds.map kf, fun ks H' => ∃ io', StOk K C g L kw io' O H' σ sd s ∧ Stp g io O H io' O H' ∧ RL K C (vw g io' O H') ks ((ds.take ks.length).map fun d => .tup [.int (kf d).1, .int (kf d).2]), rfl, by omega, by rw [List.length_map]; omega, ⟨io, S, Stp.refl .., .nil⟩, ?_, ?_, ?_, ?_⟩
    · rintro ks H' ⟨io', S1, T1, r1⟩
      exact .inl (.inl (T1.gr.eq hx hs rfl (by intro _ _ z; cases z)))
    · rintro ks x H' ex ⟨io', S1, T1, r1⟩
      obtain ⟨d, hd, rd⟩ := r.getV ex
      have hm : d ∈ ds := List.mem_of_getElem? hd
      refine (call_frz (W := fun _ _ _ => False) S1 (.cons (rd.grow T1.gr) .nil) (Qd := fun d' s' => s' = s ∧ d' = .tup [.int (kf d).1, .int (kf d).2]) (hk d hm) ?_).noE ?_
      · rintro d' s' io2 H2 v ⟨rfl, rfl⟩ S2 T2 r2
        refine ⟨io2, S2, T1.trans T2, ?_⟩
        have e1 : (ds.take (ks ++ [v]).length).map (fun d => D.tup [.int (kf d).1, .int (kf d).2]) = (ds.take ks.length).map (fun d => D.tup [.int (kf d).1, .int (kf d).2]) ++ [.tup [.int (kf d).1, .int (kf d).2]] := by
          rw [List.length_append, List.length_singleton, List.take_add_one]
          rw [hd]
          simp
        rw [e1]
        exact (r1.grow T2.gr).append (.cons r2 .nil)
      · rintro cls d H2 ⟨_, _, _, _, _, _, _, _, z⟩
        exact z
    · rintro ks H' i y ⟨io', S1, T1, r1⟩ hy
      obtain ⟨d, hd, rd⟩ := r1.getV hy
      rw [List.getElem?_map] at hd
      obtain ⟨e, he, rfl⟩ := Option.map_eq_some_iff.mp hd
      have he2 : ds[i]? = some e := by
        have hi := (List.getElem?_eq_some_iff.mp hy).1
        rw [List.getElem?_take, if_pos hi] at he
        exact he
      exact ⟨kf e, by rw [List.getElem?_map, he2]; rfl, rd.dpP⟩
    · rintro ks H' b x q0 hl ⟨io', S1, T1, r1⟩ ex hq low
      obtain ⟨d, hd, rd⟩ := r.getV ex
      rw [List.getElem?_map, hd] at hq
      cases hq
      refine k _ s io' H' x (q d (List.mem_of_getElem? hd) fun e he => ?_) S1 T1 (rd.grow T1.gr)
      obtain ⟨m, hm⟩ := List.getElem?_of_mem he
      exact low m (kf e) (by rw [List.getElem?_map, hm]; rfl)
  · exact h.elim
section
variable {X : Cx} {C : Tbl} {g : Gw} {L : Lk} {pos p p2 : Pos} {e : Expr} {es : List Expr} {k : Nat} {f : Addr} {fd : FuncData} {ps : List Str} {sp : DSp}
theorem g_minK {x y : Str} {dps : DPs} {kp : Pos} (hc : X.calm = true) (F : FnOk X.prog X.w X.K X.mg X.base (L2.CX X.prog X.w) k f fd ps (LF X.K C sp)) (hr : Room (k + 1) X.A) (hb : Binds X.K fd ps []) (hgy : Gl X y) (hmy : X.mg y = some (.ref f)) (hg : Gl X x) (hm : X.mg x = none) (hv : bootBuiltins x = some (.builtin "min")) (ha : PA X (e :: es) (LPs X.K C g L dps))
    (hdy : (y == ("__debug__" : Str)) = false := by decide) (hn : x ≠ "__name__" := by decide) (hdb : (x == ("__debug__" : Str)) = false := by decide)
    (he : backTo pos (starEach (e :: es) X.env) = (false, eval e X.env) :: backTo pos (starEach es X.env) := by rfl) (hpl : (backTo pos (starEach (e :: es) X.env)).any (·.1) = false := by rfl) :
    PE X (.Call (.Name x p) (e :: es) [⟨some "key", .Name y p2, kp⟩] pos) (LE X.K C g L (dBi (oMinK sp) dps)) :=
  (pe_callBK (cr_minKF hc F hr hb) hg hm hv ha (pk_cons (pe_glob (v := .ref f) hgy hmy rfl hdy) pk_nil) hn hdb he hpl).imp fun σ H Q q => by
    obtain ⟨kw, io, O, sd, s, Qd, S, hs, cont⟩ := l_bi oc_minK σ H Q q
    exact ⟨kw, io, O, sd, s, Qd, S, hs, fun xs s1 io1 H1 vs q1 S1 T1 r1 => ⟨rfl, cont xs s1 io1 H1 vs q1 S1 T1 r1⟩⟩
end
end G
namespace G
open PySem L2
/-- a while whose body is kept shut -/
theorem whileI {c : DT} {t : DS} {D : DEnds} {σ : DSt} {s : Store} (h : ∀ T, T = t → dWhile c T D σ s) : dWhile c t D σ s := h _ rfl
/-- a for whose body is kept shut -/
theorem forI {src : Store → Prop} {dg : DTg} {t : DS} {ds : List D} {D : DEnds} {σ : DSt} {s : Store} (h : ∀ T, T = t → loopD src dg T ds D σ s) : loopD src dg t ds D σ s := h _ rfl
end G
namespace G
open PySem L2
/-! ### try: body; except C: suite -/
section
variable {K : PySem.W.Frag} {C : Tbl} {g : Gw} {L : Lk} {kw kw' : Vw} {io io' : List Addr} {O O' : Addr → Prop} {H H' : Hp} {σ σ' : L2.St} {sd sd' : DSt} {s s' : Store}
/-- the ghost within a try's body: what stands at its start is anchored -/
abbrev gTry (g : Gw) (L : Lk) (io : List Addr) (O : Addr → Prop) (H : Hp) : Gw := ⟨g.B, g.io0, g.H0, vw g io O H, L⟩
theorem StOk.inTry (S : StOk K C g L kw io O H σ sd s) : StOk K C (gTry g L io O H) L kw io O H σ sd s :=
  ⟨S.nio, S.dj, S.bd, S.od, S.pre, S.fr, S.fz, S.lk, S.ce, S.sl, S.kp, ⟨Grow.refl _, [], rfl, fun _ z => (nomatch z)⟩, ⟨S.tb.tb, S.tb.b, S.tb.xo, S.tb.xb⟩⟩
theorem StOk.offTry (S : StOk K C g L kw io O H σ sd s) (S' : StOk K C (gTry g L io O H) L kw' io' O' H' σ' sd' s') : StOk K C g L kw io' O' H' σ' sd' s' :=
  ⟨S'.nio, S'.dj, S'.bd, S'.od, S'.pre, S'.fr, S'.fz, S'.lk, S'.ce, S'.sl, S.kp.trans S'.an.gr, ⟨S.an.gr.trans S'.an.gr, S.an.l⟩, ⟨S'.tb.tb, S.tb.b, S'.tb.xo, S.tb.xb⟩⟩
theorem EndR.inTry {D : DEnds} {T : Ends} (S : StOk K C g L kw io O H σ sd s) (E : EndR K C g L kw D T) : EndR K C (gTry g L io O H) L kw D T :=
  ⟨fun _ _ _ _ _ _ q S' => E.nx _ _ _ _ _ _ q (S.offTry S'), fun _ _ _ _ _ _ q S' rr => E.rt _ _ _ _ _ _ q (S.offTry S') rr, fun _ _ _ _ _ _ q S' => E.bk _ _ _ _ _ _ q (S.offTry S'), fun _ _ _ _ _ _ q S' => E.ct _ _ _ _ _ _ q (S.offTry S')⟩
end
/-- what the clauses do with an exception: js tells by classes whether each is caught -/
def wTry (W : DW) (D : DEnds) : List (List (Nat × Bool) × (DX → DS)) → DW
  | [] => W
  | (js, t) :: r => fun x sd s => match js.lookup x.c with
    | some true => t x D sd s
    | some false => wTry W D r x sd s
    | none => False
def dTry (W : DW) (body : DW → DS) (cl : List (List (Nat × Bool) × (DX → DS))) : DS := fun D σ s => body (wTry W D cl) D σ s
section
variable {X : Cx} {C : Tbl} {g : Gw} {L : Lk} {pos pos' np : Pos} {body suite : List Stmt} {b₀ : Stmt} {x n : Str} {c : Value} {W : DW} {tb : DW → DS}
/-- a TS by any ghost -/
def anyG (K : PySem.W.Frag) (C : Tbl) (L : Lk) (tb : DW → DS) (Wx : WX) : TS := fun T σ H => ∃ g' W', (∀ cls d σ H, LW K C g' L W' cls d σ H → Wx cls d σ H) ∧ LS K C g' L (tb W') T σ H
theorem any_ok (hb : ∀ (pn : List (Addr × Obj)) (xe : Value → Shared → Prop) (g' : Gw) (W' : DW), Takes (X.tr pn xe) (LW X.K C g' L W') → PassesOwn (model X.prog X.w) X.A X.env xe → PSs (X.tr pn xe) body (LS X.K C g' L (tb W'))) :
    ∀ (Wx : WX) (pn : List (Addr × Obj)) (xe : Value → Shared → Prop), Takes (X.tr pn xe) Wx → PassesOwn (model X.prog X.w) X.A X.env xe → PSs (X.tr pn xe) body (anyG X.K C L tb Wx) := fun Wx pn xe tk hp =>
  ⟨fun pins s σ H D I ⟨g', W', hi, h⟩ => (hb pn xe g' W' (tk.imp hi) hp).run pins s σ H D I h⟩
theorem gs_try1 {js : List (Nat × Bool)} {ts : DS} (hs : X.stack = X.env :: X.outer) (hf : X.env.frame = some X.env.locals) (hc : Names X x c) (tk : Takes X (LW X.K C g L W)) (hj : ∀ p ∈ js, PySem.W.exmOne X.K (.ref (C.ad p.1)) c = some p.2)
    (hb : ∀ (pn : List (Addr × Obj)) (xe : Value → Shared → Prop) (g' : Gw) (W' : DW), Takes (X.tr pn xe) (LW X.K C g' L W') → PassesOwn (model X.prog X.w) X.A X.env xe → PSs (X.tr pn xe) body (LS X.K C g' L (tb W')))
    (hsu : ∀ (a : Addr) (pn : List (Addr × Obj)), PSs (X.suite a pn) (b₀ :: suite) (LS X.K C g L ts)) :
    PS X (.Try body [.ExceptHandler (some (.Name x np)) none (b₀ :: suite) pos'] [] [] pos) (LS X.K C g L (dTry W tb [(js, fun _ => ts)])) :=
  (ps_try_only (tb := anyG X.K C L tb) (ts := fun _ _ _ => LS X.K C g L ts) hs hf hc tk (any_ok hb) fun a oe cls d pn _ _ => hsu a _).imp fun T σ H h => by
    obtain ⟨kw, io, O, sd, s, D, S, h, E⟩ := h
    refine ⟨gTry g L io O H, _, ?_, kw, io, O, sd, s, D, S.inTry, h, E.inTry S⟩
    rintro cls d σ' H' ⟨kw', io', O', sd', s', y, S', rx, w⟩
    have S2 := S.offTry S'
    obtain ⟨rfl, rx2⟩ := id rx
    unfold wTry at w
    split at w
    · rename_i e
      exact ⟨true, hj _ (look_memB e), fun _ a _ => ⟨kw, io', O', sd', s', D, S2, w, E⟩, fun z => (nomatch z)⟩
    · rename_i e
      exact ⟨false, hj _ (look_memB e), fun z => (nomatch z), fun _ => ⟨kw, io', O', sd', s', y, S2, rx, w⟩⟩
    · exact w.elim
end
end G
namespace G
open PySem L2
/-! ### except C as e: isinstance(e, X), e.f -/
section
variable {K : PySem.W.Frag} {C : Tbl} {g : Gw} {L : Lk} {kw : Vw} {io : List Addr} {O : Addr → Prop} {H : Hp} {σ : L2.St} {sd : DSt} {s : Store}
theorem StOk.unset (S : StOk K C g L kw io O H σ sd s) (i : Nat) : StOk K C g L kw io O H (σ.set i none) (sd.set i none) s := by
  refine ⟨S.nio, S.dj, S.bd, S.od, S.pre, S.fr, S.fz, S.lk, S.ce, ⟨by simp [S.sl.len], fun j sl e => ?_, fun j k d1 d2 a h1 h2 h3 h4 => ?_⟩, S.kp, S.an, S.tb⟩
  · rcases set_cases e with ⟨_, z, _⟩ | ⟨hj, e⟩
    · cases z
    · obtain ⟨v, e1, r⟩ := S.sl.get j sl e
      exact ⟨v, by rw [List.getElem?_set_ne hj]; exact e1, r⟩
  · rcases set_cases h1 with ⟨_, z, _⟩ | ⟨hj, e1⟩
    · cases z
    · rcases set_cases h2 with ⟨_, z, _⟩ | ⟨hk, e2⟩
      · cases z
      · rw [List.getElem?_set_ne hj] at h3
        rw [List.getElem?_set_ne hk] at h4
        exact S.sl.inj j k d1 d2 a e1 e2 h3 h4
end
/-- as e: slot i is e's within the suite -/
def dAs (i : Nat) (t : Nat → DX → DS) (x : DX) : DS := fun D σ s => ∀ a, t a x { nx := fun σ s => D.nx (σ.set i none) s, rt := D.rt, bk := fun σ s => D.bk (σ.set i none) s, ct := fun σ s => D.ct (σ.set i none) s } (σ.set i (some (.v (.raw a)))) s
section
variable {X : Cx} {C : Tbl} {g : Gw} {L : Lk} {pos pos' np : Pos} {body suite : List Stmt} {b₀ : Stmt} {x n : Str} {c : Value} {W : DW} {tb : DW → DS} {i : Nat}
theorem gs_tryAs {js : List (Nat × Bool)} {ts : Nat → DX → DS} (hs : X.stack = X.env :: X.outer) (hf : X.env.frame = some X.env.locals) (hN : X.N.Nodup) (hi : X.N[i]? = some n) (hln : X.env.kindOf n = some .local) (hc : Names X x c) (tk : Takes X (LW X.K C g L W)) (hj : ∀ p ∈ js, PySem.W.exmOne X.K (.ref (C.ad p.1)) c = some p.2)
    (hb : ∀ (pn : List (Addr × Obj)) (xe : Value → Shared → Prop) (g' : Gw) (W' : DW), Takes (X.tr pn xe) (LW X.K C g' L W') → PassesOwn (model X.prog X.w) X.A X.env xe → PSs (X.tr pn xe) body (LS X.K C g' L (tb W')))
    (hsu : ∀ (y : DX) (a : Addr) (oe : Obj) (d : Option Addr) (pn : List (Addr × Obj)) (g' : Gw), Zc (.ref (C.ad y.c)) d oe → (∃ vs, oe.data = .fields vs) → RX X.K C g'.k y (.ref (C.ad y.c)) d → PSs (X.suite a ((a, oe) :: pn)) (b₀ :: suite) (LS X.K C g' L (ts a y))) :
    PS X (.Try body [.ExceptHandler (some (.Name x np)) (some n) (b₀ :: suite) pos'] [] [] pos) (LS X.K C g L (dTry W tb [(js, dAs i ts)])) :=
  (ps_try_as (tb := anyG X.K C L tb) (ts := fun a cls d T σ H => ∃ (y : DX) (g' : Gw), cls = .ref (C.ad y.c) ∧ RX X.K C g'.k y (.ref (C.ad y.c)) d ∧ LS X.K C g' L (ts a y) T σ H) hs hf hN hi hln hc tk (any_ok hb)
    (fun a oe cls d pn hz hv => ⟨fun pins s σ H D I ⟨y, g', e, rx, h⟩ => by subst e; exact (hsu y a oe d pn g' hz hv rx).run pins s σ H D I h⟩)).imp fun T σ H h => by
    obtain ⟨kw, io, O, sd, s, D, S, h, E⟩ := h
    refine ⟨gTry g L io O H, _, ?_, kw, io, O, sd, s, D, S.inTry, h, E.inTry S⟩
    rintro cls d σ' H' ⟨kw', io', O', sd', s', y, S', rx, w⟩
    have S2 := S.offTry S'
    obtain ⟨rfl, rx2⟩ := id rx
    unfold wTry at w
    split at w
    · rename_i e
      refine ⟨true, hj _ (look_memB e), fun _ a _ => ⟨y, gTry g L io' O' H', rfl, rx, kw, io', O', _, s', _, (S2.inTry).set (.raw a), w a, ?_⟩, fun z => (nomatch z)⟩
      exact ⟨fun _ _ _ _ _ _ q S3 => E.nx _ _ _ _ _ _ q ((S2.offTry S3).unset i), fun _ _ _ _ _ _ q S3 rr => E.rt _ _ _ _ _ _ q (S2.offTry S3) rr, fun _ _ _ _ _ _ q S3 => E.bk _ _ _ _ _ _ q ((S2.offTry S3).unset i), fun _ _ _ _ _ _ q S3 => E.ct _ _ _ _ _ _ q ((S2.offTry S3).unset i)⟩
    · rename_i e
      exact ⟨false, hj _ (look_memB e), fun z => (nomatch z), fun _ => ⟨kw, io', O', sd', s', y, S2, rx, w⟩⟩
    · exact w.elim
end
/-- isinstance(e, X): the answers by classes; x has no fields -/
def dIsE (i : Nat) (js : List (Nat × Bool)) (x : DX) : DE := fun _ s Q => x.fs = [] ∧ match js.lookup x.c with
  | some b => Q (.bl b) s
  | none => False
/-- .. by its slot -/
def dIsN (i a : Nat) (js : List (Nat × Bool)) (x : DX) : DE := fun σ s Q => σ[i]? = some (some (.v (.raw a))) ∧ dIsE i js x σ s Q
def excB (x : Str) (K : PySem.W.Frag) : Bool := decide (PySem.W.findIn K (.ref (He.ga K x)) "__getattribute__" = some (some (.builtin "BaseException.__getattribute__"))) && (decide (PySem.W.findIn K (.ref (He.ga K x)) "__getattr__" = some none) &&
  (decide (PySem.W.subIn K (.ref (He.ga K x)) (.type "BaseException") = some true) && PySem.W.hasDictIn K (He.ga K x)))
theorem excC_mk {K : PySem.W.Frag} {x : Str} (h : excB x K = true) (h1 : clsB x K = true) (h2 : getB K = true) : ExcC K (He.ga K x) := by
  obtain ⟨e1, h⟩ := Bool.and_eq_true_iff.mp h
  obtain ⟨e2, h⟩ := Bool.and_eq_true_iff.mp h
  obtain ⟨e3, e4⟩ := Bool.and_eq_true_iff.mp h
  obtain ⟨a1, a2⟩ := Bool.and_eq_true_iff.mp h1
  obtain ⟨b1, b2⟩ := Bool.and_eq_true_iff.mp h2
  exact ⟨of_decide_eq_true e1, of_decide_eq_true e2, of_decide_eq_true e3, e4, of_decide_eq_true a1, of_decide_eq_true b1, of_decide_eq_true b2, of_decide_eq_true a2⟩
theorem xfC_mk {K : PySem.W.Frag} {x : Str} (h : excB x K = true) : XfC K (He.ga K x) := by
  obtain ⟨e1, h⟩ := Bool.and_eq_true_iff.mp h
  obtain ⟨e2, h⟩ := Bool.and_eq_true_iff.mp h
  obtain ⟨e3, e4⟩ := Bool.and_eq_true_iff.mp h
  exact ⟨of_decide_eq_true e1, of_decide_eq_true e2, of_decide_eq_true e3, e4⟩
/-- what kind of exception each clause takes; what isinstance answers of a built-in class -/
def exmB (x y : Str) (b : Bool) (K : PySem.W.Frag) : Bool := decide (PySem.W.exmOne K (.ref (He.ga K x)) (.ref (He.ga K y)) = some b)
def isiT (x : Str) (T : String) (b : Bool) (K : PySem.W.Frag) : Bool := decide (PySem.W.kitOne K (.ref (He.ga K x)) (.type T) = some b)
section
variable {X : Cx} {C : Tbl} {g : Gw} {L : Lk} {pos p pn pT : Pos} {i : Nat} {n y : Str} {a : Addr} {oe : Obj} {pns : List (Addr × Obj)} {d : Option Addr} {x : DX}
theorem g_isE {js : List (Nat × Bool)} {cv : V} {cw : Value} (hj : ∀ q ∈ js, ExcC X.K (C.ad q.1) ∧ PySem.W.kitOne X.K (.ref (C.ad q.1)) cw = some q.2) (hcv : ∀ u, RelV cv u → u = cw) (hz : Zc (.ref (C.ad x.c)) d oe) (hv : ∃ vs, oe.data = .fields vs) (rx : RX X.K C g.k x (.ref (C.ad x.c)) d)
    (hg : Gl (X.suite a ((a, oe) :: pns)) "isinstance") (hm : X.mg "isinstance" = none) (hn : PE (X.suite a ((a, oe) :: pns)) (.Name n pn) (tVar i)) (ht : PE (X.suite a ((a, oe) :: pns)) (.Name y pT) (tC cv))
    (s1 : starEach [.Name n pn, .Name y pT] X.env = (false, eval (.Name n pn) X.env) :: starEach [.Name y pT] X.env := by rfl) (s2 : starEach [.Name y pT] X.env = (false, eval (.Name y pT) X.env) :: starEach [] X.env := by rfl) (hpl : (backTo pos (starEach [.Name y pT] X.env)).any (·.1) = false := by rfl) :
    PE (X.suite a ((a, oe) :: pns)) (.Call (.Name "isinstance" p) [.Name n pn, .Name y pT] [] pos) (LE X.K C g L (dIsN i a js x)) := by
  constructor
  intro pins s σ H Q I h
  obtain ⟨kw, io, O, sd, st, Qd, S, ⟨e, fs, q⟩, k⟩ := h
  split at q
  · rename_i b eb
    obtain ⟨J, hk⟩ := hj _ (look_memB eb)
    have dn : d = none := by
      obtain ⟨_, z⟩ := rx
      rcases z with ⟨_, z⟩ | ⟨_, _, _, _, _, _, z⟩
      · exact z
      · exact absurd fs z
    subst dn
    obtain ⟨v, ev, rs⟩ := S.sl.get i _ e
    cases rs with
    | v rs =>
    cases rs
    refine (pe_callB (call_isE J hz hv) hg hm (by decide +kernel) (pa_cons hn (pa_cons ht pa_nil s2) s1) (he := s1) (hpl := hpl)).run pins s σ H Q I ?_
    exact ⟨.ref a, ev, cv, cw, b, rfl, hcv, hk, k _ st io H _ q S (Stp.refl ..) (.bl _)⟩
  · exact q.elim
end
end G
namespace G
open PySem L2
/-! range with a step -/
def rg3 (s' : Store) (Q : List D → (Store → Prop) → Store → Prop) : List D → Prop
  | [.int i, .int j, .int c] => ∃ n, RgC i j c n ∧ Q ((List.range n).map fun (k : Nat) => .int (i + (k : Int) * c)) (fun _ => True) s'
  | _ => False
def wRg3 (a : DA) : DI := fun σ s Q => a σ s fun ds s' => rg3 s' Q ds
section
variable {K : PySem.W.Frag} {C : Tbl} {g : Gw} {L : Lk}
theorem walk_rc {v0 : Vw} {lo c : Int} {n : Nat} {src : Store → Prop} : Walk K C g L v0 (Itc lo c n) ((List.range n).map fun (k : Nat) => .int (lo + (k : Int) * c)) src := by
  intro io O H σ sd s i S hs
  refine ⟨fun d e => ?_, fun e => ?_⟩
  · rw [List.getElem?_map] at e
    by_cases h : i < n
    · rw [List.getElem?_range h] at e
      cases e
      refine ⟨h, fun x H' y => ?_⟩
      obtain ⟨rfl, rfl⟩ := y
      exact ⟨S, Stp.refl .., .int _⟩
    · rw [List.getElem?_eq_none (by rw [List.length_range]; omega)] at e
      cases e
  · have z := List.getElem?_eq_none_iff.mp e
    rw [List.length_map, List.length_range] at z
    exact z
theorem l_rg3 {a : DA} (σ : L2.St) (H : Hp) (R : It → Hp → Prop) (h : LI K C g L (wRg3 a) σ H R) : iRng3 (LA K C g L a) σ H R := by
  obtain ⟨kw, io, O, sd, s, Qd, S, h, k⟩ := h
  refine ⟨kw, io, O, sd, s, _, S, h, fun ds s' io' H' vs q S' T' r => ?_⟩
  have q : rg3 s' Qd ds := q
  unfold rg3 at q
  split at q
  · obtain ⟨n, q1, q2⟩ := q
    cases r with
    | cons r t => cases t with
      | cons r2 t => cases t with
        | cons r3 t => cases t; cases r; cases r2; cases r3; exact ⟨_, _, _, n, rfl, q1, k _ _ s' io' H' _ q2 S' T' walk_rc⟩
  · exact q.elim
end
section
variable {X : Cx} {C : Tbl} {g : Gw} {L : Lk} {pos p : Pos} {tg a b c : Expr}
theorem gi_rg3 {da : DA} (hg : Gl X "range") (hm : X.mg "range" = none) (ha : PA X [a, b, c] (LA X.K C g L da)) (hs : starEach [a, b, c] X.env = (false, eval a X.env) :: starEach [b, c] X.env := by rfl) (hpl : (backTo pos (starEach [b, c] X.env)).any (·.1) = false := by rfl) :
    PI X tg (.Call (.Name "range" p) [a, b, c] [] pos) (LI X.K C g L (wRg3 da)) := (pi_range3 hg hm ha hs hpl).imp fun σ H R => l_rg3 σ H R
end
end G
namespace G
open PySem L2
/-! d.setdefault(k, x) of a dict in a cell -/
def setdAt (c : Option D) (q z : D) (hit : D → Prop) (miss : D → Prop) : Prop := match c with
  | some (.dK m) => m.length < lim ∧ (match keyOf q with
    | some t => (match look m t with
      | some d => hit d
      | none => miss (.dK (put m t z)))
    | none => False)
  | _ => False
def dSetd (o k x : DE) : DE := fun σ s Q => o σ s fun p s1 => isDc (deref s1 (.v p)) = true ∧ k σ s1 fun q s2 => x σ s2 fun z s3 => (match p with
  | .ref n => setdAt s3[n]? q z (fun d => Q d s3) fun c => Q z (s3.set n c)
  | _ => False)
theorem unlk_dc {d : D} (h : isDc d = true) : isDc (unlk d) = true := by cases d <;> first | exact h | cases h
section
variable {X : Cx} {C : Tbl} {g : Gw} {L : Lk} {o e f : Expr} {apos cpos : Pos} {do_ dk dx : DE}
theorem g_setd (ho : PE X o (LE X.K C g L do_)) (he : PE X e (LE X.K C g L dk)) (hf : PE X f (LE X.K C g L dx)) (m : M2 X o "setdefault" apos e f cpos) : PE X (.Call (.Attribute o "setdefault" apos) [e, f] [] cpos) (LE X.K C g L (dSetd do_ dk dx)) :=
  (pe_dsetd ho he hf m).imp fun σ H Q ⟨kw, io, O, sd, s, Qd, S, h, k⟩ => by
  refine ⟨kw, io, O, sd, s, _, S, h, fun x s1 io1 H1 v q1 S1 T1 r1 => ?_⟩
  obtain ⟨hd0, q1⟩ := q1
  obtain ⟨a, rfl, hd⟩ := (RSl.v (O := O) r1).isD S1 (unlk_dc hd0)
  refine ⟨a, rfl, hd, kw, io1, O, sd, s1, _, S1, q1, fun y s2 io2 H2 vy q2 S2 T2 r2 => ⟨kw, io2, O, sd, s2, _, S2, q2, fun z s3 io3 H3 vz q3 S3 T3 r3 => ?_⟩⟩
  cases r1 with
  | @ref n b hb =>
    have q3 : setdAt s3[n]? y z (fun d => Qd d s3) fun c => Qd z (s3.set n c) := q3
    unfold setdAt at q3
    split at q3
    · rename_i mm e3
      obtain ⟨hl, q3⟩ := q3
      split at q3
      · rename_i t et
        have hb3 : io3[n]? = some a := (T2.trans T3).gr.get hb
        obtain ⟨ho', e4, rc, nf, wr⟩ := Pl.at_ok S3 (p := .cell n) (d := .dK mm) e3 hb3 (by intro z w; cases w)
        cases rc with
        | dK rc =>
          rename_i ws
          refine ⟨ws, t, e4, (r2.grow T3.gr).key et, by rw [rc.rm.length]; exact lim_lt hl, ?_, ?_⟩
          · intro v hv
            rcases rc.rm.look t with ⟨z1, z2⟩ | ⟨z', d', z1, z2, rz⟩
            · rw [z2] at hv; cases hv
            · rw [z1] at q3
              rw [z2] at hv
              cases hv
              exact k _ s3 io3 H3 _ q3 S3 ((T1.trans T2).trans T3) rz
          · intro hv
            rcases rc.rm.look t with ⟨z1, z2⟩ | ⟨z', d', z1, z2, rz⟩
            · rw [z1] at q3
              obtain ⟨S4, G4⟩ := wr (.dK (putK ws t vz)) (.dK (put mm t z)) (by intro _ _ w; cases w) (.dK (rc.rm.put t r3).rk)
              refine k z _ io3 _ vz q3 S4 (((T1.trans T2).trans T3).trans ⟨G4, fun y hy => ?_⟩) (r3.grow G4)
              have : y ≠ a := fun e => S3.dj y hy (by rw [e]; exact List.mem_of_getElem? hb3)
              rw [upd_ne this]
            · rw [z2] at hv; cases hv
      · exact q3.elim
    · exact q3.elim
  | _ => exact q3.elim
end
end G
namespace PySem.SeqAt
open SeqRoads2 MeetsSeq3 MeetsSeq2 MeetsSeq
section
variable {w : World} {prog : Program}
/-- a list as the store lays it -/
def Lay (s : Shared) (a : Addr) (xs : Array Value) : Prop := ∃ (n : Nat) (dd : Option Addr) (sl : Array (Option Value)), s.heap.get? a = some { cls := .type "list", dict := dd, data := .seq xs n, slots := sl }
theorem lay_of {s : Shared} {a : Addr} {xs : Array Value} (h : s.heap.IsList a xs) : Lay s a xs := by
  obtain ⟨⟨c, dd, data, sl⟩, e, e1, n, e2⟩ := h
  have e1 : c = .type "list" := e1
  have e2 : data = .seq xs n := e2
  subst e1 e2
  exact ⟨n, dd, sl, e⟩
/-- the walk of !=, all items alike -/
theorem ne_turns {l b : Addr} {xs ys : Array Value} (same : xs.size = ys.size) (m : Nat) :
    ∀ i : Nat, i + m = xs.size → MeetsIn prog w (Builtin.«list.__eq__.loop» ⟨[.ref l, .ref b, rawInt i, rawInt 3], []⟩)
      (fun A R s => Lay s l xs ∧ Lay s b ys ∧ (∀ j (h1 : j < xs.size) (h2 : j < ys.size), EqP prog w A.in1 s xs[j] ys[j] true) ∧ R (.ok (.ret (.bool false))) s) := by
  induction m with
  | zero =>
    intro i hi A R s h
    obtain ⟨hp, ge, du, to, os⟩ := s
    obtain ⟨⟨n, dd, sl, g1⟩, ⟨n2, dd2, sl2, g2⟩, _, q⟩ := h
    wp_walk using AutoSeq1.wpAny_loadPart' g1, AutoSeq1.wpAny_loadPart' g2
    rw [show xs[((i : Nat) : Int).toNat]? = none from by simp; omega, show ys[((i : Nat) : Int).toNat]? = none from by simp; omega]
    wp_walk using AutoSeq1.wpAny_loadPart' g1, AutoSeq1.wpAny_loadPart' g2
    show R (.ok (.ret (.bool (xs.size != ys.size)))) _
    rw [same, bne_self_eq_false]
    exact q
  | succ m go =>
    intro i hi A R s h
    obtain ⟨hp, ge, du, to, os⟩ := s
    obtain ⟨⟨n, dd, sl, g1⟩, ⟨n2, dd2, sl2, g2⟩, hits, q⟩ := h
    have b1 : i < xs.size := by omega
    have b2 : i < ys.size := by omega
    wp_walk using AutoSeq1.wpAny_loadPart' g1, AutoSeq1.wpAny_loadPart' g2
    rw [show xs[((i : Nat) : Int).toNat]? = some xs[i] from by simp [b1], show ys[((i : Nat) : Int).toNat]? = some ys[i] from by simp [b2]]
    refine wpAny_bind (hits i b1 b2 _ _ ?_)
    wp_walk
    have nx : ((i : Int) + 1) = ((i + 1 : Nat) : Int) := rfl
    rw [nx]
    refine ⟨plainId_quiet plain_eq_loop _, codeAny_builtin entry_eq_loop ?_⟩
    rw [show _ = _ from Around.under_plainId plain_eq_loop _]
    exact go (i + 1) (by omega) A R _ ⟨⟨n, dd, sl, g1⟩, ⟨n2, dd2, sl2, g2⟩, hits, q⟩
theorem ne_alike {l b : Addr} {xs ys : Array Value} (same : xs.size = ys.size) : MeetsIn prog w (Builtin.«list.__ne__» ⟨[.ref l, .ref b], []⟩)
      (fun A R s => Lay s l xs ∧ Lay s b ys ∧ (∀ j (h1 : j < xs.size) (h2 : j < ys.size), EqP prog w A.in1 s xs[j] ys[j] true) ∧ R (.ok (.ret (.bool false))) s) := by
  intro A R s h
  obtain ⟨hp, ge, du, to, os⟩ := s
  have h' := h
  obtain ⟨⟨n, dd, sl, g1⟩, ⟨n2, dd2, sl2, g2⟩, _, _⟩ := h'
  have sub := AutoSeq1.sub_list_list
  have no : ¬ (xs.size != ys.size) = true := by rw [same, bne_self_eq_false]; decide
  wp_walk using AutoSeq1.wpAny_loadPart' g1, AutoSeq1.wpAny_loadPart' g2
  refine ⟨plainId_quiet plain_eq_loop _, codeAny_builtin entry_eq_loop ?_⟩
  rw [show _ = _ from Around.under_plainId plain_eq_loop _]
  exact ne_turns same _ 0 (Nat.zero_add _) A R _ h
theorem rcNeP {A : Around} {s : Shared} {l b : Addr} {xs ys : Array Value} (h1 : s.heap.IsList l xs) (h2 : s.heap.IsList b ys) (same : xs.size = ys.size) (hu : A.units < cLine)
    (hits : ∀ j (k1 : j < xs.size) (k2 : j < ys.size), EqP prog w A.in1 s xs[j] ys[j] true) (E Q : Value → Shared → Prop) (q : Q (.bool false) s) : wpAny (model prog w) A (richCompare .NotEq (.ref l) (.ref b)) Q E s := by
  have t1 : s.TypeIs (.ref l) "list" := let ⟨o, e, c, _⟩ := h1; ⟨o, e, c⟩
  have t2 : s.TypeIs (.ref b) "list" := let ⟨o, e, c, _⟩ := h2; ⟨o, e, c⟩
  refine wpAny_richCompare_same_room (op := .NotEq) t1 t2 F.slot_list_ne (call_meetsIn F.slot_list_ne t1 F.entry_list_ne (F.args_list_ne_2 _ _) (ne_alike same) ?_) hu
  exact ⟨lay_of h1, lay_of h2, hits, show Value.bool false ≠ Value.notImplemented ∧ Q (.bool false) s from ⟨(fun z => nomatch z), q⟩⟩
end
end PySem.SeqAt
namespace G
open PySem L2 PyProof.Rows PySem.Spec
/-- two dicts of the same flat things -/
def Twin (H : Hp) (x y : V) : Prop := ∃ a b ks ls, x = .ref a ∧ y = .ref b ∧ Rd H a (.dK ks) ∧ Rd H b (.dK ls) ∧ ks.length = ls.length ∧ ∀ p ∈ ks, valV ls p.1 = some p.2 ∧ flatB p.2 = true
def rTwins (K : PySem.W.Frag) (ans : Bool) : R2 := fun x y H Q => ∃ a b xs ys, x = .ref a ∧ y = .ref b ∧ SqL K H a xs ∧ SqL K H b ys ∧ Paired (Twin H) xs ys ∧ Q (.bl ans) H
section
variable {X : Cx} {H : Hp} {s : Shared} {σ : L2.St} {pins : List (Addr × Obj)}
theorem twin_eq (J : Inv X pins σ H s) {A : Around} (hu : A.units < cLine) {x y : V} {v u : Value} (t : Twin H x y) (rx : RelV x v) (ry : RelV y u) : SeqAt.EqP X.prog X.w A s v u true := by
  obtain ⟨a, b, ks, ls, rfl, rfl, ga, gb, n, hits⟩ := t
  have ev : v = Value.ref a := rx
  cases ev
  have eu : u = Value.ref b := ry
  cases eu
  rcases Classical.em (a = b) with rfl | ne
  · exact (SeqAt.EqAt.same _).eqP
  · have oa : ObjOk X.prog X.w H s.heap a (.dK ks) := ga.ok J.hok
    have ob : ObjOk X.prog X.w H s.heap b (.dK ls) := gb.ok J.hok
    obtain ⟨_, y1, _, k1, m1⟩ := oa
    obtain ⟨_, y2, _, k2, m2⟩ := ob
    refine SeqAt.eqP_refs ne fun E Q q => PySem.W.rcP_dicts (knd := mixKind X.prog X.w) (r := true) y1 y2 m1 m2 hu (fun _ => hits_run (F := fun x y => x = y ∧ flatB x = true) ?_ k2 k1 fun p hp => ⟨p.2, (hits p hp).1, rfl, (hits p hp).2⟩) E Q ?_
    · rintro x _ v u ⟨rfl, f⟩ r1 r2
      exact (eqAt_same r1 r2 f).eqP
    · have sz := n
      rw [k1.length, k2.length] at sz
      rw [show ((_ : Nat) == _) = true from beq_iff_eq.mpr sz]
      exact q
theorem op_twinE {k : Nat} (hr : Room k X.A) : OpR X (compareOp .Eq) (rTwins X.K true) := fun _ t _ G _ _ _ _ _ J r1 r2 ⟨a, b, xs, ys, ex, ey, ha, hb, hp, q⟩ => by
  cases ex; cases ey; cases r1; cases r2
  obtain ⟨us, v1, ⟨p1, _⟩⟩ := J.list ha
  obtain ⟨ws, v2, ⟨p2, _⟩⟩ := J.list hb
  have same : us.toArray.size = ws.toArray.size := by simp [← v1.length, ← v2.length, hp.length]
  refine SeqAt.rcP_lists (e := fun _ => true) p1.isList p2.isList same hr.units0 (fun j h1 h2 => ?_) _ _ ?_
  · simpa using items_run (fun x y v u => twin_eq J (by have := hr.units0; have := hr; show X.A.units + 1 < cLine; exact (hu_of hr))) hp v1 v2 j (by simpa using h1) (by simpa using h2)
  · rw [List.all_eq_true.mpr fun _ _ => rfl]
    exact ⟨.bl true, G, J, rfl, q⟩
theorem op_twinN {k : Nat} (hr : Room k X.A) : OpR X (compareOp .NotEq) (rTwins X.K false) := fun _ t _ G _ _ _ _ _ J r1 r2 ⟨a, b, xs, ys, ex, ey, ha, hb, hp, q⟩ => by
  cases ex; cases ey; cases r1; cases r2
  obtain ⟨us, v1, ⟨p1, _⟩⟩ := J.list ha
  obtain ⟨ws, v2, ⟨p2, _⟩⟩ := J.list hb
  have same : us.toArray.size = ws.toArray.size := by simp [← v1.length, ← v2.length, hp.length]
  refine SeqAt.rcNeP p1.isList p2.isList same hr.units0 (fun j h1 h2 => ?_) _ _ ?_
  · simpa using items_run (fun x y v u => twin_eq J (show X.A.units + 1 < cLine from hu_of hr)) hp v1 v2 j (by simpa using h1) (by simpa using h2)
  · exact ⟨.bl false, G, J, rfl, q⟩
end
/-- == and != of two lists of dicts, each alike -/
def twinD (s : Store) : List D → List D → Prop
  | [], [] => True
  | x :: xs, y :: ys => (match unlk (deref s (.v x)), unlk (deref s (.v y)) with
    | .dK a, .dK b => sameK a b
    | _, _ => False) ∧ twinD s xs ys
  | _, _ => False
def oTwins (neg : Bool) : DOp := fun x y s Q => match deref s x, deref s y with
  | .lst xs, .lst ys => twinD s xs ys ∧ Q (.bl (!neg)) s
  | _, _ => False
section
variable {K : PySem.W.Frag} {C : Tbl} {g : Gw} {L : Lk}
theorem twins_ok {kw : Vw} {io : List Addr} {O : Addr → Prop} {H : Hp} {σ : L2.St} {sd : DSt} {s : Store} (S : StOk K C g L kw io O H σ sd s) : ∀ {vs ws : List V} {xs ys : List D}, RL K C (vw g io O H) vs xs → RL K C (vw g io O H) ws ys → twinD s xs ys → Paired (Twin H) vs ws
  | _, _, _, _, .nil, .nil, _ => .nil
  | _, _, _, _, .nil, .cons _ _, h => h.elim
  | _, _, _, _, .cons _ _, .nil, h => h.elim
  | _, _, _, _, .cons (d := dx) rx tx, .cons (d := dy) ry ty, h => by
    refine .cons ?_ (twins_ok S tx ty h.2)
    have h := h.1
    split at h
    · rename_i m m' e1 e2
      obtain ⟨a, vs, rfl, h1, r1⟩ := (RSl.v (O := O) rx).dK S e1
      obtain ⟨b, ws, rfl, h2, r2⟩ := (RSl.v (O := O) ry).dK S e2
      obtain ⟨l, hits⟩ := same_ok r1 r2 h
      exact ⟨a, b, vs, ws, rfl, rfl, h1, h2, l, hits⟩
    · exact h.elim
theorem og_twins (neg : Bool) : OpG K C g L (rTwins K (!neg)) (oTwins neg) := by
  intro kw io O H σ sd s x y v u Qd Q S rx ry h k
  unfold oTwins at h
  split at h
  · rename_i xs ys e1 e2
    obtain ⟨a, vs, rfl, h1, r1⟩ := rx.seqL S (.inl e1)
    obtain ⟨b, ws, rfl, h2, r2⟩ := ry.seqL S (.inl e2)
    exact ⟨a, b, vs, ws, rfl, rfl, h1, h2, twins_ok S r1 r2 h.1, k _ s io H _ h.2 S (Stp.refl ..) (.bl _)⟩
  · exact h.elim
end
/-! a, b, .. = a list -/
def tgNsL (is : List Nat) : DTg := fun d σ s Q => match deref s (.v d) with
  | .lst ds => ds.length = is.length ∧ Q (setAllD σ is ds) s
  | _ => False
theorem tg_nsL {K : PySem.W.Frag} {C : Tbl} {g : Gw} {L : Lk} (is : List Nat) : TgG K C g L (gUnl K is.length (gNames is)) (tgNsL is) := by
  intro kw io O H σ sd s v d Qd Q S r h k
  unfold tgNsL at h
  split at h
  · rename_i ds e
    obtain ⟨a, vs, rfl, h1, r1⟩ := (RSl.v (O := O) r).seqL S (.inl e)
    have n : vs.length = is.length := r1.length.trans h.1
    exact ⟨a, vs, rfl, h1, n, gNames_of is vs σ H Q n (k _ _ h.2 (S.setAll is r1))⟩
  · exact h.elim
end G
namespace G
open PySem L2
/-! methods without arguments -/
section
variable {K : PySem.W.Frag} {C : Tbl} {g : Gw} {L : Lk}
theorem la_nil {σ : L2.St} {H : Hp} {Q : List V → Hp → Prop} (h : LA K C g L aNil σ H Q) : Q [] H := by
  obtain ⟨kw, io, O, sd, s, Qd, S, h, k⟩ := h
  exact k [] s io H [] h S (Stp.refl ..) .nil
theorem l_muE0 {T : String} {f : DMu} {r : V → List V → Hp → VK → Prop} {o : DE} (hf : MuG K C r f) (σ : L2.St) (H : Hp) (Q : VK) (h : LE K C g L (dMuE T f o aNil) σ H Q) : tBM0 K T r (LE K C g L o) σ H Q := by
  obtain ⟨kw, io, O, sd, s, Qd, S, h, k⟩ := l_muE hf σ H Q h
  exact ⟨kw, io, O, sd, s, Qd, S, h, fun x s1 io1 H1 v q S1 T1 r1 => let ⟨ty, z⟩ := k x s1 io1 H1 v q S1 T1 r1; ⟨ty, la_nil z⟩⟩
theorem l_muO0 {T : String} {f : DMu} {r : V → List V → Hp → VK → Prop} {i : Nat} (hf : MuG K C r f) (Tn : Ends) (σ : L2.St) (H : Hp) (h : LS K C g L (dMuO T f i aNil) Tn σ H) : tDrop (tBM0 K T r (tVar i)) Tn σ H := by
  obtain ⟨v, e, ty, z⟩ := l_muO hf Tn σ H h
  exact ⟨v, e, ty, la_nil z⟩
end
section
variable {X : Cx} {C : Tbl} {g : Gw} {L : Lk}
theorem g_muE0 {T : String} {f : DMu} {r : V → List V → Hp → VK → Prop} {o : DE} {e : Expr} (hf : MuG X.K C r f) (h : PE X e (tBM0 X.K T r (LE X.K C g L o))) : PE X e (LE X.K C g L (dMuE T f o aNil)) := h.imp fun σ H Q q => l_muE0 hf σ H Q q
theorem gs_muO0 {T : String} {f : DMu} {r : V → List V → Hp → VK → Prop} {i : Nat} {st : Stmt} (hf : MuG X.K C r f) (h : PS X st (tDrop (tBM0 X.K T r (tVar i)))) : PS X st (LS X.K C g L (dMuO T f i aNil)) := h.imp fun Tn σ H q => l_muO0 hf Tn σ H q
end
end G
namespace G
open PySem L2 PyProof.Rows PySem.Spec
/-! d.setdefault(k, x) of a dict whose keys are tuples, in a cell -/
def tSetdT (td ty tx : TE) : TE := fun σ H Q => td σ H fun p H1 => ∃ a, p = .ref a ∧ IsD H1 a ∧ ty σ H1 fun y H2 => tx σ H2 fun z H3 => ∃ (m : List (List Key × V)) (k : List Key) (b : Addr), H3 a = some (.dT m) ∧ y = .ref b ∧ H3 b = some (.tup (k.map kV)) ∧ m.length < sizeLine ∧
  (∀ v, valV m k = some v → Q v H3) ∧ (valV m k = none → Q z (upd H3 a (.dT (putK m k z))))
section
variable {X : Cx} {td ty tx : TE} {o e f : Expr} {apos cpos : Pos}
theorem setd_tup {pins : List (Addr × Obj)} {σ : L2.St} {H : Hp} {s : Shared} {a b : Addr} {m : List (List Key × V)} {k : List Key} {d : V} {r : Value} {E Q : Value → Shared → Prop} (hu : X.A.units + 1 < cLine) (J : Inv X pins σ H s) (e : H a = some (.dT m)) (eb : H b = some (.tup (k.map kV))) (rd : RelV d r) (room : m.length < sizeLine)
    (hit : ∀ v, valV m k = some v → ∀ (w : Value) (s' : Shared), Inv X pins σ H s' → RelV v w → Q w s') (miss : valV m k = none → ∀ (w : Value) (s' : Shared), Inv X pins σ (upd H a (.dT (putK m k d))) s' → RelV d w → Q w s') :
    wpAny (model X.prog X.w) X.A (call (.builtin "dict.setdefault") [.ref a, .ref b, r]) Q E s := by
  obtain ⟨z, low, xs, rel, lay⟩ := dt_of J.hok e
  have at_ := rel.val k
  refine call_setdefault_heap (knd := tupleKind (mixKind X.prog X.w)) (tupleKind_room_in1 hu) (key_of J.hok eb) low lay (fun p hp => ?_) (fun hn h' lay' same => ?_) (hsz := by rw [← Paired.length rel]; exact z)
  · rw [hp] at at_
    cases ev : valV m k with
    | none => rw [ev] at at_; exact (show False from at_).elim
    | some v =>
      rw [ev] at at_
      exact hit v ev _ _ (J.tok _) at_
  · rw [hn] at at_
    cases ev : valV m k with
    | some v => rw [ev] at at_; exact (show False from at_).elim
    | none =>
      have grown : (putK m k d).length ≤ sizeLine := by have := length_putK m k d; omega
      obtain ⟨q, es, ep, g1, g2, g3, g4, _, g5⟩ := lay'
      refine miss ev _ _ (d_write J (by rw [e]; exact True.intro) same ⟨q, g1⟩ ⟨grown, low, _, (rel.put k eb rd).keeps fun c ys ec => ?_, q, es, ep, g1, g2, g3, g4, g5⟩) rd
      rw [upd_ne (ne_of ec e fun z => nomatch z)]
      exact ec
theorem pe_setdT (hu : X.A.units + 1 < cLine) (ho : PE X o td) (he : PE X e ty) (hf : PE X f tx) (m : M2 X o "setdefault" apos e f cpos) : PE X (.Call (.Attribute o "setdefault" apos) [e, f] [] cpos) (tSetdT td ty tx) := by
  constructor
  intro pins s σ H Q J h
  refine wpAny_Call_method m.base m.few m.line PySem.F.plainAttrs_dict PySem.F.slot_dict_setdefault PySem.F.type_dict_setdefault (thn (ho.run pins s σ H _ J h) ?_)
  rintro u s1 ⟨_, H1, J1, r1, a, rfl, d, q1⟩
  have eu : u = Value.ref a := r1
  cases eu
  obtain ⟨t1, t2, _⟩ := isD_at J1 d
  refine ⟨t1, t2, ?_⟩
  rw [m.trees]
  refine Calls.callWith_builtin rfl (Calls.evalArgs_plain (Calls.spliced_cons (thn (he.run pins s1 σ H1 _ J1 q1) ?_)))
  rintro iv s2 ⟨_, H2, J2, r2, q2⟩
  refine Calls.spliced_cons (thn (hf.run pins s2 σ H2 _ J2 q2) ?_)
  rintro fv s3 ⟨x, H3, J3, r3, t, k, b, e3, rfl, eb, room, q3, q4⟩
  have ei : iv = Value.ref b := r2
  cases ei
  exact Calls.spliced_nil (setd_tup hu J3 e3 eb r3 room (fun v hv w s4 J4 r4 => ⟨v, _, J4, r4, q3 v hv⟩) fun hn w s4 J4 r4 => ⟨x, _, J4, r4, q4 hn⟩)
end
def setdAtT (c : Option D) (q z : D) (hit : D → Prop) (miss : D → Prop) : Prop := match c with
  | some (.dT m) => m.length < lim ∧ (match tkeyOf q with
    | some t => (match look m t with
      | some d => hit d
      | none => miss (.dT (put m t z)))
    | none => False)
  | _ => False
def dSetdT (o k x : DE) : DE := fun σ s Q => o σ s fun p s1 => isDc (deref s1 (.v p)) = true ∧ k σ s1 fun q s2 => x σ s2 fun z s3 => (match p with
  | .ref n => setdAtT s3[n]? q z (fun d => Q d s3) fun c => Q z (s3.set n c)
  | _ => False)
section
variable {X : Cx} {C : Tbl} {g : Gw} {L : Lk} {o e f : Expr} {apos cpos : Pos} {do_ dk dx : DE}
theorem g_setdT {k : Nat} (hr : Room k X.A) (ho : PE X o (LE X.K C g L do_)) (he : PE X e (LE X.K C g L dk)) (hf : PE X f (LE X.K C g L dx)) (m : M2 X o "setdefault" apos e f cpos) : PE X (.Call (.Attribute o "setdefault" apos) [e, f] [] cpos) (LE X.K C g L (dSetdT do_ dk dx)) :=
  (pe_setdT (hu_of hr) ho he hf m).imp fun σ H Q ⟨kw, io, O, sd, s, Qd, S, h, k⟩ => by
  refine ⟨kw, io, O, sd, s, _, S, h, fun x s1 io1 H1 v q1 S1 T1 r1 => ?_⟩
  obtain ⟨hd0, q1⟩ := q1
  obtain ⟨a, rfl, hd⟩ := (RSl.v (O := O) r1).isD S1 (unlk_dc hd0)
  refine ⟨a, rfl, hd, kw, io1, O, sd, s1, _, S1, q1, fun y s2 io2 H2 vy q2 S2 T2 r2 => ⟨kw, io2, O, sd, s2, _, S2, q2, fun z s3 io3 H3 vz q3 S3 T3 r3 => ?_⟩⟩
  cases r1 with
  | @ref n b hb =>
    have q3 : setdAtT s3[n]? y z (fun d => Qd d s3) fun c => Qd z (s3.set n c) := q3
    unfold setdAtT at q3
    split at q3
    · rename_i mm e3
      obtain ⟨hl, q3⟩ := q3
      split at q3
      · rename_i t et
        have hb3 : io3[n]? = some a := (T2.trans T3).gr.get hb
        obtain ⟨ho', e4, rc, nf, wr⟩ := Pl.at_ok S3 (p := .cell n) (d := .dT mm) e3 hb3 (by intro z w; cases w)
        cases rc with
        | dT rc =>
          rename_i ws
          obtain ⟨c, rfl, _, hc⟩ := (r2.grow T3.gr).tkey et
          refine ⟨ws, t, c, e4, rfl, hc, by rw [rc.rm.length]; exact lim_lt hl, ?_, ?_⟩
          · intro v hv
            rcases rc.rm.look t with ⟨z1, z2⟩ | ⟨z', d', z1, z2, rz⟩
            · rw [z2] at hv; cases hv
            · rw [z1] at q3
              rw [z2] at hv
              cases hv
              exact k _ s3 io3 H3 _ q3 S3 ((T1.trans T2).trans T3) rz
          · intro hv
            rcases rc.rm.look t with ⟨z1, z2⟩ | ⟨z', d', z1, z2, rz⟩
            · rw [z1] at q3
              obtain ⟨S4, G4⟩ := wr (.dT (putK ws t vz)) (.dT (put mm t z)) (by intro _ _ w; cases w) (.dT (rc.rm.put t r3).rt)
              refine k z _ io3 _ vz q3 S4 (((T1.trans T2).trans T3).trans ⟨G4, fun y hy => ?_⟩) (r3.grow G4)
              have : y ≠ a := fun e => S3.dj y hy (by rw [e]; exact List.mem_of_getElem? hb3)
              rw [upd_ne this]
            · rw [z2] at hv; cases hv
      · exact q3.elim
    · exact q3.elim
  | _ => exact q3.elim
end
end G
namespace G
open PySem L2
/-! C() -/
section
variable {X : Cx} {C : Tbl} {g : Gw} {L : Lk} {x : Str} {p pos : Pos} {f : Addr} {fd : FuncData} {ps : List Str} {k c : Nat} {sp : DSp} {W : DW} {dvs : List V} {ds : List Value} {dds : List D}
theorem g_mk0 (M : Mk X.K (C.ad c) f) (F : FnOk X.prog X.w X.K X.mg X.base (L2.CX X.prog X.w) k f fd ps (LF X.K C sp)) (hr : Room (k + 1) X.A) (hg : Gl X x) (hm : X.mg x = some (.ref (C.ad c))) (hb : Binds X.K fd ps ds) (hd : Vals dvs ds) (hdd : ∀ w, RL X.K C w dvs dds) (tk : Takes X (LW X.K C g L W))
    (h0 : (x == ("__debug__" : Str)) = false := by decide) : PE X (.Call (.Name x p) [] [] pos) (LE X.K C g L (dMk c sp W dds aNil)) :=
  (pe_makeW0 M F hr hg hm hb hd (fun σ => passAt tk σ) h0).imp fun σ H Q h => la_nil (l_mk hdd σ H Q h)
end
/-! xs.pop(i) -/
def mPopAt : DMu := fun c ds _ Q => match c, ds with
  | .lst xs, [.int i] => -(2 ^ 63) ≤ i ∧ i < 2 ^ 63 ∧ ∃ (k : Nat) (d : D), seqIndex? i xs.length = some k ∧ xs[k]? = some d ∧ Q (.lst (xs.eraseIdx k)) d
  | _, _ => False
section
variable {K : PySem.W.Frag} {C : Tbl} {g : Gw} {L : Lk}
theorem RL.erase {w : Vw} : ∀ {vs : List V} {ds : List D} (k : Nat), RL K C w vs ds → RL K C w (vs.eraseIdx k) (ds.eraseIdx k)
  | _, _, _, .nil => .nil
  | _, _, 0, .cons h t => t
  | _, _, k + 1, .cons h t => .cons h (t.erase k)
theorem mu_popAt : MuG K C rPopAt mPopAt := fun w a ho c vs ds s Kd Q e rc r nl h k => by
  unfold mPopAt at h
  split at h
  · obtain ⟨h1, h2, j, d, h3, h4, q⟩ := h
    cases rc with
    | lst rc => cases r with
      | cons r t =>
        cases t
        cases r
        obtain ⟨v, ev, rv⟩ := rc.get h4
        exact ⟨_, _, _, j, v, rfl, rfl, e, h1, h2, by rw [rc.length]; exact h3, ev, k _ _ _ _ q (by intro _ _ z; cases z) (.lst (rc.erase j)) rv⟩
  · exact h.elim
end
/-! enumerate(xs) -/
def enm (ds : List D) : List D := ds.mapIdx fun i d => .tup [.int (i : Nat), d]
def wEnum (a : DA) : DI := fun σ s Q => a σ s fun ds s' => match ds with
  | [.lst xs] => Q (enm xs) (fun _ => True) s'
  | [.ref n] => (match s'[n]? with
    | some (.lst xs) => Q (enm xs) (fun s2 => s2[n]? = some (.lst xs)) s'
    | _ => False)
  | _ => False
section
variable {K : PySem.W.Frag} {C : Tbl} {g : Gw} {L : Lk}
theorem walk_enm {v0 : Vw} {a : Addr} {ds : List D} {src : Store → Prop} (h : ∀ io O H σ sd s, StOk K C g L v0 io O H σ sd s → src s → ∃ vs, SqL K H a vs ∧ RL K C (vw g io O H) vs ds) : Walk K C g L v0 (Ite K a) (enm ds) src := by
  intro io O H σ sd s i S hs
  obtain ⟨vs, h1, r⟩ := h io O H σ sd s S hs
  refine ⟨fun d e => ?_, fun e => ⟨vs, h1, ?_⟩⟩
  · unfold enm at e
    rw [List.getElem?_mapIdx] at e
    cases q : ds[i]? with
    | none =>
      rw [q] at e
      cases e
    | some d0 =>
      rw [q] at e
      cases e
      obtain ⟨v, e1, r1⟩ := r.get q
      refine ⟨⟨vs, v, h1, e1⟩, fun x H' y => ?_⟩
      obtain ⟨T, z, rfl, hT, rfl, y⟩ := y
      have e2 := y vs h1
      rw [e1] at e2
      cases e2
      obtain ⟨S2, T2⟩ := S.stpNew (o := .tup [.int (i : Nat), v]) hT
      exact ⟨S2, T2, .tup (S.free hT).1 upd_same (.cons (.int _) (.cons (r1.grow T2.gr) .nil))⟩
  · rw [r.length]
    have := List.getElem?_eq_none_iff.mp e
    unfold enm at this
    rw [List.length_mapIdx] at this
    exact this
theorem l_enum {a : DA} (σ : L2.St) (H : Hp) (R : It → Hp → Prop) (h : LI K C g L (wEnum a) σ H R) : iEnum K (LA K C g L a) σ H R := by
  obtain ⟨kw, io, O, sd, s, Qd, S, h, k⟩ := h
  refine ⟨kw, io, O, sd, s, _, S, h, fun ds s' io' H' vs q S' T' r => ?_⟩
  split at q
  · cases r with
    | cons r t =>
      cases t
      cases r with
      | @lst a vs ds x h1 r1 => exact ⟨a, vs, rfl, .inl (.inl h1), k _ _ s' io' H' _ q S' T' (walk_enm fun io O H σ sd s S2 _ => ⟨vs, .inl (.inl (S2.kp.eq x h1 rfl (by intro _ _ z; cases z))), r1.grow S2.kp⟩)⟩
  · rename_i n
    cases r with
    | cons r t =>
      cases t
      cases r with
      | @ref _ a hn =>
        split at q
        · rename_i xs es
          have get : ∀ io O H σ sd s, StOk K C g L (vw g io' _ H') io O H σ sd s → s[n]? = some (.lst xs) → ∃ vs, SqL K H a vs ∧ RL K C (vw g io O H) vs xs := fun io O H σ sd s S2 e2 => by
            obtain ⟨b, ho, e3, e4, rc⟩ := S2.ce.get n _ e2
            have e5 : io[n]? = some a := S2.kp.get hn
            have e3 : io[n]? = some b := e3
            rw [e5] at e3; cases e3
            cases rc with
            | lst r => exact ⟨_, .inl (.inl e4), r⟩
          obtain ⟨vs, h1, _⟩ := get io' _ H' _ _ s' S'.here es
          exact ⟨a, vs, rfl, h1, k _ _ s' io' H' _ q S' T' (walk_enm get)⟩
        · exact q.elim
  · exact q.elim
end
section
variable {X : Cx} {C : Tbl} {g : Gw} {L : Lk} {pos p tpos : Pos} {e : Expr} {elts : List Expr} {kk : Nat}
theorem gi_enum {da : DA} (hg : Gl X "enumerate") (hm : X.mg "enumerate" = none) (ha : PA X [e] (LA X.K C g L da)) (hs : starEach [e] X.env = [(false, eval e X.env)] := by rfl) : PI X (.Tuple elts kk tpos) (.Call (.Name "enumerate" p) [e] [] pos) (LI X.K C g L (wEnum da)) := (pi_enum hg hm ha hs).imp fun σ H R => l_enum σ H R
end
end G
namespace G
open PySem L2
theorem look_put {κ : Type} [DecidableEq κ] (m : List (κ × D)) (t t' : κ) (v : D) : look (put m t v) t' = if t = t' then some v else look m t' := by
  unfold put
  split
  · rename_i h
    induction m with
    | nil => cases h
    | cons p m ih =>
      unfold look at *
      simp only [List.map_cons, List.find?_cons] at *
      by_cases e : p.1 = t
      · by_cases e2 : t = t'
        · simp [e, e2]
        · have e3 : ¬ p.1 = t' := fun z => e2 (e.symm.trans z)
          simp only [e2, if_false]
          have e4 : ¬ t = t' := e2
          simp only [e, e4, decide_false, if_true]
          have go : ∀ m : List (κ × D), Option.map (·.2) (List.find? (fun p => decide (p.1 = t')) (m.map fun p => (p.1, if p.1 = t then v else p.2))) = Option.map (·.2) (List.find? (fun p => decide (p.1 = t')) m) := fun m => by
            induction m with
            | nil => rfl
            | cons q m ih2 =>
              simp only [List.map_cons, List.find?_cons]
              by_cases c : q.1 = t'
              · have c2 : ¬ q.1 = t := fun z => e2 (z.symm.trans c)
                simp [c, c2, Ne.symm e2]
              · simp only [c, decide_false]
                exact ih2
          exact go m
      · have h' : (Option.map (·.2) (List.find? (fun p => decide (p.1 = t)) m)).isSome = true := by simpa [e] using h
        by_cases e3 : p.1 = t'
        · have e2 : ¬ t = t' := fun z => e (e3.trans z.symm)
          simp [e3, e2, e]
          intro z; exact absurd z.symm e2
        · simp only [e3, e, decide_false, if_false]
          exact ih h'
  · rename_i h
    unfold look at *
    rw [List.find?_append]
    by_cases e : t = t'
    · subst e
      have q : m.find? (fun p => decide (p.1 = t)) = none := by
        cases q : m.find? fun p => decide (p.1 = t) with
        | none => rfl
        | some r => rw [q] at h; simp at h
      rw [q]
      simp
    · cases q : m.find? fun p => decide (p.1 = t') with
      | none => simp [e]
      | some r => simp [e]
end G
/-! a def within a def: its object is made; what is tracked and no table of ours stays as it was -/
namespace G
open PySem L2 NdefX LamX
section
variable {X : Cx} {s : Shared} {H : Hp} {σ : L2.St} {pins : List (Addr × Obj)}
/-- what the making tells: the object f, its code object c -/
structure Made (T : List NTab) (H H1 : Hp) (f c : Addr) (F : NF) : Prop where
  keep : ∀ b u, (∀ p ∈ T, p.1 ≠ b) → H b = some u → H1 b = some u
  ext : ExtN H H1
  tabs : TabsN T H1
  new : H f = Option.none
  fn : H1 f = some (FnO f F)
  code : H1 c = some (CodeO c F.qual)
theorem ndefT {T : List NTab} {nm : Nat → Nat → Str} {cd P : Addr} {name : Str} {params : Arguments} {body : List Stmt} {scope : Scope} {pos : Pos} {E : Value → Shared → Prop} {Q : Value → Shared → Prop} (I : Inv X pins σ H s) (TB : TabB X.base X.mg cd P) (hcode : X.env.code = .ref cd)
    (hT : TabsN T H) (hm : (P, nm) ∈ T) (hu : ∀ q ∈ T, q.1 = P → q.2 = nm) (hn : nm pos.line pos.col = X.env.qual ++ name) (hfree : ∀ z ∈ scope.names, z.2 = .free → ∃ c, X.env.cells.lookup z.1 = some c)
    (h : ∀ (f c : Addr) (H1 : Hp) (s' : Shared), Inv X pins σ H1 s' → Made T H H1 f c ⟨name, X.env.qual ++ name, params, body, scope, cloFrom X.env.cells scope.names [], c⟩ → Q (.ref f) s') :
    wpAny (model X.prog X.w) X.A
      (makeFunction name (X.env.qual ++ name) params (.stmts body) scope X.env [] [] [] pos pos.line)
      Q E s := by
  have tP : TabN H P nm := hT (P, nm) hm
  obtain ⟨ps, e0, tri, told⟩ := tP
  have onP : s.heap.get? P = some { cls := .none, data := .fields ps } := I.hok _ _ e0
  have glob := I.mod.glob.keeps I.bk
  have head := TB.code.keeps I.bk
  have blt := TB.bm.keeps I.bk
  have clos := closure_ok hfree
  have outT : ∀ b, (∀ p ∈ T, p.1 ≠ b) → b ≠ P := fun b z e => z _ hm e.symm
  rcases hit : codeAmong pos ps.toList with _ | cv
  · refine PySem.W.makeFunction_K (mg := X.mg) (c := cd) (P := P) (ps := ps) clos I.ok.glob glob hcode head onP tri hit TB.gP blt fun c ctv doc h' tk but lo hi rec onP' => ?_
    obtain ⟨c2, oc, vs, t, ec, g1, g2, g3⟩ := rec
    cases ec
    have freeC : H c = Option.none := I.hok.fresh lo
    have J := inv_table (t' := tk) (more := #[rawInt pos.line, rawInt pos.col, .ref c]) (h' := h') I e0 (fun b o nb e => but b o nb e) onP' lo ⟨oc, vs, t, g1, g2, g3⟩
    have freeF : upd (upd H P (.tbl (ps ++ #[rawInt pos.line, rawInt pos.col, .ref c]))) c (CodeO c (X.env.qual ++ name)) h'.objs.size = Option.none := J.hok.fresh (Nat.le_refl _)
    have J2 := inv_fn (F := ⟨name, X.env.qual ++ name, params, body, scope, cloFrom X.env.cells scope.names [], c⟩) (t' := tk) (doc := doc) (pm := (X.mg "__name__").getD .none) (ctv := ctv) J rfl
    have up : ∀ b u, b ≠ P → H b = some u → upd (upd (upd H P (.tbl (ps ++ #[rawInt pos.line, rawInt pos.col, .ref c]))) c (CodeO c (X.env.qual ++ name))) h'.objs.size (FnO h'.objs.size ⟨name, X.env.qual ++ name, params, body, scope, cloFrom X.env.cells scope.names [], c⟩) b = some u := fun b u nb e => by
      have q : upd (upd H P (.tbl (ps ++ #[rawInt pos.line, rawInt pos.col, .ref c]))) c (CodeO c (X.env.qual ++ name)) b = some u := by
        rw [upd_ne (ne_of_none e freeC), upd_ne nb]
        exact e
      rw [upd_ne (ne_of_none q freeF)]
      exact q
    have cf : c ≠ h'.objs.size := Nat.ne_of_lt hi
    have atC : upd (upd (upd H P (.tbl (ps ++ #[rawInt pos.line, rawInt pos.col, .ref c]))) c (CodeO c (X.env.qual ++ name))) h'.objs.size (FnO h'.objs.size ⟨name, X.env.qual ++ name, params, body, scope, cloFrom X.env.cells scope.names [], c⟩) c = some (CodeO c (X.env.qual ++ name)) := by
      rw [upd_ne cf, upd_same]
    have noTbl : ∀ b u, H b = some u → (∀ qs, u ≠ .tbl qs) → b ≠ P := fun b u e k z => by
      rw [z, e0] at e
      exact k ps (Option.some.inj e).symm
    refine h h'.objs.size c _ _ J2 ⟨fun b u z e => up b u (outT b z) e, fun b u e k => up b u (noTbl b u e k) e, fun p hp => ?_, I.hok.fresh (Nat.le_trans lo (Nat.le_of_lt hi)), upd_same, atC⟩
    by_cases at_ : p.1 = P
    · have pe : p.2 = nm := hu p hp at_
      have eA : (ps ++ #[rawInt pos.line, rawInt pos.col, Value.ref c]).toList = ps.toList ++ [rawInt pos.line, rawInt pos.col, Value.ref c] := by simp
      rw [at_, pe]
      have fP : P ≠ h'.objs.size := ne_of_none (o := .tbl (ps ++ #[rawInt pos.line, rawInt pos.col, .ref c])) (by rw [upd_ne (ne_of_none e0 freeC), upd_same]) freeF
      refine ⟨_, by rw [upd_ne fP, upd_ne (ne_of_none e0 freeC), upd_same], by rw [eA]; exact PySem.TriplesOk_snoc _ _ _ _ tri, fun pos2 v hv => ?_⟩
      rw [eA] at hv
      rcases among_app2 _ tri hv with old | ⟨rfl, l1, l2⟩
      · obtain ⟨c0, rfl, kc⟩ := told pos2 v old
        exact ⟨c0, rfl, up _ _ (noTbl _ _ kc codeO_ne) kc⟩
      · exact ⟨c, rfl, by rw [← l1, ← l2, hn]; exact atC⟩
    · obtain ⟨qs, k1, k2, k3⟩ := hT p hp
      refine ⟨qs, up _ _ at_ k1, k2, fun pos2 v hv => ?_⟩
      obtain ⟨c0, rfl, kc⟩ := k3 pos2 v hv
      exact ⟨c0, rfl, up _ _ (noTbl _ _ kc codeO_ne) kc⟩
  · obtain ⟨c, rfl, kc⟩ := told pos cv hit
    rw [hn] at kc
    refine PySem.W.makeFunction_hit (mg := X.mg) (c := cd) (P := P) (ps := ps) clos I.ok.glob glob hcode head onP tri hit blt fun ctv doc h' tk hx hsz => ?_
    have J : Inv X pins σ H { s with heap := h', toks := tk } := I.kept hx
    have freeF : H h'.objs.size = Option.none := J.hok.fresh (Nat.le_refl _)
    have J2 := inv_fn (F := ⟨name, X.env.qual ++ name, params, body, scope, cloFrom X.env.cells scope.names [], c⟩) (t' := tk) (doc := doc) (pm := (X.mg "__name__").getD .none) (ctv := ctv) J rfl
    have up : ∀ b u, H b = some u → upd H h'.objs.size (FnO h'.objs.size ⟨name, X.env.qual ++ name, params, body, scope, cloFrom X.env.cells scope.names [], c⟩) b = some u := fun b u e => by
      rw [upd_ne (ne_of_none e freeF)]
      exact e
    exact h h'.objs.size c _ _ J2 ⟨fun b u _ e => up b u e, fun b u e _ => up b u e, hT.ext up, freeF, upd_same, up _ _ kc⟩
end
end G
/-! a def within a def, as a statement; the captured cells lent to a call -/
namespace G
open PySem L2 NdefX LamX
section
variable {K : PySem.W.Frag} {C : Tbl} {g : Gw} {L : Lk} {kw : Vw} {io : List Addr} {O : Addr → Prop} {H : Hp} {σ : L2.St} {sd : DSt} {s : Store}
theorem StOk.notX (S : StOk K C g L kw io O H σ sd s) {a : Addr} {φ : Heap → Prop} (e : H a = some (.ext φ)) : ¬ (vw g io O H).X a := fun z => by
  rcases z with z | z | z
  · exact S.bx z φ e
  · obtain ⟨n, hn⟩ := List.getElem?_of_mem z
    have hl : n < s.length := by rw [← S.ce.len]; exact (List.getElem?_eq_some_iff.mp hn).1
    obtain ⟨b, ho, e1, e2, r⟩ := S.ce.get n s[n] (by simp [hl])
    have e1 : io[n]? = some b := e1
    rw [hn] at e1
    cases e1
    have e2 : H a = some ho := e2
    rw [e] at e2
    cases e2
    exact r.nx φ rfl
  · exact S.tb.xo a φ z e
theorem StOk.made {H1 : Hp} {f c : Addr} {F : NF} (S : StOk K C g L kw io O H σ sd s) (m : Made C.tb H H1 f c F) : StOk K C g L kw io O H1 σ sd s ∧ Grow (vw g io O H) (vw g io O H1) := by
  have nT : ∀ a, ¬ g.B a → ∀ p ∈ C.tb, p.1 ≠ a := fun a h p hp z => h (z ▸ S.tb.b p hp)
  have G : Grow (vw g io O H) (vw g io O H1) := ⟨fun a u x _ => x, fun a u x h => .inl (m.keep a u (nT a fun z => x (.inl z)) h), [], (List.append_nil _).symm⟩
  have same : ∀ a, ¬ g.B a → (∃ o, H a = some o) → H1 a = H a := fun a h ⟨o, e⟩ => by rw [e, m.keep a o (nT a h) e]
  have oB : ∀ a, O a → ¬ g.B a := fun a ha z => (S.bd a z).2.1 ha
  have iB : ∀ a, a ∈ io → ¬ g.B a := fun a ha z => (S.bd a z).1 ha
  refine ⟨⟨S.nio, S.dj, S.bd, fun a ha => ?_, S.pre, fun a o h1 h2 h3 => ?_, fun a od u h => m.ext _ _ (S.fz a od u h) (by intro _ z; cases z), fun e he => ?_, S.ce.grow G rfl fun a ha => same a (iB a ha) (S.io_some ha), S.sl.grow G fun a ha => ⟨ha, same a (oB a ha) (S.od a ha).2⟩, S.kp.trans G, S.an.trans G, ⟨m.tabs, S.tb.b, fun a φ ha e => ?_, S.tb.xb⟩⟩, G⟩
  · obtain ⟨h1, o, h2⟩ := S.od a ha
    exact ⟨h1, o, m.keep a o (nT a (oB a ha)) h2⟩
  · rcases S.fr a o h1 h2 h3 with ⟨q, z⟩ | q
    · exact .inl ⟨m.keep a o h3 q, z⟩
    · exact .inr q
  · obtain ⟨h1, h2⟩ := S.lk e he
    exact ⟨m.ext _ _ h1 (by intro _ z; cases z), h2⟩
  · rw [same a (oB a ha) (S.od a ha).2] at e
    exact S.tb.xo a φ ha e
theorem StOk.setF {i : Nat} {a : Addr} {x : Fv} (S : StOk K C g L kw io O H σ sd s) (r : RF K C (vw g io O H) a x) : StOk K C g L kw io O H (σ.set i (some (.ref a))) (sd.set i (some (.f x))) s := by
  refine S.reslot ⟨by simp [S.sl.len], fun j sl e => ?_, fun j k d1 d2 b h1 h2 h3 h4 => ?_⟩
  · rcases set_cases e with ⟨rfl, e, hl⟩ | ⟨hj, e⟩
    · cases e
      exact ⟨_, List.getElem?_set_self (by rw [S.sl.len]; exact hl), .f r⟩
    · obtain ⟨v, e1, r1⟩ := S.sl.get j sl e
      exact ⟨v, by rw [List.getElem?_set_ne hj]; exact e1, r1⟩
  · rcases set_cases h1 with ⟨_, z, _⟩ | ⟨hj, e1⟩
    · cases z
    · rcases set_cases h2 with ⟨_, z, _⟩ | ⟨hk, e2⟩
      · cases z
      · rw [List.getElem?_set_ne hj] at h3
        rw [List.getElem?_set_ne hk] at h4
        exact S.sl.inj j k d1 d2 b e1 e2 h3 h4
end
/-- def name(..): .. within a def: the slot i holds it -/
def tNdX (T : List NTab) (i : Nat) (mk : Addr → NF) : TS := fun D σ H => TabsN T H ∧ ∀ (f c : Addr) (H1 : Hp), Made T H H1 f c (mk c) → D.nx (σ.set i (some (.ref f))) H1
def dNdef (i : Nat) (mk : Addr → NF) : DS := fun D σ s => ∀ c, D.nx (σ.set i (some (.f (.mk (mk c))))) s
section
variable {X : Cx} {C : Tbl} {g : Gw} {L : Lk}
theorem ps_ndX {T : List NTab} {nm : Nat → Nat → Str} {cd P : Addr} {name : Str} {params : Arguments} {body : List Stmt} {scope : Scope} {pos : Pos} {i : Nat} (TB : TabB X.base X.mg cd P) (hcode : X.env.code = .ref cd) (hm : (P, nm) ∈ T) (hn : nm pos.line pos.col = X.env.qual ++ name) (hu : ∀ p ∈ T, p.1 = P → p.2 = nm)
    (ha : annTrees params none X.env = []) (hk0 : params.kw_defaults = []) (hd0 : params.defaults = []) (hfree : ∀ z ∈ scope.names, z.2 = .free → X.env.scope.names.lookup z.1 = some .cell ∨ X.env.scope.names.lookup z.1 = some .free)
    (hi : X.N[i]? = some name) (hN : X.N.Nodup) (hx : Loc X.env.scope name) (hf : X.fn name = true ∨ X.env.scope.names.lookup name = some .local) :
    PS X (.FunctionDef name params body [] none [] scope none name pos) (tNdX T i fun c => ⟨name, X.env.qual ++ name, params, body, scope, cloFrom X.env.cells scope.names [], c⟩) :=
  ⟨fun pins s σ H D I h => by
    have q : qualnameIn X.env name name = X.env.qual ++ name := by
      unfold qualnameIn
      rcases (show X.env.kindOf name = some .local ∨ X.env.kindOf name = some .cell from hx) with z | z
      · rw [z]; rfl
      · rw [z]; exact if_neg (by decide)
    have cells : ∀ y ∈ scope.names, y.2 = .free → ∃ c, X.env.cells.lookup y.1 = some c := fun y hy e => by
      rcases hfree y hy e with z | z
      · exact I.ok.has _ (.inl z)
      · exact I.ok.has _ (.inr z)
    apply PySem.W.nestDef_K hd0 hk0 ha
    rw [q]
    exact ndefT I TB hcode h.1 hm hu hn cells fun f c H1 s' I1 m => store_ok I1 hN hi hx (v := .ref f) rfl (fun s'' J => ⟨_, H1, J, h.2 f c H1 m⟩) hf⟩
theorem ps_ndXS {st : Stmt} {T : List NTab} {nm : Nat → Nat → Str} {cd P : Addr} {name : Str} {pos : Pos} {i : Nat} (hst : st = .FunctionDef name (C8.fnArgs st) (C8.fnBody st) [] none [] (C8.fnScope st) none name pos) (TB : TabB X.base X.mg cd P) (hcode : X.env.code = .ref cd) (hm : (P, nm) ∈ T) (hn : nm pos.line pos.col = X.env.qual ++ name)
    (hu : ∀ q ∈ T, q.1 = P → q.2 = nm) (hfree : ∀ z ∈ (C8.fnScope st).names, z.2 = .free → X.env.scope.names.lookup z.1 = some .cell ∨ X.env.scope.names.lookup z.1 = some .free) (hd0 : (C8.fnArgs st).defaults = []) (hk0 : (C8.fnArgs st).kw_defaults = []) (ha : annTrees (C8.fnArgs st) none X.env = [])
    (hN : X.N.Nodup) (hi : X.N[i]? = some name)
    (hx : Loc X.env.scope name) (hf : X.fn name = true ∨ X.env.scope.names.lookup name = some .local) :
    PS X st (tNdX T i (NF.of st name (X.env.qual ++ name) (cloFrom X.env.cells (C8.fnScope st).names []))) := by
  have r := ps_ndX (X := X) (params := C8.fnArgs st) (body := C8.fnBody st) (scope := C8.fnScope st) (pos := pos) TB hcode hm hn hu ha hk0 hd0 hfree hi hN hx hf
  exact hst ▸ r
theorem gs_ndef {st : Stmt} {i : Nat} {mk : Addr → NF} (hc : ∀ c, (mk c).c = c) (h : PS X st (tNdX C.tb i mk)) : PS X st (LS X.K C g L (dNdef i mk)) := h.imp fun T σ H ⟨kw, io, O, sd, s, D, S, hd, E⟩ =>
  ⟨S.tb.tb, fun f c H1 m => by
    obtain ⟨S1, _⟩ := S.made m
    have code : H1 (mk c).c = some (CodeO (mk c).c (mk c).qual) := by rw [hc]; exact m.code
    exact E.nx io O H1 _ _ s (hd c) (S1.setF (x := .mk (mk c)) ⟨fun z => (S.free m.new).1 z, m.fn, S1.notX code, code⟩)⟩
end
/-! ### lending -/
section
variable {cl : List (Str × Addr)} {H H' : Hp} {os : Addr → Obj} {P : Program} {w : World} {h h' : Heap}
abbrev IsLent (cl : List (Str × Addr)) (b : Addr) : Prop := ∃ y, cl.lookup y = some b
open Classical in
noncomputable def lendH (cl : List (Str × Addr)) (os : Addr → Obj) (H : Hp) : Hp := fun b => if IsLent cl b then some (.frz (os b) cellHO) else H b
open Classical in
noncomputable def unl (cl : List (Str × Addr)) (H : Hp) : Hp := fun b => if IsLent cl b then Option.none else H b
theorem lendH_in {b : Addr} (z : IsLent cl b) : lendH cl os H b = some (.frz (os b) cellHO) := if_pos z
theorem lendH_off {b : Addr} (z : ¬ IsLent cl b) : lendH cl os H b = H b := if_neg z
theorem unl_in {b : Addr} (z : IsLent cl b) : unl cl H b = Option.none := if_pos z
theorem unl_off {b : Addr} (z : ¬ IsLent cl b) : unl cl H b = H b := if_neg z
theorem lendH_keep (nil : ∀ b, IsLent cl b → H b = Option.none) {b : Addr} {o : HO} (e : H b = some o) : lendH cl os H b = some o := by
  rw [lendH_off fun z => by rw [nil b z] at e; cases e]
  exact e
theorem lend_ok (nil : ∀ b, IsLent cl b → H b = Option.none) (at_ : ∀ b, IsLent cl b → h.get? b = some (os b)) (hok : HOk P w H h) : HOk P w (lendH cl os H) h := fun a o e => by
  by_cases z : IsLent cl a
  · rw [lendH_in z] at e
    cases e
    exact ⟨at_ a z, trivial, ⟨_, at_ a z⟩, fun _ _ _ _ => trivial⟩
  · rw [lendH_off z] at e
    exact (hok a o e).stay (fun _ _ _ q => q) (fun b q => lendH_keep nil q) fun b xs q => lendH_keep nil q
theorem unl_ok (fz : ∀ b, IsLent cl b → H' b = some (.frz (os b) cellHO)) (hok : HOk P w H' h') : HOk P w (unl cl H') h' := fun a o e => by
  have off : ∀ b u, (∀ ob, u ≠ .frz ob cellHO) → H' b = some u → unl cl H' b = some u := fun b u k q => by
    rw [unl_off fun z => by rw [fz b z] at q; exact k _ (Option.some.inj q).symm]
    exact q
  by_cases z : IsLent cl a
  · rw [unl_in z] at e
    cases e
  · rw [unl_off z] at e
    exact (hok a o e).stay (fun _ _ _ q => q) (fun b q => off b _ (by intro _ z; cases z) q) fun b xs q => off b _ (by intro _ z; cases z) q
theorem unl_un {fs : List Addr} (nil : ∀ b, IsLent cl b → H b = Option.none) (at_ : ∀ b, IsLent cl b → h.get? b = some (os b)) (hok : HOk P w H' h') (u : Un fs [] (lendH cl os H) H' h h') : Un fs [] H (unl cl H') h h' ∧ ∀ b, IsLent cl b → H' b = some (.frz (os b) cellHO) := by
  have fz : ∀ b, IsLent cl b → H' b = some (.frz (os b) cellHO) := fun b z => u.frzs b _ _ (lendH_in z)
  have got : ∀ b, IsLent cl b → h'.get? b = some (os b) := fun b z => (hok b _ (fz b z)).1
  have no : ∀ b o, H b = some o → ¬ IsLent cl b := fun b o e z => by rw [nil b z] at e; cases e
  refine ⟨⟨fun b o e n k1 k2 => ?_, fun b o e n k1 k2 => ?_, fun b o e n k => ?_, u.there, fun b xs e => ?_, fun b o v e => ?_, fun b ps e => ?_⟩, fz⟩
  · by_cases z : IsLent cl b
    · rw [at_ b z] at e
      rw [got b z, e]
    · exact u.keep b o e (by rw [lendH_off z]; exact n) k1 k2
  · by_cases z : IsLent cl b
    · rw [at_ b z] at e
      cases e
      exact ⟨(os b).slots, got b z⟩
    · exact u.slot b o e (by rw [lendH_off z]; exact n) k1 k2
  · by_cases z : IsLent cl b
    · exact unl_in z
    · rw [unl_off z]
      exact u.free b o e (by rw [lendH_off z]; exact n) k
  · rw [unl_off (no b _ e)]
    exact u.tups b xs (lendH_keep nil e)
  · rw [unl_off (no b _ e)]
    exact u.frzs b o v (lendH_keep nil e)
  · rw [unl_off (no b _ e)]
    exact u.tbls b ps (lendH_keep nil e)
end
section
variable {X : Cx} {k : Nat} {f : Addr} {fd : FuncData} {ps : List Str} {sp : Sp} {x : Str} {p pos : Pos} {e : Expr} {es : List Expr} {t : TA}
/-- what is known of the cells when they are lent -/
structure LendOk (cl : List (Str × Addr)) (fr : List Str) (ws : List (Option V)) (os : Addr → Obj) (H : Hp) : Prop where
  nil : ∀ b, IsLent cl b → H b = Option.none
  cel : ∀ b, IsLent cl b → ∃ v, (os b).data = .cell v
  inj : ∀ y z b, cl.lookup y = some b → cl.lookup z = some b → y = z
  len : ws.length = fr.length
  has : ∀ (i : Nat) (y : Str), fr[i]? = some y → ∃ c, cl.lookup y = some c ∧ ∀ v, ws[i]? = some (some v) → ∃ u, RelV v u ∧ (os c).data = .cell (some u)
/-- f(..), the last argument a def made here: its cells are lent -/
def tCallLend (cl : List (Str × Addr)) (fr : List Str) (js : List Nat) (sp : Sp) (t : TA) : TE := fun σ H Q => t σ H fun vs H1 => ∀ os : Addr → Obj, LendOk cl fr (js.map (slotAt σ)) os H1 → sp vs (lendH cl os H1) (fun v H' => (∀ b, IsLent cl b → H' b = some (.frz (os b) cellHO)) → Q v (unl cl H')) fun _ _ _ => False
theorem run_lend {pins : List (Addr × Obj)} {σ : L2.St} {H : Hp} {s : Shared} {Q : VK} {us : List Value} {vs : List V} {cl : List (Str × Addr)} {fr : List Str} {js : List Nat} (F : FnOk X.prog X.w X.K X.mg X.base (L2.CX X.prog X.w) k f fd ps sp) (hr : Room k X.A) (hb : Binds X.K fd ps []) (cp : Caps X cl fr js) (fn : ∀ y, X.fn y = true)
    (I : L2.Inv X pins σ H s) (r : Vals vs us) (h : ∀ os : Addr → Obj, LendOk cl fr (js.map (slotAt σ)) os H → sp vs (lendH cl os H) (fun v H' => (∀ b, IsLent cl b → H' b = some (.frz (os b) cellHO)) → Q v (unl cl H')) fun _ _ _ => False) :
    wpAny (model X.prog X.w) X.A
      (call (.ref f) us) (EP X pins σ Q) X.xe s := by
  have ca := cells_of I cp
  obtain ⟨os, hos⟩ : ∃ os : Addr → Obj, ∀ c o, s.heap.get? c = some o → os c = o := ⟨fun c => (s.heap.get? c).getD default, fun c o e => by show (s.heap.get? c).getD default = o; rw [e]; rfl⟩
  have at_ : ∀ b, IsLent cl b → s.heap.get? b = some (os b) := fun b ⟨y, e⟩ => by
    obtain ⟨_, v, o, e1, _⟩ := ca.all y b e
    rw [hos b o e1]
    exact e1
  have nil : ∀ b, IsLent cl b → H b = Option.none := fun b ⟨y, e⟩ => (ca.all y b e).1
  have lo : LendOk cl fr (js.map (slotAt σ)) os H := ⟨nil, fun b ⟨y, e⟩ => by
    obtain ⟨_, v, o, e1, e2⟩ := ca.all y b e
    exact ⟨v, by rw [hos b o e1]; exact e2⟩, ca.inj, ca.len, fun i y e => by
    obtain ⟨c, e1, e2⟩ := ca.has i y e
    refine ⟨c, e1, fun v ev => ?_⟩
    obtain ⟨u, ru, o, h1, h2⟩ := e2 v ev
    exact ⟨u, ru, by rw [hos c o h1]; exact h2⟩⟩
  have q := h os lo
  have old : ∀ b o, X.base.get? b = some o → ¬ IsLent cl b := fun b o e ⟨y, z⟩ => by
    have a1 := I.ok.cab y b (fn y) (cp.sub y b z)
    exact Nat.lt_irrefl _ (Nat.lt_of_lt_of_le (Heap.lt_size e) (Nat.le_trans I.ok.bsz a1))
  have e0 := I.env0
  have frm : ∀ b ∈ frs X.stack, ¬ IsLent cl b := fun b hb ⟨y, z⟩ => by
    rcases List.mem_cons.mp (I.stkSub b hb) with e | e
    · obtain ⟨m, ⟨o, es, ep, ho, hd, _⟩, _⟩ := I.loc
      obtain ⟨_, v, o2, h1, h2⟩ := ca.all y b z
      rw [e, ho] at h1
      cases h1
      rw [hd] at h2
      cases h2
    · obtain ⟨_, o, ho, _⟩ := I.ok.funs.mem e
      exact Nat.lt_irrefl _ (Nat.lt_of_lt_of_le (Heap.lt_size ho) (I.ok.cab y b (fn y) (cp.sub y b z)))
  have e1 : Env0 X.prog X.w X.K X.mg X.base X.A X.stack s (lendH cl os H) := ⟨e0.frames, e0.mod, fun b o e => ⟨(e0.bs b o e).1, by rw [lendH_off (old b o e)]; exact (e0.bs b o e).2⟩, e0.bsz, e0.funs, fun b hb => by rw [lendH_off (frm b hb)]; exact e0.frf b hb, lend_ok nil at_ e0.hok, e0.bare⟩
  have hl : (us ++ []).length = ps.length := by rw [List.append_nil, ← r.length]; exact F.len _ _ _ _ q
  refine wpAny_call (codeAny_mono (F.run X.A X.stack s _ ⟨us, []⟩ us vs _ _ hr e1 (by have := hb s us I.kIn hl; rw [List.append_nil] at this; exact this) r q) fun res s' hq => ?_)
  cases res with
  | error e =>
    obtain ⟨_, _, _, _, _, _, _, _, _, _, _, _, z⟩ := hq
    exact z.elim
  | ok fl =>
    cases fl with
    | ret u =>
      obtain ⟨v, H', os', bare, un, hok, rv, k⟩ := hq
      obtain ⟨un2, fz⟩ := unl_un nil at_ hok un
      exact I.after ⟨v, _, os', bare, un2, unl_ok fz hok, rv, k fz⟩
    | next => exact False.elim hq
    | brk => exact False.elim hq
    | cont => exact False.elim hq
end
end G
/-! the cells lent, and taken back: data's sight -/
namespace G
open PySem L2 NdefX LamX
section
variable {K : PySem.W.Frag} {C : Tbl} {g : Gw} {L : Lk} {kw : Vw} {io : List Addr} {O : Addr → Prop} {H : Hp} {σ : L2.St} {sd : DSt} {s : Store} {cl : List (Str × Addr)} {os : Addr → Obj}
/-- what is seen does not stand in the lent cells -/
theorem unl_keep {H : Hp} (fz : ∀ b, IsLent cl b → H b = some (.frz (os b) cellHO)) {b : Addr} {u : HO} (k : ∀ o, u ≠ .frz o cellHO) (e : H b = some u) : unl cl H b = some u := by
  rw [unl_off fun z => by rw [fz b z] at e; exact k _ (Option.some.inj e).symm]
  exact e
theorem cellHO_ne {u : HO} (h : isDict u = true ∨ (∃ xs, u = .lst xs) ∨ ∃ xs, u = .tup xs) : u ≠ cellHO := by
  intro z
  subst z
  rcases h with h | ⟨_, h⟩ | ⟨_, h⟩
  · cases h
  · unfold cellHO at h; cases h
  · unfold cellHO at h; cases h
theorem RD.unl {w w' : Vw} (fz : ∀ b, IsLent cl b → w.H b = some (.frz (os b) cellHO)) (hX : w'.X = w.X) (hi : w'.io = w.io) (hH : w'.H = G.unl cl w.H) {v : V} {d : D} (r : RD K C w v d) : RD K C w' v d := by
  have keq : ∀ (b : Addr) (u : HO), (∀ o, u ≠ .frz o cellHO) → w.H b = some u → w'.H b = some u := fun b u k e => by rw [hH]; exact unl_keep fz k e
  have key : ∀ (b : Addr) (u : HO), u ≠ cellHO → (∀ o v, u ≠ .frz o v) → Rd w.H b u → Rd w'.H b u := fun b u n k e => by
    rcases e with e | ⟨o, e⟩
    · exact .inl (keq b u (fun o => k o _) e)
    · exact .inr ⟨o, keq b _ (fun o' z => by cases z; exact n rfl) e⟩
  have nx : ∀ {a : Addr}, ¬ w.X a → ¬ w'.X a := fun x => by rw [hX]; exact x
  refine RD.rec (K := K) (C := C) (w := w) (motive_1 := fun v d _ => RD K C w' v d) (motive_2 := fun vs ds _ => RL K C w' vs ds) (motive_3 := fun vs ds _ => RK K C w' vs ds) (motive_4 := fun vs ds _ => RT K C w' vs ds)
    .non .bl .int .str (fun h => .ref (by rw [hi]; exact h)) (fun h _ r => ?_) (fun x h _ r => .lst (nx x) (keq _ _ (by intro _ z; cases z) h) r) (fun x h _ r => .tup (nx x) (keq _ _ (by intro _ z; cases z) h) r) (fun x h _ r => .dK (nx x) (key _ _ (cellHO_ne (.inl rfl)) (by intro _ _ z; cases z) h) r) (fun x h _ r => .dT (nx x) (key _ _ (cellHO_ne (.inl rfl)) (by intro _ _ z; cases z) h) r) (fun x h _ r => .ins (nx x) (keq _ _ (by intro _ z; cases z) h) r) .raw
    .nil (fun _ _ h t => .cons h t) .nil (fun _ _ h t => .cons h t) .nil (fun _ _ h t => .cons h t) r
  rcases h with ⟨x, h⟩ | h
  · exact .ro (.inl ⟨nx x, key _ _ (cellHO_ne (.inr (.inl ⟨_, rfl⟩))) (by intro _ _ z; cases z) h⟩) r
  · exact .ro (.inr h) r
theorem RL.unl {w w' : Vw} (fz : ∀ b, IsLent cl b → w.H b = some (.frz (os b) cellHO)) (hX : w'.X = w.X) (hi : w'.io = w.io) (hH : w'.H = G.unl cl w.H) : ∀ {vs : List V} {ds : List D}, RL K C w vs ds → RL K C w' vs ds
  | _, _, .nil => .nil
  | _, _, .cons r t => .cons (r.unl fz hX hi hH) (RL.unl fz hX hi hH t)
theorem RK.unl {w w' : Vw} (fz : ∀ b, IsLent cl b → w.H b = some (.frz (os b) cellHO)) (hX : w'.X = w.X) (hi : w'.io = w.io) (hH : w'.H = G.unl cl w.H) : ∀ {vs : List (Key × V)} {ds : List (Key × D)}, RK K C w vs ds → RK K C w' vs ds
  | _, _, .nil => .nil
  | _, _, .cons r t => .cons (r.unl fz hX hi hH) (RK.unl fz hX hi hH t)
theorem RT.unl {w w' : Vw} (fz : ∀ b, IsLent cl b → w.H b = some (.frz (os b) cellHO)) (hX : w'.X = w.X) (hi : w'.io = w.io) (hH : w'.H = G.unl cl w.H) : ∀ {vs : List (List Key × V)} {ds : List (List Key × D)}, RT K C w vs ds → RT K C w' vs ds
  | _, _, .nil => .nil
  | _, _, .cons r t => .cons (r.unl fz hX hi hH) (RT.unl fz hX hi hH t)
theorem RC.unl {w w' : Vw} (fz : ∀ b, IsLent cl b → w.H b = some (.frz (os b) cellHO)) (hX : w'.X = w.X) (hi : w'.io = w.io) (hH : w'.H = G.unl cl w.H) {ho : HO} {d : D} (r : RC K C w ho d) : RC K C w' ho d := by
  induction r with
  | lst r => exact .lst (r.unl fz hX hi hH)
  | dK r => exact .dK (r.unl fz hX hi hH)
  | dT r => exact .dT (r.unl fz hX hi hH)
  | ins r => exact .ins (r.unl fz hX hi hH)
  | lk hd _ ih => exact .lk hd ih
theorem RC.ncell {w : Vw} {ho : HO} {d : D} (r : RC K C w ho d) : ∀ o, ho ≠ .frz o cellHO := fun o z => by
  subst z
  cases r with
  | lk h _ => cases h
theorem Cells.unl {w w' : Vw} (fz : ∀ b, IsLent cl b → w.H b = some (.frz (os b) cellHO)) (hX : w'.X = w.X) (hi : w'.io = w.io) (hH : w'.H = G.unl cl w.H) (c : Cells K C w s) : Cells K C w' s :=
  ⟨by rw [hi]; exact c.len, fun n d e => by
    obtain ⟨a, ho, e1, e2, r⟩ := c.get n d e
    exact ⟨a, ho, by rw [hi]; exact e1, by rw [hH]; exact unl_keep fz r.ncell e2, r.unl fz hX hi hH⟩⟩
theorem TabsN.unl {T : List NTab} {H : Hp} (fz : ∀ b, IsLent cl b → H b = some (.frz (os b) cellHO)) (t : TabsN T H) : TabsN T (G.unl cl H) := fun p hp => by
  obtain ⟨ps, h1, h2, h3⟩ := t p hp
  refine ⟨ps, unl_keep fz (by intro _ z; cases z) h1, h2, fun pos cv hc => ?_⟩
  obtain ⟨c, e1, e2⟩ := h3 _ _ hc
  exact ⟨c, e1, unl_keep fz (by intro _ z; unfold CodeO at z; cases z) e2⟩
/-- a call's inside, its heap h1, its outside: what the caller has -/
abbrev gAt (g : Gw) (io : List Addr) (O : Addr → Prop) (H1 : Hp) : Gw := ⟨fun a => g.B a ∨ O a, io, H1, kTop, []⟩
/-- the cells are lent: the callee's start -/
theorem StOk.lendIn (S : StOk K C g L kw io O H σ sd s) (nil : ∀ b, IsLent cl b → H b = none) : StOk K C (gAt g io O (lendH cl os H)) [] (vw (gAt g io O (lendH cl os H)) io no (lendH cl os H)) io no (lendH cl os H) [] [] s ∧ Grow (vw g io O H) (vw (gAt g io O (lendH cl os H)) io no (lendH cl os H)) := by
  have R := S.callIn
  have kp : ∀ {b : Addr} {o : HO}, H b = some o → lendH cl os H b = some o := fun e => lendH_keep nil e
  have G1 : Grow (vw (gIn g io O H) io no H) (vw (gAt g io O (lendH cl os H)) io no (lendH cl os H)) := ⟨fun a u x _ => x, fun a u x h => .inl (kp h), [], (List.append_nil _).symm⟩
  refine ⟨⟨R.nio, R.dj, fun a ha => ?_, fun _ z => z.elim, ⟨[], (List.append_nil _).symm, fun _ z => (nomatch z)⟩, fun a o h _ _ => .inl ⟨h, fun _ z => (nomatch z)⟩, fun a od u h => h, fun _ z => (nomatch z), R.ce.grow G1 rfl fun a ha => ?_, ⟨rfl, fun i sl e => by simp at e, fun i j d d' a e => by simp at e⟩, Grow.refl _, ⟨Grow.top _, [], rfl, fun _ z => (nomatch z)⟩, ⟨R.tb.tb.ext fun b o e => kp e, R.tb.b, fun _ _ z => z.elim, fun a φ z e => ?_⟩⟩, vw_in.trans G1⟩
  · obtain ⟨q1, q2, o, q3⟩ := R.bd a ha
    exact ⟨q1, q2, o, kp q3⟩
  · obtain ⟨o, e⟩ := S.io_some ha
    show lendH cl os H a = H a
    rw [kp e, e]
  · obtain ⟨q1, q2, o, q3⟩ := R.bd a z
    have e : lendH cl os H a = some (.ext φ) := e
    rw [kp q3] at e
    cases e
    exact R.tb.xb a φ z q3
/-- .. and the callee's end, the cells taken back -/
theorem StOk.lendOut {io' : List Addr} {P : Addr → Prop} {H' : Hp} {s' : Store} {kw' : Vw} (S : StOk K C g L kw io O H σ sd s) (nil : ∀ b, IsLent cl b → H b = none) (fz : ∀ b, IsLent cl b → H' b = some (.frz (os b) cellHO)) (R : StOk K C (gAt g io O (lendH cl os H)) [] kw' io' P H' [] [] s') :
    StOk K C (gIn g io O H) [] (vw (gIn g io O H) io' P (unl cl H')) io' P (unl cl H') [] [] s' := by
  have lk : ∀ {b : Addr} {o : HO}, H b = some o → lendH cl os H b = some o := fun e => lendH_keep nil e
  have off : ∀ {b : Addr} {o : HO}, H b = some o → ¬ IsLent cl b := fun {b o} e z => by rw [nil b z] at e; cases e
  have un : ∀ {b : Addr}, lendH cl os H b = none → ¬ IsLent cl b ∧ H b = none := fun {b} e => by
    have n : ¬ IsLent cl b := fun z => by rw [lendH_in z] at e; cases e
    rw [lendH_off n] at e
    exact ⟨n, e⟩
  refine ⟨R.nio, R.dj, fun a ha => ?_, fun a ha => ?_, ?_, fun a o h1 h2 h3 => ?_, fun a od u h => ?_, fun _ z => (nomatch z), Cells.unl (w := vw (gAt g io O (lendH cl os H)) io' P H') fz rfl rfl rfl R.ce, ⟨rfl, fun i sl e => by simp at e, fun i j d d' a e => by simp at e⟩, Grow.refl _, ⟨Grow.top _, [], rfl, fun _ z => (nomatch z)⟩, ⟨TabsN.unl fz R.tb.tb, R.tb.b, fun a φ ha e => ?_, S.callIn.tb.xb⟩⟩
  · obtain ⟨q1, q2, _⟩ := R.bd a ha
    exact ⟨q1, q2, (S.callIn.bd a ha).2.2⟩
  · obtain ⟨q1, o, q2⟩ := R.od a ha
    obtain ⟨n, q1⟩ := un q1
    exact ⟨q1, o, by rw [unl_off n]; exact q2⟩
  · obtain ⟨l, e, hl⟩ := R.pre
    exact ⟨l, e, fun a ha => (un (hl a ha)).2⟩
  · have h1 : H a = some o := h1
    rcases R.fr a o (lk h1) h2 h3 with ⟨q, z⟩ | ⟨_, q⟩
    · exact .inl ⟨by rw [unl_off (off h1)]; exact q, z⟩
    · cases q
  · have h : H a = some (.frz od u) := h
    rw [unl_off (off h)]
    exact R.fz a od u (lk h)
  · by_cases z : IsLent cl a
    · rw [unl_in z] at e; cases e
    · rw [unl_off z] at e
      exact R.tb.xo a φ ha e
/-- within a call of a lent def the cells are its own -/
theorem StOk.backIn (S : StOk K C g L kw io O H σ sd s) (fz : ∀ b, IsLent cl b → H b = some (.frz (os b) cellHO)) (nX : ∀ b, IsLent cl b → ¬ (vw g io O H).X b) : StOk K C (gAt g io O (unl cl H)) [] (vw (gAt g io O (unl cl H)) io no (unl cl H)) io no (unl cl H) [] [] s := by
  have R := S.callIn
  refine ⟨R.nio, R.dj, fun a ha => ?_, fun _ z => z.elim, ⟨[], (List.append_nil _).symm, fun _ z => (nomatch z)⟩, fun a o h _ _ => .inl ⟨h, fun _ z => (nomatch z)⟩, fun a od u h => h, fun _ z => (nomatch z), Cells.unl (w := vw (gIn g io O H) io no H) fz rfl rfl rfl R.ce, ⟨rfl, fun i sl e => by simp at e, fun i j d d' a e => by simp at e⟩, Grow.refl _, ⟨Grow.top _, [], rfl, fun _ z => (nomatch z)⟩, ⟨TabsN.unl fz R.tb.tb, R.tb.b, fun _ _ z => z.elim, fun a φ z e => ?_⟩⟩
  · obtain ⟨q1, q2, o, q3⟩ := R.bd a ha
    refine ⟨q1, q2, o, ?_⟩
    show unl cl H a = some o
    rw [unl_off fun z => nX a z (ha.elim .inl fun z => .inr (.inr z))]
    exact q3
  · have e : unl cl H a = some (.ext φ) := e
    rw [unl_off fun y => nX a y (z.elim .inl fun z => .inr (.inr z))] at e
    exact R.tb.xb a φ z e
theorem StOk.backOut {io' : List Addr} {P : Addr → Prop} {H' : Hp} {s' : Store} {kw' : Vw} (S : StOk K C g L kw io O H σ sd s) (fz : ∀ b, IsLent cl b → H b = some (.frz (os b) cellHO)) (nX : ∀ b, IsLent cl b → ¬ (vw g io O H).X b) (nil : ∀ b, IsLent cl b → H' b = none) (R : StOk K C (gAt g io O (unl cl H)) [] kw' io' P H' [] [] s') :
    StOk K C (gIn g io O H) [] (vw (gIn g io O H) io' P (lendH cl os H')) io' P (lendH cl os H') [] [] s' ∧ Grow (vw (gAt g io O (unl cl H)) io' P H') (vw (gIn g io O H) io' P (lendH cl os H')) := by
  have kp : ∀ {b : Addr} {o : HO}, H' b = some o → lendH cl os H' b = some o := fun e => lendH_keep nil e
  have off : ∀ {b : Addr} {o : HO}, H' b = some o → ¬ IsLent cl b := fun {b o} e z => by rw [nil b z] at e; cases e
  have G1 : Grow (vw (gAt g io O (unl cl H)) io' P H') (vw (gIn g io O H) io' P (lendH cl os H')) := ⟨fun a u x _ => x, fun a u x h => .inl (kp h), [], (List.append_nil _).symm⟩
  refine ⟨⟨R.nio, R.dj, fun a ha => ?_, fun a ha => ?_, ?_, fun a o h1 h2 h3 => ?_, fun a od u h => ?_, fun _ z => (nomatch z), R.ce.grow G1 rfl fun a ha => ?_, ⟨rfl, fun i sl e => by simp at e, fun i j d d' a e => by simp at e⟩, Grow.refl _, ⟨Grow.top _, [], rfl, fun _ z => (nomatch z)⟩, ⟨R.tb.tb.ext fun b o e => kp e, R.tb.b, fun a φ ha e => ?_, S.callIn.tb.xb⟩⟩, G1⟩
  · obtain ⟨q1, q2, _⟩ := R.bd a ha
    exact ⟨q1, q2, (S.callIn.bd a ha).2.2⟩
  · obtain ⟨q1, o, q2⟩ := R.od a ha
    have q1 : unl cl H a = none := q1
    rw [unl_off (off q2)] at q1
    exact ⟨q1, o, kp q2⟩
  · obtain ⟨l, e, hl⟩ := R.pre
    refine ⟨l, e, fun a ha => ?_⟩
    obtain ⟨o, q2⟩ := R.io_some (a := a) (by rw [e]; exact List.mem_append_right _ ha)
    have q1 : unl cl H a = none := hl a ha
    rw [unl_off (off q2)] at q1
    exact q1
  · have h1 : H a = some o := h1
    by_cases z : IsLent cl a
    · rw [fz a z] at h1
      cases h1
      exact .inl ⟨lendH_in z, fun _ z => (nomatch z)⟩
    · rcases R.fr a o (by show unl cl H a = some o; rw [unl_off z]; exact h1) h2 h3 with ⟨q, y⟩ | ⟨_, q⟩
      · exact .inl ⟨kp q, y⟩
      · cases q
  · have h : H a = some (.frz od u) := h
    by_cases z : IsLent cl a
    · rw [fz a z] at h
      cases h
      exact lendH_in z
    · exact kp (R.fz a od u (by show unl cl H a = _; rw [unl_off z]; exact h))
  · obtain ⟨o, e⟩ := R.io_some ha
    show lendH cl os H' a = H' a
    rw [kp e, e]
  · by_cases z : IsLent cl a
    · rw [lendH_in z] at e; cases e
    · rw [lendH_off z] at e
      exact R.tb.xo a φ ha e
end
end G
/-! defs handed to defs -/
namespace G
open PySem L2 NdefX LamX
section
variable {K : PySem.W.Frag} {C : Tbl} {g : Gw} {L : Lk} {kw : Vw} {io : List Addr} {O : Addr → Prop} {H : Hp} {σ : L2.St} {sd : DSt} {s : Store} {cl : List (Str × Addr)} {os : Addr → Obj}
/-- behind a call, its answer frozen -/
theorem StOk.callEnd {io' : List Addr} {P : Addr → Prop} {H' : Hp} {s' : Store} {kw' : Vw} {v : V} {r : Sl} (S : StOk K C g L kw io O H σ sd s) (R : StOk K C (gIn g io O H) [] kw' io' P H' [] [] s') (rr : RR K C (vw (gIn g io O H) io' P H') v r P) :
    StOk K C g L kw io' O H' σ sd s' ∧ Stp g io O H io' O H' ∧ RD K C (vw g io' O H') v (frzS r) := by
  cases rr with
  | v rd =>
    obtain ⟨S2, T2, _, G2⟩ := S.callOut (O' := O) R (fun a => ⟨.inl, fun z => z.elim id False.elim⟩)
    exact ⟨S2, T2, rd.grow G2⟩
  | @o a ho d h1 nf rc =>
    obtain ⟨S2, T2, hn, G2⟩ := S.callOut (O' := ores O a) R (fun a => Iff.rfl)
    obtain ⟨S3, G3⟩ := S2.unres (hn a rfl) (S.noOwn (hn a rfl))
    refine ⟨S3, ⟨T2.gr.trans G3, T2.ow⟩, RC.frz ?_ h1 nf ((rc.grow G2).grow G3)⟩
    exact fun z => z.elim (fun z => (S2.bd a z).2.1 (.inr rfl)) fun z => z.elim (S2.dj a (.inr rfl)) (hn a rfl)
theorem RR.unl {w w' : Vw} (fz : ∀ b, IsLent cl b → w.H b = some (.frz (os b) cellHO)) (hX : w'.X = w.X) (hi : w'.io = w.io) (hH : w'.H = G.unl cl w.H) {v : V} {r : Sl} {P : Addr → Prop} (rr : RR K C w v r P) : RR K C w' v r P := by
  cases rr with
  | v rd => exact .v (RD.unl fz hX hi hH rd)
  | o h nf rc => exact .o (by rw [hH]; exact unl_keep fz rc.ncell h) nf (RC.unl fz hX hi hH rc)
theorem RR.grow {w w' : Vw} {v : V} {r : Sl} {P : Addr → Prop} (rr : RR K C w v r P) (G : Grow w w') (k : ∀ a o, w.H a = some o → w'.H a = some o) : RR K C w' v r P := by
  cases rr with
  | v rd => exact .v (rd.grow G)
  | o h nf rc => exact .o (k _ _ h) nf (rc.grow G)
end
/-! ### the promises -/
/-- of a def whose last parameter is a def -/
abbrev DSpF := Nat → List D → DSp
def LFF (K : PySem.W.Frag) (C : Tbl) (sp : DSpF) : Sp := fun vs H Q E => ∃ vs0 a j caps B io s ds Qd Wd, vs = vs0 ++ [.ref a] ∧ StOk K C ⟨B, io, H, kTop, []⟩ [] (vw ⟨B, io, H, kTop, []⟩ io no H) io no H [] [] s ∧ RL K C (vw ⟨B, io, H, kTop, []⟩ io no H) vs0 ds ∧ RF K C (vw ⟨B, io, H, kTop, []⟩ io no H) a (.lent j caps) ∧ sp j caps ds s Qd Wd ∧
  (∀ r s' io' H' v P, Qd r s' → StOk K C ⟨B, io, H, kTop, []⟩ [] (vw ⟨B, io, H, kTop, []⟩ io no H) io' P H' [] [] s' → RR K C (vw ⟨B, io, H, kTop, []⟩ io' P H') v r P → Q v H') ∧
  (∀ x s' io' H' cls d, Wd x s' → StOk K C ⟨B, io, H, kTop, []⟩ [] (vw ⟨B, io, H, kTop, []⟩ io no H) io' no H' [] [] s' → RX K C (vw ⟨B, io, H, kTop, []⟩ io' no H') x cls d → E cls d H')
/-- what the captured names hold -/
def RLo (K : PySem.W.Frag) (C : Tbl) (w : Vw) (ws : List (Option V)) (caps : List D) : Prop := ws.length = caps.length ∧ ∀ (i : Nat) d, caps[i]? = some d → ∃ v, ws[i]? = some (some v) ∧ RD K C w v d
/-- of a def within a def -/
def LFN (K : PySem.W.Frag) (C : Tbl) (nsp : DSpF) (j : Nat) : List (Option V) → Sp := fun ws vs H Q E => ∃ B io s ds caps Qd Wd, StOk K C ⟨B, io, H, kTop, []⟩ [] (vw ⟨B, io, H, kTop, []⟩ io no H) io no H [] [] s ∧ RL K C (vw ⟨B, io, H, kTop, []⟩ io no H) vs ds ∧ RLo K C (vw ⟨B, io, H, kTop, []⟩ io no H) ws caps ∧ nsp j caps ds s Qd Wd ∧
  (∀ r s' io' H' v P, Qd r s' → StOk K C ⟨B, io, H, kTop, []⟩ [] (vw ⟨B, io, H, kTop, []⟩ io no H) io' P H' [] [] s' → RR K C (vw ⟨B, io, H, kTop, []⟩ io' P H') v r P → Q v H') ∧
  (∀ x s' io' H' cls d, Wd x s' → StOk K C ⟨B, io, H, kTop, []⟩ [] (vw ⟨B, io, H, kTop, []⟩ io no H) io' no H' [] [] s' → RX K C (vw ⟨B, io, H, kTop, []⟩ io' no H') x cls d → E cls d H')
/-! ### arguments, the last one a def -/
section
variable (K : PySem.W.Frag) (C : Tbl) (g : Gw) (L : Lk)
def LAF (a : DA) (i : Nat) : TA := fun σ H Q => ∃ kw io O sd s Qd x, StOk K C g L kw io O H σ sd s ∧ sd[i]? = some (some (.f x)) ∧ a sd s Qd ∧
  ∀ ds s' io' H' vs f, Qd ds s' → StOk K C g L kw io' O H' σ sd s' → Stp g io O H io' O H' → RL K C (vw g io' O H') vs ds → σ[i]? = some (some (.ref f)) → RF K C (vw g io' O H') f x → Q (vs ++ [.ref f]) H'
end
section
variable {X : Cx} {C : Tbl} {g : Gw} {L : Lk} {e : Expr} {es : List Expr} {de : DE} {da : DA} {pos p : Pos} {x : Str}
theorem gf_last (i : Nat) (h : PE X (.Name x pos) (tVar i)) (hs : starEach [.Name x pos] X.env = [(false, eval (.Name x pos) X.env)] := by rfl) : PA X [.Name x pos] (LAF X.K C g L aNil i) := (pa_cons h pa_nil hs).imp fun σ H Q ⟨kw, io, O, sd, s, Qd, y, S, hy, he, k⟩ => by
  obtain ⟨v, e1, r⟩ := S.sl.get i _ hy
  cases r with
  | f r => exact ⟨_, e1, k [] s io H [] _ he S (Stp.refl ..) .nil e1 r⟩
theorem gf_cons {i : Nat} (ha : PE X e (LE X.K C g L de)) (hr : PA X es (LAF X.K C g L da i)) (hs : starEach (e :: es) X.env = (false, eval e X.env) :: starEach es X.env := by rfl) : PA X (e :: es) (LAF X.K C g L (aCons de da) i) :=
  (pa_cons ha hr hs).imp fun σ H Q ⟨kw, io, O, sd, s, Qd, y, S, hy, he, k⟩ =>
    ⟨kw, io, O, sd, s, _, S, he, fun d s1 io1 H1 v q1 S1 T1 r1 => ⟨kw, io1, O, sd, s1, _, y, S1, hy, q1, fun ds s2 io2 H2 vs f q2 S2 T2 r2 e2 rf => k _ s2 io2 H2 _ f q2 S2 (T1.trans T2) (.cons (r1.grow T2.gr) r2) e2 rf⟩⟩
end
/-! ### a call that hands in a def made here -/
def capsD (σ : DSt) (js : List Nat) (caps : List D) : Prop := js.map (fun j => σ[j]?) = caps.map fun d => some (some (Sl.v d))
def dCallF (sp : DSpF) (j : Nat) (js : List Nat) (mk : Addr → NF) (i : Nat) (a : DA) : DE := fun σ s Q => ∃ c caps, σ[i]? = some (some (.f (.mk (mk c)))) ∧ capsD σ js caps ∧ a σ s fun ds s1 => sp j caps ds s1 (fun r s' => Q (frzS r) s') fun _ _ => False
section
variable {K : PySem.W.Frag} {C : Tbl} {g : Gw} {L : Lk} {kw : Vw} {io : List Addr} {O : Addr → Prop} {H : Hp} {σ : L2.St} {sd : DSt} {s : Store} {cl : List (Str × Addr)} {os : Addr → Obj}
theorem lent_of {js : List Nat} {caps : List D} {j : Nat} {c f : Addr} (S : StOk K C g L kw io O H σ sd s) (lo : LendOk cl (C.fr j) (js.map (slotAt σ)) os H) (hc : capsD sd js caps) (r : FnIs (vw g io O H) f (C.mkF j cl c)) :
    RF K C (vw (gAt g io O (lendH cl os H)) io no (lendH cl os H)) f (.lent j caps) := by
  obtain ⟨_, G1⟩ := S.lendIn (os := os) lo.nil
  have jl : js.length = caps.length := by
    have := congrArg List.length hc
    simpa using this
  refine ⟨cl, c, r.grow G1, lo.inj, fun y b e => ?_, ?_, fun i y d e1 e2 => ?_⟩
  · obtain ⟨v, hv⟩ := lo.cel b ⟨y, e⟩
    refine ⟨fun z => ?_, os b, v, lendH_in ⟨y, e⟩, hv⟩
    obtain ⟨nx, _⟩ := S.free (lo.nil b ⟨y, e⟩)
    exact nx (z.elim (fun z => z.elim .inl fun z => .inr (.inr z)) fun z => z.elim (fun z => .inr (.inl z)) False.elim)
  · have := lo.len
    rw [List.length_map] at this
    omega
  · obtain ⟨b, h1, h2⟩ := lo.has i y e1
    have hj := congrArg (fun l => l[i]?) hc
    simp only [List.getElem?_map, e2, Option.map_some] at hj
    cases ej : js[i]? with
    | none => rw [ej] at hj; cases hj
    | some jj =>
      rw [ej] at hj
      have hj : sd[jj]? = some (some (.v d)) := Option.some.inj hj
      obtain ⟨v, k1, k2⟩ := S.sl.get jj _ hj
      cases k2 with
      | v rd =>
        obtain ⟨u, ru, hu⟩ := h2 v (by rw [List.getElem?_map, ej]; exact congrArg some (slotAt_of k1))
        exact ⟨b, v, u, os b, h1, ru, rd.grow G1, lendH_in ⟨y, h1⟩, hu⟩
end
section
variable {X : Cx} {C : Tbl} {g : Gw} {L : Lk} {pos p : Pos} {k : Nat} {f : Addr} {fd : FuncData} {ps : List Str} {sp : DSpF} {x : Str} {e : Expr} {es : List Expr} {da : DA} {cl : List (Str × Addr)} {js : List Nat} {j i : Nat} {mk : Addr → NF}
/-- a lent def's promise, from the caller's state -/
theorem call_lend {kw : Vw} {io : List Addr} {O : Addr → Prop} {H : Hp} {σ : L2.St} {sd : DSt} {s : Store} {K : PySem.W.Frag} {vs : List V} {ds caps : List D} {Qd : DK} {Q : VK} {os : Addr → Obj} {c fa : Addr} (S : StOk K C g L kw io O H σ sd s) (r : RL K C (vw g io O H) vs ds) (lo : LendOk cl (C.fr j) (js.map (slotAt σ)) os H) (hc : capsD sd js caps) (rf : FnIs (vw g io O H) fa (C.mkF j cl c))
    (h : sp j caps ds s (fun r s' => Qd (frzS r) s') fun _ _ => False)
    (k : ∀ d s' io' H' v, Qd d s' → StOk K C g L kw io' O H' σ sd s' → Stp g io O H io' O H' → RD K C (vw g io' O H') v d → Q v H') :
    LFF K C sp (vs ++ [.ref fa]) (lendH cl os H) (fun v H' => (∀ b, IsLent cl b → H' b = some (.frz (os b) cellHO)) → Q v (unl cl H')) fun _ _ _ => False := by
  obtain ⟨S1, G1⟩ := S.lendIn (os := os) lo.nil
  refine ⟨vs, fa, j, caps, fun a => g.B a ∨ O a, io, s, ds, _, _, rfl, S1, r.grow G1, lent_of S lo hc rf, h, fun r s' io' H' v P q R rr fz => ?_, fun _ _ _ _ _ _ z => z.elim⟩
  have R1 := S.lendOut lo.nil fz R
  obtain ⟨S2, T2, rd⟩ := S.callEnd R1 (RR.unl (w := vw (gAt g io O (lendH cl os H)) io' P H') (w' := vw (gIn g io O H) io' P (unl cl H')) fz rfl rfl rfl rr)
  exact k _ s' io' _ v q S2 T2 rd
theorem g_callF (F : FnOk X.prog X.w X.K X.mg X.base (L2.CX X.prog X.w) k f fd ps (LFF X.K C sp)) (hr : Room k X.A) (hg : Gl X x) (hm : X.mg x = some (.ref f)) (hk : PySem.W.keepIn X.K (.ref f) = true) (hb : Binds X.K fd ps []) (hmk : ∀ c, mk c = C.mkF j cl c) (cp : X.Ok → Caps X cl (C.fr j) js) (fn : ∀ y, X.fn y = true)
    (ha : PA X (e :: es) (LAF X.K C g L da i)) (hdb : (x == ("__debug__" : Str)) = false := by decide) (he : starEach (e :: es) X.env = (false, eval e X.env) :: starEach es X.env := by rfl) (hpl : (backTo pos (starEach es X.env)).any (·.1) = false := by rfl) :
    PE X (.Call (.Name x p) (e :: es) [] pos) (LE X.K C g L (dCallF sp j js mk i da)) := by
  refine ⟨?_⟩
  intro pins s σ H Q I h
  obtain ⟨kw, io, O, sd, s0, Qd, S, ⟨c, caps, hs, hc, hd⟩, kk⟩ := h
  apply wpAny_Call_Name_kw
  refine ld_glob I hg hm ?_ hdb
  refine PySem.W.callWith_K (h₀ := X.base) I.ok.mod.kin hk (thn (ha.run pos pins s σ H (fun vs H1 => ∀ os : Addr → Obj, LendOk cl (C.fr j) (js.map (slotAt σ)) os H1 → LFF X.K C sp vs (lendH cl os H1) (fun v H' => (∀ b, IsLent cl b → H' b = some (.frz (os b) cellHO)) → Q v (unl cl H')) fun _ _ _ => False) I ?_) fun us s1 ⟨vs, H1, I1, r, q⟩ => ⟨I1.kIn, ?_⟩) he hpl
  · refine ⟨kw, io, O, sd, s0, _, .mk (mk c), S, hs, hd, fun ds s1 io1 H1 vs fa q S1 T1 r _ rf os lo => ?_⟩
    exact call_lend S1 r lo hc (c := c) (by rw [← hmk]; exact rf) q fun d s' io' H' v q' S' T' r' => kk d s' io' H' v q' S' (T1.trans T') r'
  · exact run_lend F hr hb (cp I1.ok) fn I1 r q
end
/-! ### a call of a def that was handed in -/
def dCallV (nsp : DSpF) (i : Nat) (a : DA) : DE := fun σ s Q => ∃ j caps, σ[i]? = some (some (.f (.lent j caps))) ∧ a σ s fun ds s1 => nsp j caps ds s1 (fun r s' => Q (frzS r) s') fun _ _ => False
section
variable {X : Cx} {pins : List (Addr × Obj)} {σ : L2.St} {H : Hp} {s : Shared} {Q : VK} {F : NF} {f : Addr} {ps fr : List Str} {spn : List (Option V) → Sp} {k n : Nat} {us : List Value} {vs : List V} {ws : List (Option V)} {os : Addr → Obj}
theorem run_back (Fn : NOk X.prog X.w X.K X.mg X.base (L2.CX X.prog X.w) k f F ps fr spn) (hr : Room n X.A) (hk : k ≤ n) (I : L2.Inv X pins σ H s) (hf : H f = some (FnO f F)) (hc : H F.c = some (CodeO F.c F.qual)) (fz : ∀ b, IsLent F.cl b → H b = some (.frz (os b) cellHO))
    (cel : ∀ b, IsLent F.cl b → ∃ v, (os b).data = .cell v) (inj : ∀ x y c, F.cl.lookup x = some c → F.cl.lookup y = some c → x = y) (len : ws.length = fr.length) (has : ∀ (i : Nat) (y : Str), fr[i]? = some y → ∃ c, F.cl.lookup y = some c ∧ ∀ v, ws[i]? = some (some v) → ∃ u, RelV v u ∧ (os c).data = .cell (some u))
    (r : Vals vs us) (q : spn ws vs (unl F.cl H) (fun v H' => (∀ b, IsLent F.cl b → H' b = none) → Q v (lendH F.cl os H')) fun _ _ _ => False) : wpAny (model X.prog X.w) X.A (call (.ref f) us) (EP X pins σ Q) X.xe s := by
  have got : ∀ b, IsLent F.cl b → s.heap.get? b = some (os b) := fun b z => (I.hok b _ (fz b z)).1
  have e0 := I.env0
  have off : ∀ b, H b = none → ¬ IsLent F.cl b := fun b e z => by rw [fz b z] at e; cases e
  have un0 : ∀ b, H b = none → unl F.cl H b = none := fun b e => by rw [unl_off (off b e)]; exact e
  have e1 : Env0 X.prog X.w X.K X.mg X.base X.A X.stack s (unl F.cl H) := ⟨e0.frames, e0.mod, fun b o e => ⟨(e0.bs b o e).1, un0 b (e0.bs b o e).2⟩, e0.bsz, e0.funs, fun b hb => un0 b (e0.frf b hb), unl_ok fz e0.hok, e0.bare⟩
  have hf1 : unl F.cl H f = some (FnO f F) := unl_keep fz (by intro _ z; unfold FnO at z; cases z) hf
  have hc1 : unl F.cl H F.c = some (CodeO F.c F.qual) := unl_keep fz (by intro _ z; unfold CodeO at z; cases z) hc
  have ca : CellsAt F.cl fr ws s.heap (unl F.cl H) := ⟨len, fun y c e => by
    obtain ⟨v, hv⟩ := cel c ⟨y, e⟩
    exact ⟨unl_in ⟨y, e⟩, v, os c, got c ⟨y, e⟩, hv⟩, inj, fun i y e => by
    obtain ⟨c, h1, h2⟩ := has i y e
    refine ⟨c, h1, fun v ev => ?_⟩
    obtain ⟨u, ru, hu⟩ := h2 v ev
    exact ⟨u, ru, os c, got c ⟨y, h1⟩, hu⟩⟩
  refine wpAny_call (codeAny_mono (Fn.run X.A X.stack s _ us vs ws _ _ (hr.mono hk) e1 hf1 hc1 ca r q) fun res s' hq => ?_)
  cases res with
  | error e =>
    obtain ⟨_, _, _, _, _, _, _, _, _, _, _, _, z⟩ := hq
    exact z.elim
  | ok fl =>
    cases fl with
    | ret u =>
      obtain ⟨v, H', os', bare, un, hok, rv, kq⟩ := hq
      have nil : ∀ b, IsLent F.cl b → H' b = none := fun b z => un.free b _ (got b z) (unl_in z) (by simp)
      have at2 : ∀ b, IsLent F.cl b → s'.heap.get? b = some (os b) := fun b z => un.keep b _ (got b z) (unl_in z) (fun y => off b (e0.frf b y) z) (by simp)
      have nl : ∀ b o, H b = some o → (∀ ob, o ≠ .frz ob cellHO) → ¬ IsLent F.cl b := fun b o e kx z => by rw [fz b z] at e; exact kx _ (Option.some.inj e).symm
      refine I.after ⟨v, _, os', bare, ⟨fun b o e n' k1 k2 => un.keep b o e (un0 b n') k1 k2, fun b o e n' k1 k2 => un.slot b o e (un0 b n') k1 k2, fun b o e n' k1 => ?_, un.there, fun b xs e => ?_, fun b o u' e => ?_, fun b qs e => ?_⟩, lend_ok nil at2 hok, rv, kq nil⟩
      · rw [lendH_off (off b n')]
        exact un.free b o e (un0 b n') k1
      · have z := nl b _ e (by intro _ z; cases z)
        rw [lendH_off z]
        exact un.tups b xs (by rw [unl_off z]; exact e)
      · by_cases z : IsLent F.cl b
        · rw [lendH_in z, ← fz b z]
          exact e
        · rw [lendH_off z]
          exact un.frzs b o u' (by rw [unl_off z]; exact e)
      · have z := nl b _ e (by intro _ z; cases z)
        rw [lendH_off z]
        exact un.tbls b qs (by rw [unl_off z]; exact e)
    | next => exact False.elim hq
    | brk => exact False.elim hq
    | cont => exact False.elim hq
end
section
variable {X : Cx} {C : Tbl} {g : Gw} {L : Lk} {pos p : Pos} {k n : Nat} {x : Str} {e : Expr} {es : List Expr} {da : DA} {i : Nat} {nsp : DSpF} {nps : Nat → List Str}
theorem call_back {kw : Vw} {io : List Addr} {O : Addr → Prop} {H : Hp} {σ : L2.St} {sd : DSt} {s : Store} {K : PySem.W.Frag} {vs : List V} {ds caps : List D} {Qd : DK} {Q : VK} {os : Addr → Obj} {cl : List (Str × Addr)} {ws : List (Option V)} {j : Nat} (S : StOk K C g L kw io O H σ sd s) (r : RL K C (vw g io O H) vs ds)
    (fz : ∀ b, IsLent cl b → H b = some (.frz (os b) cellHO)) (nX : ∀ b, IsLent cl b → ¬ (vw g io O H).X b) (rw_ : RLo K C (vw g io O H) ws caps) (h : nsp j caps ds s (fun r s' => Qd (frzS r) s') fun _ _ => False)
    (kk : ∀ d s' io' H' v, Qd d s' → StOk K C g L kw io' O H' σ sd s' → Stp g io O H io' O H' → RD K C (vw g io' O H') v d → Q v H') :
    LFN K C nsp j ws vs (unl cl H) (fun v H' => (∀ b, IsLent cl b → H' b = none) → Q v (lendH cl os H')) fun _ _ _ => False := by
  have S1 := S.backIn fz nX
  have G1 : Grow (vw g io O H) (vw (gIn g io O H) io no H) := vw_in
  have cv : ∀ {v d}, RD K C (vw g io O H) v d → RD K C (vw (gAt g io O (unl cl H)) io no (unl cl H)) v d := fun rd => RD.unl (w := vw (gIn g io O H) io no H) (w' := vw (gAt g io O (unl cl H)) io no (unl cl H)) fz rfl rfl rfl (rd.grow G1)
  refine ⟨fun a => g.B a ∨ O a, io, s, ds, caps, _, _, S1, RL.unl (w := vw (gIn g io O H) io no H) (w' := vw (gAt g io O (unl cl H)) io no (unl cl H)) fz rfl rfl rfl (r.grow G1), ⟨rw_.1, fun m d e => ?_⟩, h, fun r s' io' H' v P q R rr nil => ?_, fun _ _ _ _ _ _ z => z.elim⟩
  · obtain ⟨v, e1, rd⟩ := rw_.2 m d e
    exact ⟨v, e1, cv rd⟩
  · obtain ⟨R1, G2⟩ := S.backOut fz nX nil R
    obtain ⟨S2, T2, rd⟩ := S.callEnd R1 (rr.grow G2 fun a o e => lendH_keep nil e)
    exact kk _ s' io' _ v q S2 T2 rd
theorem g_callV (Fn : ∀ j cl c f, NOk X.prog X.w X.K X.mg X.base (L2.CX X.prog X.w) k f (C.mkF j cl c) (nps j) (C.fr j) (LFN X.K C nsp j)) (hr : Room n X.A) (hk : k ≤ n) (hN : X.N[i]? = some x) (hv : Vis X.env.scope x) (ha : PA X (e :: es) (LA X.K C g L da))
    (hd : (x == ("__debug__" : Str)) = false := by decide) (he : starEach (e :: es) X.env = (false, eval e X.env) :: starEach es X.env := by rfl)
    (hcd : (x == ("__classdict__" : Str)) = false := by decide) (hpl : (backTo pos (starEach es X.env)).any (·.1) = false := by rfl) :
    PE X (.Call (.Name x p) (e :: es) [] pos) (LE X.K C g L (dCallV nsp i da)) := by
  refine ⟨?_⟩
  intro pins s σ H Q I h
  obtain ⟨kw, io, O, sd, s0, Qd, S, ⟨j, caps, hs, hd2⟩, kk⟩ := h
  obtain ⟨v0, e1, r1⟩ := S.sl.get i _ hs
  cases r1 with
  | @f fa _ rf =>
    obtain ⟨cl, c, fi, le⟩ := rf
    refine wpAny_Call_Name_kw (thn ((pe_var (pos := p) hN hv hd hcd).run pins s σ H (fun v H1 => v = .ref fa ∧ H1 = H) I ⟨.ref fa, e1, rfl, rfl⟩) fun u s1 ⟨v, H1, I1, ru, q1⟩ => ?_)
    obtain ⟨ev, eH⟩ := q1
    subst ev
    rw [eH] at I1
    obtain rfl : u = Value.ref fa := ru
    refine PySem.W.callWith_F (first := []) (fnAt_of I1 fi.2.1) (thn (ha.run pos pins s1 σ H (fun vs H2 => ∃ os : Addr → Obj, ∃ ws, H2 fa = some (FnO fa (C.mkF j cl c)) ∧ H2 (C.mkF j cl c).c = some (CodeO (C.mkF j cl c).c (C.mkF j cl c).qual) ∧ (∀ b, IsLent cl b → H2 b = some (.frz (os b) cellHO)) ∧ (∀ b, IsLent cl b → ∃ v, (os b).data = .cell v) ∧ ws.length = (C.fr j).length ∧
        (∀ (i : Nat) (y : Str), (C.fr j)[i]? = some y → ∃ c, cl.lookup y = some c ∧ ∀ v, ws[i]? = some (some v) → ∃ u, RelV v u ∧ (os c).data = .cell (some u)) ∧ LFN X.K C nsp j ws vs (unl cl H2) (fun v H' => (∀ b, IsLent cl b → H' b = none) → Q v (lendH cl os H')) fun _ _ _ => False) I1 ?_) fun us s2 ⟨vs, H2, I2, r, os, ws, h1, h2, h3, h4, h5, h6, q⟩ => ⟨fnAt_of I2 h1, ?_⟩) he hpl
    · refine ⟨kw, io, O, sd, s0, _, S, hd2, fun ds s1 io1 H1 vs q S1 T1 r => ?_⟩
      have fi1 := fi.grow T1.gr
      have le1 := le.grow T1.gr
      obtain ⟨os, hos⟩ : ∃ os : Addr → Obj, ∀ b o, H1 b = some (.frz o cellHO) → os b = o := by
        refine ⟨fun b => match H1 b with | some (.frz o _) => o | _ => default, fun b o e => ?_⟩
        show (match H1 b with | some (.frz o _) => o | _ => default) = o
        rw [e]
      have fz : ∀ b, IsLent cl b → H1 b = some (.frz (os b) cellHO) := fun b ⟨y, e⟩ => by
        obtain ⟨_, o, v, h1, _⟩ := le1.all y b e
        have h1 : H1 b = some (.frz o cellHO) := h1
        rw [hos b o h1]
        exact h1
      obtain ⟨ws, hws, hl⟩ : ∃ ws : List (Option V), ws.length = caps.length ∧ ∀ (m : Nat) d, caps[m]? = some d → ∃ v, ws[m]? = some (some v) ∧ RD X.K C (vw g io1 O H1) v d ∧ ∀ y, (C.fr j)[m]? = some y → ∃ b u, cl.lookup y = some b ∧ RelV v u ∧ (os b).data = .cell (some u) := by
        have each : ∀ m : Nat, m < caps.length → ∃ v : V, ∀ d, caps[m]? = some d → RD X.K C (vw g io1 O H1) v d ∧ ∀ y, (C.fr j)[m]? = some y → ∃ b u, cl.lookup y = some b ∧ RelV v u ∧ (os b).data = .cell (some u) := fun m hm => by
          have hm2 : m < (C.fr j).length := by rw [← le1.len]; exact hm
          have ey : (C.fr j)[m]? = some (C.fr j)[m] := List.getElem?_eq_getElem hm2
          obtain ⟨b, v, u, o, k1, k2, k3, k4, k5⟩ := le1.has m _ _ ey (List.getElem?_eq_getElem hm)
          have k4 : H1 b = some (.frz o cellHO) := k4
          refine ⟨v, fun d e => ?_⟩
          rw [List.getElem?_eq_getElem hm] at e
          cases e
          refine ⟨k3, fun y e => ?_⟩
          rw [ey] at e
          cases e
          exact ⟨b, u, k1, k2, by rw [hos b o k4]; exact k5⟩
        refine ⟨(List.range caps.length).map fun m => if h : m < caps.length then some (each m h).choose else none, by simp, fun m d e => ?_⟩
        have hm : m < caps.length := (List.getElem?_eq_some_iff.mp e).1
        have z := (each m hm).choose_spec d e
        exact ⟨_, by rw [List.getElem?_map, List.getElem?_range hm]; simp only [Option.map_some, hm, dite_true], z⟩
      refine ⟨os, ws, fi1.2.1, fi1.2.2.2, fz, fun b ⟨y, e⟩ => ?_, by rw [hws]; exact le1.len, fun m y e => ?_, call_back S1 r fz (fun b ⟨y, e⟩ => (le1.all y b e).1) ⟨hws, fun m d e => ?_⟩ q fun d s' io' H' v q' S' T' r' => kk d s' io' H' v q' S' (T1.trans T') r'⟩
      · obtain ⟨_, o, v, h1, h2⟩ := le1.all y b e
        have h1 : H1 b = some (.frz o cellHO) := h1
        exact ⟨v, by rw [hos b o h1]; exact h2⟩
      · have hm : m < caps.length := by rw [le1.len]; exact (List.getElem?_eq_some_iff.mp e).1
        obtain ⟨v, e2, _, k2⟩ := hl m _ (List.getElem?_eq_getElem hm)
        obtain ⟨b, u, k3, k4, k5⟩ := k2 y e
        refine ⟨b, k3, fun v' e3 => ?_⟩
        rw [e2] at e3
        cases e3
        exact ⟨u, k4, k5⟩
      · obtain ⟨v, e2, k1, _⟩ := hl m d e
        exact ⟨v, e2, k1⟩
    · show wpAny _ _ (call (.ref fa) us) _ _ _
      exact run_back (F := C.mkF j cl c) (Fn j cl c fa) hr hk I2 h1 h2 h3 h4 le.inj h5 h6 r q
end
end G
/-! defs that make defs, defs that take defs, defs within defs: bodies -/
namespace G
open PySem L2 NdefX LamX
/-- the slots at the start of a def whose last parameter is a def; of a def within a def -/
def startDF (n : Nat) (ds : List D) (j : Nat) (caps : List D) : DSt := (ds.map (fun d => some (.v d)) ++ [some (.f (.lent j caps))]) ++ List.replicate (n - ds.length - 1) none
def startDN (n : Nat) (ds caps : List D) : DSt := (ds ++ caps).map (fun d => some (.v d)) ++ List.replicate (n - ds.length - caps.length) none
section
variable {K : PySem.W.Frag} {C : Tbl} {w : Vw} {O : Addr → Prop} {N : List Str} {vs : List V} {ds caps : List D} {ws : List (Option V)}
theorem RL.get? : ∀ {vs : List V} {ds : List D}, RL K C w vs ds → ∀ {i : Nat} {d : D}, ds[i]? = some d → ∃ v, vs[i]? = some v ∧ RD K C w v d := fun r _ _ e => r.get e
theorem start_okF {a : Addr} {j : Nat} (r : RL K C w vs ds) (rf : RF K C w a (.lent j caps)) : RSt K C w O (L2.start N (vs ++ [.ref a])) (startDF N.length ds j caps) := by
  have hl := r.length
  refine ⟨by simp [L2.start, startDF, hl]; omega, fun i sl e => ?_, fun i j d d' a e => ?_⟩
  · unfold startDF at e
    by_cases h : i < ds.length
    · rw [List.getElem?_append_left (by simp; omega), List.getElem?_append_left (by simpa using h), List.getElem?_map, List.getElem?_eq_getElem h] at e
      cases e
      obtain ⟨v, q1, q2⟩ := r.get (List.getElem?_eq_getElem h)
      refine ⟨v, ?_, .v q2⟩
      unfold L2.start
      rw [List.getElem?_append_left (by simp; omega), List.getElem?_map, List.getElem?_append_left (by omega), q1]
      rfl
    · by_cases h2 : i = ds.length
      · subst h2
        rw [List.getElem?_append_left (by simp), List.getElem?_append_right (by simp)] at e
        simp at e
        subst e
        refine ⟨.ref a, ?_, .f rf⟩
        unfold L2.start
        rw [List.getElem?_append_left (by simp; omega), List.getElem?_map, List.getElem?_append_right (by omega), hl, Nat.sub_self]
        rfl
      · rw [List.getElem?_append_right (by simp; omega)] at e
        have := List.mem_of_getElem? e
        simp at this
  · exfalso
    unfold startDF at e
    have := List.mem_of_getElem? e
    simp at this
theorem start_okN (r : RL K C w vs ds) (ro : RLo K C w ws caps) : RSt K C w O (startF N vs ws) (startDN N.length ds caps) := by
  have hl := r.length
  have hw := ro.1
  refine ⟨by simp [startF, startDN, hl, hw], fun i sl e => ?_, fun i j d d' a e => ?_⟩
  · unfold startDN at e
    by_cases h : i < ds.length
    · rw [List.getElem?_append_left (by simp; omega), List.getElem?_map, List.getElem?_append_left h, List.getElem?_eq_getElem h] at e
      cases e
      obtain ⟨v, q1, q2⟩ := r.get (List.getElem?_eq_getElem h)
      refine ⟨v, ?_, .v q2⟩
      unfold startF
      rw [List.getElem?_append_left (by simp; omega), List.getElem?_map, q1]
      rfl
    · by_cases h2 : i < ds.length + caps.length
      · have h3 : i - ds.length < caps.length := by omega
        rw [List.getElem?_append_left (by simp; omega), List.getElem?_map, List.getElem?_append_right (by omega), List.getElem?_eq_getElem h3] at e
        cases e
        obtain ⟨v, q1, q2⟩ := ro.2 _ _ (List.getElem?_eq_getElem h3)
        refine ⟨v, ?_, .v q2⟩
        unfold startF
        rw [List.getElem?_append_right (by simp; omega), List.length_map, hl, List.getElem?_append_left (by omega)]
        exact q1
      · rw [List.getElem?_append_right (by simp; omega)] at e
        have := List.mem_of_getElem? e
        simp at this
  · exfalso
    unfold startDN at e
    have := List.mem_of_getElem? e
    simp at this
theorem StOk.rebase2 {g : Gw} {L : Lk} {kw k2 : Vw} {io : List Addr} {H : Hp} {σ : L2.St} {sd : DSt} {s : Store} (S : StOk K C g L kw io O H σ sd s) (G : Grow k2 (vw g io O H)) : StOk K C g L k2 io O H σ sd s :=
  ⟨S.nio, S.dj, S.bd, S.od, S.pre, S.fr, S.fz, S.lk, S.ce, S.sl, G, S.an, S.tb⟩
/-- a body's reading from its start -/
theorem body_at {B : Addr → Prop} {io : List Addr} {s : Store} {H : Hp} {Q : VK} {E : XK} {Qd : Sl → Store → Prop} {Wd : DX → Store → Prop} {σ : L2.St} {sd : DSt} {t : DW → DS} (S : StOk K C ⟨B, io, H, kTop, []⟩ [] (vw ⟨B, io, H, kTop, []⟩ io no H) io no H [] [] s)
    (R : RSt K C (vw ⟨B, io, H, kTop, []⟩ io no H) no σ sd)
    (k1 : ∀ r s' io' H' v P, Qd r s' → StOk K C ⟨B, io, H, kTop, []⟩ [] (vw ⟨B, io, H, kTop, []⟩ io no H) io' P H' [] [] s' → RR K C (vw ⟨B, io, H, kTop, []⟩ io' P H') v r P → Q v H')
    (k2 : ∀ x s' io' H' cls d, Wd x s' → StOk K C ⟨B, io, H, kTop, []⟩ [] (vw ⟨B, io, H, kTop, []⟩ io no H) io' no H' [] [] s' → RX K C (vw ⟨B, io, H, kTop, []⟩ io' no H') x cls d → E cls d H')
    (h : t (fun x _ s => Wd x s) (dEnd Qd) sd s) :
    (∀ cls d σ H', LW K C ⟨B, io, H, kTop, []⟩ [] (fun x _ s => Wd x s) cls d σ H' → E cls d H') ∧ LS K C ⟨B, io, H, kTop, []⟩ [] (t fun x _ s => Wd x s) { nx := fun _ H' => Q .non H', rt := Q } σ H := by
  refine ⟨fun cls d σ H' ⟨kw, io', O, sd', s', x, S', rx, q⟩ => ?_, _, io, no, sd, s, dEnd Qd, S.reslot R, h, ⟨fun io' O' H' σ' sd' s' q S' => ?_, fun r s' io' P H' v q S' rr => k1 r s' io' H' v P q S' rr, fun io' O' H' σ' sd' s' q => q.elim, fun io' O' H' σ' sd' s' q => q.elim⟩⟩
  · obtain ⟨S2, G2⟩ := S'.exit (P := no) (fun _ z => z.elim)
    refine k2 x s' io' H' cls d q (S2.rebase2 ?_) (rx.grow G2)
    refine ⟨fun a u x h z => ?_, fun a u x h => ?_, ?_⟩
    · rcases z with z | z | z
      · exact x (.inl z)
      · obtain ⟨l, e, hl⟩ := S2.pre
        have e : io' = io ++ l := e
        rw [e] at z
        rcases (List.mem_append).1 z with z | z
        · exact x (.inr (.inl z))
        · have : H a = some u := h
          have hz : H a = none := hl a z
          rw [hz] at this; cases this
      · exact z
    · rcases S2.fr a u h (fun z => x (.inr (.inl z))) (fun p hp z => x (.inl (z ▸ S2.tb.b p hp))) with ⟨q, _⟩ | ⟨_, q⟩
      · exact .inl q
      · cases q
    · obtain ⟨l, e, _⟩ := S2.pre
      exact ⟨l, e⟩
  · obtain ⟨S2, G2⟩ := S'.exit (P := no) (fun _ z => z.elim)
    exact k1 _ s' io' H' .non no q S2 (.v .non)
end
/-! ### the rules -/
section
variable {P : Program} {w : World} {K : PySem.W.Frag} {mg : Str → Option Value} {base : Heap} {x qual : Str} {params : Arguments} {body : List Stmt} {scope : Scope} {dvs : List V} {kws : List (Str × V)} {f : Addr} {fd : FuncData} {C : Tbl}
/-- of a def whose last parameter is a def -/
theorem g_fnF {N ps : List Str} {k : Nat} {sp : DSpF} {t : DW → DS} (F : FunD K x qual params body scope dvs kws f fd) (S : FnScope N ps scope) (hlen : ∀ j caps ds s Q W, sp j caps ds s Q W → ds.length + 1 = ps.length)
    (hder : ∀ (X : Cx) (cdv : Value) (A : Around) (outer : List Env) (s : Shared) (H : Hp) (E : XK) (g : Gw) (W : DW), X = cxOf (L2.CX P w) P w K mg base N qual scope f cdv A outer s H E → Room k X.A → Takes X (LW X.K C g [] W) → PassesOwn (model X.prog X.w) X.A X.env X.xe → PSs X body (LS X.K C g [] (t W)))
    (hb : ∀ j caps ds s Q W, sp j caps ds s Q W → t (fun x _ s => W x s) (dEnd Q) (startDF N.length ds j caps) s) : FnOk P w K mg base (L2.CX P w) (k + 1) f fd ps (LFF K C sp) := by
  refine F.ok S (fun vs H Q E ⟨vs0, a, j, caps, B, io, s, ds, Qd, Wd, e, _, r, _, h, _⟩ => ?_) fun cdv A outer s H vs Q E hr h => ?_
  · rw [e, List.length_append, r.length]
    exact hlen _ _ _ _ _ _ h
  · obtain ⟨vs0, a, j, caps, B, io, s1, ds, Qd, Wd, rfl, St, r, rf, hs, k1, k2⟩ := h
    obtain ⟨hE, hL⟩ := body_at (t := t) (Q := Q) (E := E) St (start_okF (N := N) r rf) k1 k2 (hb j caps ds s1 Qd Wd hs)
    exact ⟨_, hder _ cdv A outer s H E _ _ rfl hr ((takes_of rfl rfl rfl rfl).imp fun cls d σ H' q => hE cls d σ H' q) (passes_of rfl), hL⟩
/-- of a def within a def -/
theorem g_nfn {N ps fr : List Str} {k j : Nat} {nsp : DSpF} {t : DW → DS} {cl : List (Str × Addr)} {c : Addr} (S : NScope N ps fr (C.mkF j cl c).scope) (hbd : ∀ (doc pm ctv : Value) (us : List Value), us.length = ps.length → bindArgs ((C.mkF j cl c).fd doc pm ctv) ⟨us, []⟩ = pure (ps.zip us))
    (hlen : ∀ caps ds s Q W, nsp j caps ds s Q W → ds.length = ps.length)
    (hder : ∀ (X : Cx) (A : Around) (outer : List Env) (s : Shared) (H : Hp) (E : XK) (g : Gw) (W : DW), X = ncx (L2.CX P w) P w K mg base N (C.mkF j cl c) f A outer s H E → Room k X.A → Takes X (LW X.K C g [] W) → PassesOwn (model X.prog X.w) X.A X.env X.xe → PSs X (C.mkF j cl c).body (LS X.K C g [] (t W)))
    (hb : ∀ caps ds s Q W, nsp j caps ds s Q W → t (fun x _ s => W x s) (dEnd Q) (startDN N.length ds caps) s) : NOk P w K mg base (L2.CX P w) (k + 1) f (C.mkF j cl c) ps fr (LFN K C nsp j) := by
  refine nok_of S hbd (fun ws vs H Q E ⟨B, io, s, ds, caps, Qd, Wd, _, r, _, h, _⟩ => by rw [r.length]; exact hlen _ _ _ _ _ h) fun A outer s H vs ws Q E hr _ _ _ h => ?_
  obtain ⟨B, io, s1, ds, caps, Qd, Wd, St, r, ro, hs, k1, k2⟩ := h
  obtain ⟨hE, hL⟩ := body_at (t := t) (Q := Q) (E := E) St (start_okN (N := N) r ro) k1 k2 (hb caps ds s1 Qd Wd hs)
  exact ⟨_, hder _ A outer s H E _ _ rfl hr ((takes_of rfl rfl rfl rfl).imp fun cls d σ H' q => hE cls d σ H' q) (passes_of rfl), hL⟩
/-- a number that is no def's -/
theorem g_nfn_none {ps fr : List Str} {k j : Nat} {nsp : DSpF} {F : NF} (h : ∀ caps ds s Q W, ¬ nsp j caps ds s Q W) : NOk P w K mg base (L2.CX P w) k f F ps fr (LFN K C nsp j) :=
  ⟨fun ws vs H Q E ⟨B, io, s, ds, caps, Qd, Wd, _, _, _, z, _⟩ => (h _ _ _ _ _ z).elim, fun A outer s H us vs ws Q E _ _ _ _ _ _ ⟨B, io, s1, ds, caps, Qd, Wd, _, _, _, z, _⟩ => (h _ _ _ _ _ z).elim⟩
/-- its code object is the one that K tells -/
theorem FunD.okC {CX : CXT} {N ps : List Str} {k : Nat} {sp : Sp} {p : He.Defn} (F : FunD K x qual params body scope dvs kws (He.fAd K p) fd) (S : FnScope N ps scope) (len : ∀ vs H Q E, sp vs H Q E → vs.length = ps.length)
    (hbody : ∀ (A : Around) (outer : List Env) (s : Shared) (H : Hp) (vs : List V) (Q : VK) (E : XK), Room k (A.deeper (PyProof.Rows.envOfC qual scope s.heap.objs.size (He.fAd K p) (.ref (He.codeOf K p)))) → sp vs H Q E →
      ∃ t, PSs (cxOf CX P w K mg base N qual scope (He.fAd K p) (.ref (He.codeOf K p)) A outer s H E) body t ∧ t { nx := fun _ H' => Q .non H', rt := Q } (start N vs) H) : FnOk P w K mg base CX (k + 1) (He.fAd K p) fd ps sp := by
  obtain ⟨o1, o2, v1, v2, v3, v4, an, cdv, ct, sl, rfl, lk, hcd, _⟩ := F.ex
  obtain ⟨c, rfl⟩ := He.codeIn_ref hcd
  have e : He.codeOf K p = c := He.codeOf_eq lk rfl
  rw [← e] at lk hcd ⊢
  exact fn_of lk hcd S len hbody
/-- a def that has defs within -/
theorem g_fnC {N ps : List Str} {k : Nat} {sp : DSp} {t : List (Str × Addr) → DW → DS} {p : He.Defn} (F : FunD K x qual params body scope dvs kws (He.fAd K p) fd) (S : FnScope N ps scope) (hlen : ∀ ds s Q W, sp ds s Q W → ds.length = ps.length)
    (hder : ∀ (X : Cx) (A : Around) (outer : List Env) (s : Shared) (H : Hp) (E : XK) (g : Gw) (W : DW), X = cxOf (L2.CX P w) P w K mg base N qual scope (He.fAd K p) (.ref (He.codeOf K p)) A outer s H E → Room k X.A → Takes X (LW X.K C g [] W) → PassesOwn (model X.prog X.w) X.A X.env X.xe → PSs X body (LS X.K C g [] (t X.env.cells W)))
    (hb : ∀ ce ds s Q W, sp ds s Q W → t ce (fun x _ s => W x s) (dEnd Q) (startD N.length ds) s) : FnOk P w K mg base (L2.CX P w) (k + 1) (He.fAd K p) fd ps (LF K C sp) := by
  refine FunD.okC F S (LF.len hlen) fun A outer s H vs Q E hr h => ?_
  obtain ⟨B, io, s1, ds, Qd, Wd, St, r, hs, k1, k2⟩ := h
  obtain ⟨hE, hL⟩ := body_at (t := t (cxOf (L2.CX P w) P w K mg base N qual scope (He.fAd K p) (.ref (He.codeOf K p)) A outer s H E).env.cells) (Q := Q) (E := E) St (start_ok (N := N) r) k1 k2 (hb _ ds s1 Qd Wd hs)
  exact ⟨_, hder _ A outer s H E _ _ rfl hr ((takes_of rfl rfl rfl rfl).imp fun cls d σ H' q => hE cls d σ H' q) (passes_of rfl), hL⟩
/-- the law, with defs within -/
theorem g_lawC {N ps : List Str} {k : Nat} {sp : DSp} {t : List (Str × Addr) → DW → DS} {p : He.Defn} (F : FunD K x qual params body scope dvs kws (He.fAd K p) fd) (S : FnScope N ps scope) (hlen : ∀ ds s Q W, sp ds s Q W → ds.length = ps.length)
    (hder : ∀ (X : Cx) (A : Around) (outer : List Env) (s : Shared) (H : Hp) (E : XK) (g : Gw), X = (cxOf CX0 P w K mg base N qual scope (He.fAd K p) (.ref (He.codeOf K p)) A outer s H E).nox → Room k X.A → Takes X (LW X.K C g [] fun _ _ _ => False) → PassesOwn (model X.prog X.w) X.A X.env X.xe → PSs X body (LS X.K C g [] (t X.env.cells fun _ _ _ => False)))
    (hsp : ∀ ds s Q W, sp ds s Q W → sp ds s Q fun _ _ => False) (hb : ∀ ce ds s Q, sp ds s Q (fun _ _ => False) → t ce (fun _ _ _ => False) (dEnd Q) (startD N.length ds) s) : FnOk P w K mg base CX0 (k + 1) (He.fAd K p) fd ps (LF K C sp) := by
  refine FunD.okC F S (LF.len hlen) fun A outer s H vs Q E hr h => ?_
  obtain ⟨B, io, s1, ds, Qd, Wd, St, r, hs, k1, k2⟩ := h
  obtain ⟨hE, hL⟩ := body_at (t := fun _ => t (cxOf CX0 P w K mg base N qual scope (He.fAd K p) (.ref (He.codeOf K p)) A outer s H E).env.cells fun _ _ _ => False) (Q := Q) (E := fun _ _ _ => False) (Wd := fun _ _ => False) St (start_ok (N := N) r) k1 (fun _ _ _ _ _ _ z => z.elim) (hb _ ds s1 Qd (hsp _ _ _ _ hs))
  refine ⟨_, PSs.nox (hder _ A outer s H E _ rfl hr ?_ PassesOwn.never), hL⟩
  exact L2.takes0.imp fun cls d σ H' ⟨_, _, _, _, _, _, _, _, z⟩ => z
end
/-- the law's start, with tables -/
theorem law_startT {K : PySem.W.Frag} {C : Tbl} {sp : DSp} {H : Hp} {a : Addr} {ns : List Int} (h : sp [.ro (ns.map D.int)] [] (fun r _ => r = .v (.bl true)) fun _ _ => False) (hS : SqL K H a (ns.map V.int)) (hT : ∀ p ∈ C.tb, H p.1 = some (.tbl #[])) : LF K C sp [.ref a] H (fun v _ => v = .bl true) fun _ _ _ => False := by
  refine ⟨fun b => ∃ p ∈ C.tb, p.1 = b, [], [], [.ro (ns.map D.int)], _, _, ⟨List.nodup_nil, fun _ z => z.elim, fun b ⟨p, hp, z⟩ => ⟨fun y => (nomatch y), fun y => y, _, z ▸ hT p hp⟩, fun _ z => z.elim, ⟨[], rfl, fun _ z => (nomatch z)⟩, fun b o h _ _ => .inl ⟨h, fun _ z => (nomatch z)⟩, fun _ _ _ h => h, fun _ z => (nomatch z), ⟨rfl, fun n d e => by simp at e⟩, ⟨rfl, fun i sl e => by simp at e, fun i j d d' a e => by simp at e⟩, Grow.refl _, ⟨Grow.top _, [], rfl, fun _ z => (nomatch z)⟩, ⟨fun p hp => .nil (hT p hp), fun p hp => ⟨p, hp, rfl⟩, fun _ _ z => z.elim, fun b φ ⟨p, hp, z⟩ e => ?_⟩⟩, .cons (.ro ?_ (RL.of_ints ns)) .nil, h, fun r s' io' H' v P q S rr => ?_, fun x s' io' H' cls d q => q.elim⟩
  · have e : H b = some (.ext φ) := e
    rw [← z, hT p hp] at e
    cases e
  · rcases hS with hS | hS
    · refine .inl ⟨fun z => ?_, hS⟩
      rcases z with ⟨p, hp, z⟩ | z | z
      · rcases hS with hS | ⟨o, hS⟩
        · have hS : H a = some _ := hS
          rw [← z, hT p hp] at hS
          cases hS
        · have hS : H a = some _ := hS
          rw [← z, hT p hp] at hS
          cases hS
      · cases z
      · exact z
    · exact .inr fun _ => .inr hS
  · subst q
    cases rr with
    | v r => cases r; rfl
end G
/-! o.m(.., a def made here) -/
namespace G
open PySem L2 NdefX LamX
def dMeF (c : Nat) (sp : DSpF) (j : Nat) (js : List Nat) (mk : Addr → NF) (i : Nat) (o : DE) (a : DA) : DE := fun σ s Q => ∃ cc caps, σ[i]? = some (some (.f (.mk (mk cc)))) ∧ capsD σ js caps ∧ o σ s fun x s1 => match deref s1 (.v x) with
  | .ins c' _ => c' = c ∧ a σ s1 fun ds s2 => sp j caps (x :: ds) s2 (fun r s' => Q (frzS r) s') fun _ _ => False
  | _ => False
section
variable {X : Cx} {C : Tbl} {g : Gw} {L : Lk} {pos apos : Pos} {k : Nat} {f : Addr} {fd : FuncData} {ps : List Str} {sp : DSpF} {m : Str} {e o : Expr} {es : List Expr} {de : DE} {da : DA} {cl : List (Str × Addr)} {js : List Nat} {j i c : Nat} {mk : Addr → NF}
theorem g_meF {pl : Sem Bool} (he : PE X o (LE X.K C g L de)) (hc : Cls X.K (C.ad c)) (hm : Meth X.K (C.ad c) m f) (hf : m ∉ C.fl c) (F : FnOk X.prog X.w X.K X.mg X.base (L2.CX X.prog X.w) k f fd ps (LFF X.K C sp)) (hr : Room k X.A) (hb : Binds X.K fd ps []) (hmk : ∀ c, mk c = C.mkF j cl c) (cp : X.Ok → Caps X cl (C.fr j) js) (fn : ∀ y, X.fn y = true)
    (ha : PA X (e :: es) (LAF X.K C g L da i)) (hst : starEach (e :: es) X.env = (false, eval e X.env) :: starEach es X.env := by rfl) (hpl : (backTo pos (starEach es X.env)).any (·.1) = false := by rfl) (ht : EvMeth X o m apos pos (e :: es) pl := by rfl) :
    PE X (.Call (.Attribute o m apos) (e :: es) [] pos) (LE X.K C g L (dMeF c sp j js mk i de da)) := by
  refine ⟨?_⟩
  intro pins s σ H Q I h
  obtain ⟨kw, io, O, sd, s0, Qd, S, ⟨cc, caps, hs, hcap, ho⟩, kk⟩ := h
  refine PySem.W.methodCall_KW (pl := pl) (thn (he.run pins s σ H (fun v G => ∃ a dx fs, v = .ref a ∧ G a = some (.ins (C.ad c) dx fs) ∧ fs.lookup m = none ∧ LAF X.K C g L da i σ G fun vs H1 => ∀ os : Addr → Obj, LendOk cl (C.fr j) (js.map (slotAt σ)) os H1 →
    LFF X.K C sp (.ref a :: vs) (lendH cl os H1) (fun v H' => (∀ b, IsLent cl b → H' b = some (.frz (os b) cellHO)) → Q v (unl cl H')) fun _ _ _ => False) I ?_) fun w s1 ⟨v, G, I1, rv, a, dx, fs, ev, ea, nl, y⟩ => ?_) ht
  · refine ⟨kw, io, O, sd, s0, _, S, ho, fun d s1 io1 H1 v q S1 T1 r => ?_⟩
    split at q
    · rename_i c' xs ed
      obtain ⟨rfl, q⟩ := q
      obtain ⟨a, dx, vs, rfl, ha'⟩ := ins_at S1 r ed
      exact ⟨a, dx, _, rfl, ha', zip_no hf vs, kw, io1, O, sd, s1, _, .mk (mk cc), S1, hs, q, fun ds s2 io2 H2 ws fa q2 S2 T2 rs _ rf os lo =>
        call_lend S2 (.cons (r.grow T2.gr) rs) lo hcap (c := cc) (by rw [← hmk]; exact rf) q2 fun d' s' io' H' v q' S' T' r' => kk d' s' io' H' v q' S' ((T1.trans T2).trans T') r'⟩
    · exact q.elim
  · cases ev
    cases rv
    exact getmeth_ok I1 ea hc hm nl (PySem.W.callWith_K (h₀ := X.base) (first := [.ref a]) I1.ok.mod.kin hm.kp (thn (ha.run pos pins s1 σ G _ I1 y) fun us s2 ⟨vs, H2, I2, r, q⟩ => ⟨I2.kIn, run_lend (vs := .ref a :: vs) (us := .ref a :: us) F hr hb (cp I2.ok) fn I2 (.cons rfl r) q⟩) hst hpl)
end
end G
namespace G
open L2 PyProof.Rows PySem PySem.Spec
/-! str(x), x a whole number -/
def oStr : DCl := fun xs s Q => match xs with
  | [.v (.int i)] => i.natAbs.log2 < 1920 ∧ Q (.str (toString i)) s
  | _ => False
abbrev rStrI : List V → Hp → VK → Prop := fun xs H Q => ∃ i, xs = [.int i] ∧ i.natAbs.log2 < 1920 ∧ Q (.str (toString i)) H
theorem oc_str {K : PySem.W.Frag} {C : Tbl} {g : Gw} {L : Lk} : ClG K C g L rStrI oStr := by
  intro kw io O H σ sd s xs vs Qd Q S rx h k
  unfold oStr at h
  split at h
  · obtain ⟨v, rfl, ry⟩ := rx.one
    cases ry with
    | v r => cases r; exact ⟨_, rfl, h.1, k _ s io H _ h.2 S (Stp.refl ..) (.str _)⟩
  · exact h.elim
end G
/-! a def that makes a def and gives it back: the cells stay lent for ever -/
namespace G
open PySem L2 NdefX LamX PyProof.Rows
/-- what such a def is promised: its parameters at js are what the def within has captured -/
def spMk (T : List NTab) (mk : List (Str × Addr) → Addr → NF) (fr : List Str) (js : List Nat) (n : Nat) : Sp := fun vs H Q _ => vs.length = n ∧ TabsN T H ∧ ∀ (f c : Addr) (cl : List (Str × Addr)) (os : Addr → Obj) (H1 : Hp), Made T H H1 f c (mk cl c) → LendOk cl fr (js.map fun j => vs[j]?) os H1 → Q (.ref f) (lendH cl os H1)
theorem slots_start {N : List Str} {vs : List V} {js : List Nat} {i : Nat} {x : Option V} (h : ∀ j ∈ js, j < vs.length) (hi : vs.length ≤ i) : js.map (NdefX.slotAt ((L2.start N vs).set i x)) = js.map fun j => vs[j]? := by
  refine List.map_congr_left (fun j hj => ?_)
  have hl := h j hj
  unfold NdefX.slotAt L2.start
  rw [List.getElem?_set_ne (by omega), List.getElem?_append_left (by rw [List.length_map]; exact hl), List.getElem?_map, List.getElem?_eq_getElem hl]
  rfl
section
variable {P : Program} {w : World} {K : PySem.W.Frag} {mg : Str → Option Value} {base : Heap} {x qual : Str} {params : Arguments} {scope : Scope} {dvs : List V} {kws : List (Str × V)} {fd : FuncData} {N ps fr : List Str} {st : Stmt} {nm : Str} {p2 p3 : Pos} {T : List NTab} {mk : List (Str × Addr) → Addr → NF} {js : List Nat} {i k : Nat} {p : He.Defn}
/-- the cells of a def that ended, lent -/
theorem end_lent {CX : CXT} {f : Addr} {cd : Value} {A : Around} {outer : List Env} {s s2 : Shared} {H H1 : Hp} {E : XK} {σ : L2.St} {cl : List (Str × Addr)} {Q : VK} {v : V} {u : Value} (J : L2.Inv (cxOf CX P w K mg base N qual scope f cd A outer s H E) [] σ H1 s2)
    (cp : Caps (cxOf CX P w K mg base N qual scope f cd A outer s H E) cl fr js) (ru : RelV v u) (q : ∀ os : Addr → Obj, LendOk cl fr (js.map (slotAt σ)) os H1 → Q v (lendH cl os H1)) : CE outer P w H s Q u s2 := by
  have ca := cells_of J cp
  obtain ⟨os, hos⟩ : ∃ os : Addr → Obj, ∀ c o, s2.heap.get? c = some o → os c = o := ⟨fun c => (s2.heap.get? c).getD default, fun c o e => by show (s2.heap.get? c).getD default = o; rw [e]; rfl⟩
  have at_ : ∀ b, IsLent cl b → s2.heap.get? b = some (os b) := fun b ⟨y, e⟩ => by
    obtain ⟨_, v, o, e1, _⟩ := ca.all y b e
    rw [hos b o e1, e1]
  have nil : ∀ b, IsLent cl b → H1 b = Option.none := fun b ⟨y, e⟩ => (ca.all y b e).1
  have lo : LendOk cl fr (js.map (slotAt σ)) os H1 := ⟨nil, fun b ⟨y, e⟩ => by
    obtain ⟨_, v, o, e1, e2⟩ := ca.all y b e
    exact ⟨v, by rw [hos b o e1]; exact e2⟩, ca.inj, ca.len, fun i y e => by
    obtain ⟨c, e1, e2⟩ := ca.has i y e
    refine ⟨c, e1, fun v ev => ?_⟩
    obtain ⟨u, ru, o, h1, h2⟩ := e2 v ev
    exact ⟨u, ru, by rw [hos c o h1]; exact h2⟩⟩
  have young : ∀ b o, s.heap.get? b = some o → ¬ IsLent cl b := fun b o e ⟨y, z⟩ => Nat.lt_irrefl _ (Nat.lt_of_lt_of_le (Heap.lt_size e) (J.ok.cab y b rfl (cp.sub y b z)))
  have up : ∀ {b u}, H1 b = some u → lendH cl os H1 b = some u := fun e => lendH_keep nil e
  have un := J.base
  refine ⟨v, lendH cl os H1, J.os, J.bare, ⟨un.keep, un.slot, fun b o e n z => ?_, un.there, fun b xs e => up (un.tups b xs e), fun b o u e => up (un.frzs b o u e), fun b qs e => ?_⟩, lend_ok nil at_ J.hok, ru, q os lo⟩
  · rw [lendH_off (young b o e)]
    exact un.free b o e n z
  · obtain ⟨more, e2⟩ := un.tbls b qs e
    exact ⟨more, up e2⟩
theorem FunD.okM {body : List Stmt} (F : FunD K x qual params body scope dvs kws (He.fAd K p) fd) (hbd : body = [st, .Return (some (.Name nm p2)) p3]) (S : FnScope N ps scope) (hi : N[i]? = some nm) (hv : Vis scope nm) (hj : ∀ j ∈ js, j < ps.length) (hn : ps.length ≤ i)
    (hder : ∀ (X : Cx) (A : Around) (outer : List Env) (s : Shared) (H : Hp) (E : XK), X = cxOf (L2.CX P w) P w K mg base N qual scope (He.fAd K p) (.ref (He.codeOf K p)) A outer s H E → ∃ cl, PS X st (tNdX T i (mk cl)) ∧ (X.Ok → Caps X cl fr js))
    (hdb : (nm == ("__debug__" : Str)) = false := by decide) (hcd : (nm == ("__classdict__" : Str)) = false := by decide) : FnOk P w K mg base (L2.CX P w) (k + 1) (He.fAd K p) fd ps (spMk T mk fr js ps.length) := by
  subst hbd
  obtain ⟨o1, o2, v1, v2, v3, v4, an, cdv, ct, sl, rfl, lk, hcode, _⟩ := F.ex
  obtain ⟨c, rfl⟩ := He.codeIn_ref hcode
  have e : He.codeOf K p = c := He.codeOf_eq lk rfl
  rw [← e] at lk hcode
  refine ⟨fun vs H Q E h => h.1, fun A outer s H args us vs Q E hr env hb r h => ?_⟩
  obtain ⟨hl, hT, hq⟩ := h
  have kh : K.In s.heap := env.mod.kin.keeps fun b o z => (env.bs b o z).1
  have kinds : ∀ y ∈ ps.zip us, scope.names.lookup y.1 = some .local ∨ (scope.names.lookup y.1 = some .cell ∧ ((cellsFrom (s.heap.objs.size + 1) scope.names []).lookup y.1).isSome = true) := fun y hy => by
    have a := S.par y.1 (List.of_mem_zip hy).1
    exact a.imp_right fun z => ⟨z, PySem.W.cellsFrom_some _ _ _ (.inl z)⟩
  have room : ∀ b o, s.heap.get? b = some o → True := fun _ _ _ => trivial
  refine codeAny_call_function hr.depth (kh _ _ lk) rfl S.co S.gen rfl (PySem.W.codeRec_of kh hcode) (hb _ _ _ _ (wpAny_newFunctionEnv_cells S.kind kinds fun en he sA inC => ?_))
  subst he
  refine ⟨(env.mod.nolimit.keeps fun b o z => (env.bs b o z).1).keeps inC.toInCall.keep, codeAny_func ?_⟩
  have J0 := inv_start (CX := L2.CX P w) (E := E) S hr.hd env hl r inC
  obtain ⟨cl, hps, cp⟩ := hder _ A outer s H E rfl
  refine wpAny_execs_cons (thn (hps.run [] sA (start N vs) H { nx := fun σ' H' => ∃ f c, σ' = (start N vs).set i (some (.ref f)) ∧ Made T H H' f c (mk cl c), rt := fun _ _ => False } J0 ⟨hT, fun f c H1 m => ⟨f, c, rfl, m⟩⟩) fun fl sB q => ?_)
  cases fl with
  | ret u => obtain ⟨_, _, _, _, _, z⟩ := q; exact z.elim
  | brk => obtain ⟨_, _, _, z⟩ := q; exact z.elim
  | cont => obtain ⟨_, _, _, z⟩ := q; exact z.elim
  | next =>
    obtain ⟨σ', H', J1, f, c, rfl, m⟩ := q
    have sf : ((start N vs).set i (some (V.ref f)))[i]? = some (some (.ref f)) := by
      rw [List.getElem?_set_self]
      have := J1.len
      rw [List.length_set] at this
      rw [this]
      exact (List.getElem?_eq_some_iff.mp hi).1
    refine wpAny_execs_cons (wpAny_Return_some (thn ((pe_var (pos := p2) hi hv hdb hcd).run [] sB _ H' (fun v H2 => v = .ref f ∧ H2 = H') J1 ⟨.ref f, sf, rfl, rfl⟩) fun u sC ⟨v, H2, J2, ru, ev, eH⟩ => ?_))
    subst ev
    subst eH
    exact end_lent J2 (cp J2.ok) ru fun os lo => hq f c cl os _ m (by rw [slots_start (by rw [hl]; exact hj) (by rw [hl]; exact hn)] at lo; exact lo)
end
end G
/-! o.m(.., mk(..)): mk makes a def and gives it back -/
namespace G
open PySem L2 NdefX LamX
section
variable {K : PySem.W.Frag} {C : Tbl} {g : Gw} {L : Lk} {kw : Vw} {io : List Addr} {O : Addr → Prop} {H H1 : Hp} {σ : L2.St} {sd : DSt} {s : Store}
theorem StOk.bigger (S : StOk K C g L kw io O H σ sd s) (up : ∀ b u, H b = some u → H1 b = some u) : StOk K C g L kw io O H1 σ sd s ∧ Stp g io O H io O H1 := by
  have G : Grow (vw g io O H) (vw g io O H1) := ⟨fun a u x _ => x, fun a u x h => .inl (up a u h), [], (List.append_nil _).symm⟩
  have same : ∀ a, (∃ o, H a = some o) → H1 a = H a := fun a ⟨o, e⟩ => by rw [e, up a o e]
  refine ⟨⟨S.nio, S.dj, S.bd, fun a ha => ?_, S.pre, fun a o h1 h2 h3 => ?_, fun a od u h => up _ _ (S.fz a od u h), fun e he => ?_, S.ce.grow G rfl fun a ha => same a (S.io_some ha), S.sl.grow G fun a ha => ⟨ha, same a (S.od a ha).2⟩, S.kp.trans G, S.an.trans G, S.tb.ext up fun a ha => (S.od a ha).2⟩, G, fun a ha => same a (S.od a ha).2⟩
  · obtain ⟨h1, o, h2⟩ := S.od a ha
    exact ⟨h1, o, up _ _ h2⟩
  · exact (S.fr a o h1 h2 h3).imp_left fun q => ⟨up _ _ q.1, q.2⟩
  · obtain ⟨h1, h2⟩ := S.lk e he
    exact ⟨up _ _ h1, h2⟩
/-- behind the maker: its def, the cells lent -/
theorem StOk.mkLent {j : Nat} {f c : Addr} {cl : List (Str × Addr)} {os : Addr → Obj} {vs : List V} {ms caps : List D} {js : List Nat} (S : StOk K C g L kw io O H σ sd s) (r : RL K C (vw g io O H) vs ms) (m : Made C.tb H H1 f c (C.mkF j cl c)) (lo : LendOk cl (C.fr j) (js.map fun i => vs[i]?) os H1) (hc : js.map (fun i => ms[i]?) = caps.map some) :
    StOk K C g L kw io O (lendH cl os H1) σ sd s ∧ Stp g io O H io O (lendH cl os H1) ∧ RF K C (vw g io O (lendH cl os H1)) f (.lent j caps) := by
  obtain ⟨S1, G1⟩ := S.made m
  have up : ∀ b u, H1 b = some u → lendH cl os H1 b = some u := fun b u e => lendH_keep lo.nil e
  obtain ⟨S2, T2⟩ := S1.bigger up
  have code : H1 (C.mkF j cl c).c = some (CodeO (C.mkF j cl c).c (C.mkF j cl c).qual) := m.code
  have fi : FnIs (vw g io O H1) f (C.mkF j cl c) := ⟨fun z => (S.free m.new).1 z, m.fn, S1.notX code, code⟩
  have nT : ∀ a, O a → ∀ p ∈ C.tb, p.1 ≠ a := fun a ha p hp z => (S.bd p.1 (S.tb.b p hp)).2.1 (z ▸ ha)
  refine ⟨S2, ⟨G1.trans T2.gr, fun a ha => ?_⟩, cl, c, fi.grow T2.gr, lo.inj, fun y b e => ?_, ?_, fun i y d e1 e2 => ?_⟩
  · obtain ⟨_, o, e⟩ := S.od a ha
    rw [T2.ow a ha, e, m.keep a o (nT a ha) e]
  · obtain ⟨v, hv⟩ := lo.cel b ⟨y, e⟩
    exact ⟨fun z => (S1.free (lo.nil b ⟨y, e⟩)).1 z, os b, v, lendH_in ⟨y, e⟩, hv⟩
  · have a := lo.len
    have b := congrArg List.length hc
    rw [List.length_map] at a
    rw [List.length_map, List.length_map] at b
    omega
  · obtain ⟨b, h1, h2⟩ := lo.has i y e1
    have hj := congrArg (fun l => l[i]?) hc
    simp only [List.getElem?_map, e2, Option.map_some] at hj
    cases ej : js[i]? with
    | none => rw [ej] at hj; cases hj
    | some jj =>
      rw [ej] at hj
      have hj : ms[jj]? = some d := Option.some.inj hj
      obtain ⟨v, k1, rd⟩ := r.get hj
      obtain ⟨u, ru, hu⟩ := h2 v (by rw [List.getElem?_map, ej]; exact congrArg some k1)
      exact ⟨b, v, u, os b, h1, ru, (rd.grow G1).grow T2.gr, lendH_in ⟨y, h1⟩, hu⟩
end
def aLen (n : Nat) (am : DA) : DA := fun σ s Q => am σ s fun ms s' => ms.length = n ∧ Q ms s'
section
variable (K : PySem.W.Frag) (C : Tbl) (g : Gw) (L : Lk)
/-- arguments, the last one a maker's call -/
def LAM (a am : DA) (j : Nat) (js : List Nat) : TA := fun σ H Q => ∃ (kw : Vw) (io : List Addr) (O : Addr → Prop) (sd : DSt) (s : Store) (Qd : List D → List D → Store → Prop), StOk K C g L kw io O H σ sd s ∧ (a sd s fun ds s1 => am sd s1 fun ms s2 => Qd ds ms s2) ∧
  ∀ ds ms caps s' io' H' vs f, Qd ds ms s' → StOk K C g L kw io' O H' σ sd s' → Stp g io O H io' O H' → RL K C (vw g io' O H') vs ds → js.map (fun i => ms[i]?) = caps.map some → RF K C (vw g io' O H') f (.lent j caps) → Q (vs ++ [.ref f]) H'
end
section
variable {X : Cx} {C : Tbl} {g : Gw} {L : Lk} {e : Expr} {es : List Expr} {de : DE} {da am : DA} {pos p : Pos} {x : Str} {k j n : Nat} {f : Addr} {fd : FuncData} {ps : List Str} {js : List Nat} {W : DW}
theorem gm_last (F : FnOk X.prog X.w X.K X.mg X.base (L2.CX X.prog X.w) k f fd ps (spMk C.tb (fun cl c => C.mkF j cl c) (C.fr j) js n)) (hr : Room k X.A) (hg : Gl X x) (hm : X.mg x = some (.ref f)) (hk : PySem.W.keepIn X.K (.ref f) = true) (hb : Binds X.K fd ps []) (hjs : ∀ i ∈ js, i < n)
    (tk : Takes X (LW X.K C g L W)) (ha : PA X (e :: es) (LA X.K C g L am)) (hdb : (x == ("__debug__" : Str)) = false := by decide) (he : starEach (e :: es) X.env = (false, eval e X.env) :: starEach es X.env := by rfl) (hpl : (backTo pos (starEach es X.env)).any (·.1) = false := by rfl)
    (hs : starEach [.Call (.Name x p) (e :: es) [] pos] X.env = [(false, eval (.Call (.Name x p) (e :: es) [] pos) X.env)] := by rfl) : PA X [.Call (.Name x p) (e :: es) [] pos] (LAM X.K C g L aNil (aLen n am) j js) :=
  (pa_cons (pe_callSD (E := fun σ => WE (LW X.K C g L W) σ) F hr hg hm hk hb .nil (fun σ => passAt tk σ) ha hdb he hpl) pa_nil hs).imp fun σ H Q ⟨kw, io, O, sd, s, Qd, S, h, kk⟩ =>
    ⟨kw, io, O, sd, s, _, S, h, fun ms s1 io1 H1 vs q S1 T1 r => ⟨by rw [List.append_nil, r.length]; exact q.1, S1.tb.tb, fun f c cl os H2 m lo => by
      rw [List.append_nil] at lo
      have hl := q.1
      have hc : js.map (fun i => ms[i]?) = (js.map fun i => ms.getD i .non).map some := by
        rw [List.map_map]
        refine List.map_congr_left (fun i hi => ?_)
        have := hjs i hi
        rw [List.getElem?_eq_getElem (by omega)]
        simp [List.getElem?_eq_getElem (show i < ms.length by omega)]
      obtain ⟨S2, T2, rf⟩ := S1.mkLent r m lo hc
      exact kk [] ms _ s1 io1 _ [] f q.2 S2 (T1.trans T2) .nil hc rf⟩⟩
theorem gm_cons (ha : PE X e (LE X.K C g L de)) (hr : PA X es (LAM X.K C g L da am j js)) (hs : starEach (e :: es) X.env = (false, eval e X.env) :: starEach es X.env := by rfl) : PA X (e :: es) (LAM X.K C g L (aCons de da) am j js) :=
  (pa_cons ha hr hs).imp fun σ H Q ⟨kw, io, O, sd, s, Qd, S, he, kk⟩ =>
    ⟨kw, io, O, sd, s, _, S, he, fun d s1 io1 H1 v q1 S1 T1 r1 => ⟨kw, io1, O, sd, s1, _, S1, q1, fun ds ms caps s2 io2 H2 vs f q2 S2 T2 r2 hc rf => kk _ ms caps s2 io2 H2 _ f q2 S2 (T1.trans T2) (.cons (r1.grow T2.gr) r2) hc rf⟩⟩
end
/-- a promise of a def that a def is handed to, from the caller's state; the cells are lent for ever -/
theorem call_handed {K : PySem.W.Frag} {C : Tbl} {g : Gw} {L : Lk} {kw : Vw} {io : List Addr} {O : Addr → Prop} {H : Hp} {σ : L2.St} {sd : DSt} {s : Store} {vs : List V} {ds caps : List D} {Qd : DK} {Q : VK} {E : XK} {fa : Addr} {j : Nat} {sp : DSpF} (S : StOk K C g L kw io O H σ sd s) (r : RL K C (vw g io O H) vs ds) (rf : RF K C (vw g io O H) fa (.lent j caps))
    (h : sp j caps ds s (fun r s' => Qd (frzS r) s') fun _ _ => False) (k : ∀ d s' io' H' v, Qd d s' → StOk K C g L kw io' O H' σ sd s' → Stp g io O H io' O H' → RD K C (vw g io' O H') v d → Q v H') : LFF K C sp (vs ++ [.ref fa]) H Q E :=
  ⟨vs, fa, j, caps, fun a => g.B a ∨ O a, io, s, ds, _, _, rfl, S.callIn, r.grow vw_in, rf.grow vw_in, h, fun r s' io' H' v P q R rr => by
    obtain ⟨S2, T2, rd⟩ := S.callEnd R rr
    exact k _ s' io' H' v q S2 T2 rd, fun _ _ _ _ _ _ z => z.elim⟩
def dMeM (c : Nat) (sp : DSpF) (j : Nat) (js : List Nat) (o : DE) (a am : DA) : DE := fun σ s Q => o σ s fun x s1 => match deref s1 (.v x) with
  | .ins c' _ => c' = c ∧ a σ s1 fun ds s2 => am σ s2 fun ms s3 => sp j (js.map fun i => ms.getD i .non) (x :: ds) s3 (fun r s' => Q (frzS r) s') fun _ _ => False
  | _ => False
section
variable {X : Cx} {C : Tbl} {g : Gw} {L : Lk} {pos apos : Pos} {k : Nat} {f : Addr} {fd : FuncData} {ps : List Str} {sp : DSpF} {m : Str} {e o : Expr} {es : List Expr} {de : DE} {da am : DA} {js : List Nat} {j c : Nat} {W : DW}
theorem g_meM {pl : Sem Bool} (he : PE X o (LE X.K C g L de)) (hc : Cls X.K (C.ad c)) (hm : Meth X.K (C.ad c) m f) (hf : m ∉ C.fl c) (F : FnOk X.prog X.w X.K X.mg X.base (L2.CX X.prog X.w) k f fd ps (LFF X.K C sp)) (hr : Room k X.A) (hb : Binds X.K fd ps []) (tk : Takes X (LW X.K C g L W))
    (ha : PA X (e :: es) (LAM X.K C g L da am j js)) (hst : starEach (e :: es) X.env = (false, eval e X.env) :: starEach es X.env := by rfl) (hpl : (backTo pos (starEach es X.env)).any (·.1) = false := by rfl) (ht : EvMeth X o m apos pos (e :: es) pl := by rfl) :
    PE X (.Call (.Attribute o m apos) (e :: es) [] pos) (LE X.K C g L (dMeM c sp j js de da am)) := by
  refine ⟨?_⟩
  intro pins s σ H Q I h
  obtain ⟨kw, io, O, sd, s0, Qd, S, ho, kk⟩ := h
  refine PySem.W.methodCall_KW (pl := pl) (thn (he.run pins s σ H (fun v G => ∃ a dx fs, v = .ref a ∧ G a = some (.ins (C.ad c) dx fs) ∧ fs.lookup m = none ∧ LAM X.K C g L da am j js σ G fun vs H1 => LFF X.K C sp (.ref a :: vs) H1 Q (WE (LW X.K C g L W) σ)) I ?_) fun w s1 ⟨v, G, I1, rv, a, dx, fs, ev, ea, nl, y⟩ => ?_) ht
  · refine ⟨kw, io, O, sd, s0, _, S, ho, fun d s1 io1 H1 v q S1 T1 r => ?_⟩
    split at q
    · rename_i c' xs ed
      obtain ⟨rfl, q⟩ := q
      obtain ⟨a, dx, vs, rfl, ha'⟩ := ins_at S1 r ed
      exact ⟨a, dx, _, rfl, ha', zip_no hf vs, kw, io1, O, sd, s1, _, S1, q, fun ds ms caps s2 io2 H2 ws fa q2 S2 T2 rs hcap rf => by
        have ec : caps = js.map fun i => ms.getD i .non := by
          have := congrArg (List.map fun z : Option D => z.getD .non) hcap
          rw [List.map_map, List.map_map] at this
          have e2 : caps.map ((fun z : Option D => z.getD .non) ∘ some) = caps := by simp [Function.comp_def]
          rw [e2] at this
          rw [← this]
          refine List.map_congr_left (fun i _ => ?_)
          simp
        rw [ec] at rf
        exact call_handed (vs := .ref a :: ws) S2 (.cons (r.grow T2.gr) rs) rf q2 fun d' s' io' H' v q' S' T' r' => kk d' s' io' H' v q' S' ((T1.trans T2).trans T') r'⟩
    · exact q.elim
  · cases ev
    cases rv
    exact getmeth_ok I1 ea hc hm nl (PySem.W.callWith_K (h₀ := X.base) (first := [.ref a]) I1.ok.mod.kin hm.kp (thn (ha.run pos pins s1 σ G _ I1 y) fun us s2 ⟨vs, H2, I2, r, q⟩ => ⟨I2.kIn, run_fnSD (vs := .ref a :: vs) (us := .ref a :: us) (dvs := []) F hr hb .nil (passAt tk σ) I2 (.cons rfl r) (by rw [List.append_nil]; exact q)⟩) hst hpl)
end
end G
local macro_rules | `(tactic| walk_at "ev") => `(tactic| try simp only [G.startD, G.startDF, G.startDN, G.dNdef, G.dEnd, G.dNext, G.dSeq, G.dSet, G.dSetO, G.dIf, G.dRet, G.dRetN, G.dRetL, G.dRetO, G.dDrop, G.dBrk, G.dCt, G.dFrz, G.dCell, G.dVar, G.dPk, G.dC, G.dUp, G.dOp, G.dB, G.dAnd, G.dOr, G.dNot, G.dAndV, G.dOrV, G.dNotV, G.aNil, G.aCons, G.pNil, G.pCons, G.dTup, G.dLst, G.dNew,
  G.oI, G.oI0, G.oSub, G.oMul, G.oMulA, G.oDiv, G.oMod, G.oPow, G.oShl, G.oShr, G.oAndI, G.oOrI, G.oXorI, G.oEq_D, G.oEqD_ii, G.oEqD_ss, G.oEqD_bb, G.oEqD_dd, G.oEqD_ll, G.oEqD_tt, G.oEqD_nn,  G.oLt, G.oLe, G.oGt, G.oGe, G.oAdd, G.oAddL, G.oIsN, G.oNotN, G.oIsB, G.dFor, G.dForIx, G.dInRg, G.wSeq, G.wRg1, G.wRg2, G.wRg3, G.wEnum, G.rg1, G.rg2, G.rg3, G.dTry, G.wTry, G.dAs, G.dIsN, G.dIsE, G.dCall, G.dCallO, G.frzS, G.deref_o, G.deref_int, G.deref_bl, G.deref_non, G.deref_str, G.deref_tup, G.deref_lst, G.deref_ro, G.deref_dK, G.deref_dT, G.deref_ins, G.deref_lk, G.deref_ref, G.unlk_non, G.unlk_bl, G.unlk_int, G.unlk_str, G.unlk_tup, G.unlk_lst, G.unlk_ro, G.unlk_dK, G.unlk_dT, G.unlk_ins, G.unlk_ref, G.unlk_lk, G.dBi, G.dRm, G.dFld, G.dFldS, G.dMeth, G.dMethO, G.dMake, G.dDisp1, G.dRaise, G.dMe, G.dMeO, G.dMk, G.dMkV, G.dAugI, G.dAsg, G.mIns, G.mDClr, G.mLClr, G.mExt, G.oAbs, G.dLcV, G.dListR1, G.dListR2, List.lookup_cons, List.lookup_nil, beq_self_eq_true, G.dGet2, G.dSetd, G.setdAt, G.dSetdT, G.setdAtT, G.isDc, G.keyOf, G.oLen, G.oInt, G.oStr, G.dIsi, G.dUn, G.dMuO, G.dMuOS, G.dMuE, G.dStO, G.dStE, G.ptNo, G.ptE, G.dSl, G.dRev, G.dLc, G.wipeD, G.tgN, G.tgNs, G.tgNsL, G.oTwins, G.setAllD, G.dYes, G.keySl, G.tkeySl, G.keyOf,
  List.length_cons, List.length_nil, List.map_cons, List.map_nil, List.cons_append, List.nil_append, List.append_nil, List.replicate, List.set_cons_zero, List.set_cons_succ, List.getElem?_cons_zero, List.getElem?_cons_succ, Nat.reduceSub, Nat.reduceAdd, Nat.reduceBEq, G.getc, G.setc, G.oIx_tc, G.optK_some, G.tup0, G.tup1, G.tup2, G.tup3, G.tup4, G.tup5, G.look_dIV, G.isSome_dI, G.mApp, G.tyC, G.tyN, G.isB, ne_eq, String.reduceEq, String.reduceBEq, not_false_eq_true, Bool.true_or, Bool.or_true, Bool.false_or, Bool.or_false, Bool.true_and, Bool.and_true, Bool.and_false, Bool.false_and, Bool.not_true, Bool.not_false, Bool.false_eq_true, if_true, if_false, true_and, and_true, eq_self, decide_true, decide_false, Bool.false_xor, Bool.true_xor, Int.cast_ofNat_Int, Int.reducePow, Int.reduceNeg, Int.reduceLT, Int.reduceLE, Int.reduceToNat, Int.reduceSub, Int.reduceMul, Int.reduceAdd])
set_option hygiene false in
local macro_rules | `(tactic| walk_at "sq") => `(tactic| (subst h; (try dsimp only); refine G.seqI fun N h => ?_))
namespace Law
open PySem L2 G
/-! counts: dicts of whole numbers by whole numbers -/
abbrev Nt := Int × Int × Int
abbrev nl (ns : List Nat) : List D := ns.map fun n : Nat => .int n
def prD (p : Int × Int) : D := .tup [.int p.1, .int p.2]
def ntD (n : Int × Int × Int) : D := .tup [.int n.1, .int n.2.1, .int n.2.2]
def bitsN (k h : Nat) : List Nat := (List.range k).filter fun i => h.testBit i
def cntI (l : List (Int × Int)) (c : Int) : Int := (lookI l c).getD 0
def FM (ps : List (Int × Int)) (c z : Int) : Int := ps.foldl (fun x p => if p.1 = c then max x p.2 else x) z
def Pos (l : List (Int × Int)) : Prop := ∀ p ∈ l, 1 ≤ p.2
abbrev Nn (l : List (Int × Int)) : Prop := ∀ p ∈ l, 0 ≤ p.2
/-- a dict of counts: frozen, or in a cell -/
def Cnt (s : Store) (d : D) (l : List (Int × Int)) : Prop := d = .dK (dI l) ∨ ∃ n : Nat, d = .ref n ∧ s[n]? = some (.dK (dI l))
/-- .. locked, too -/
def CntU (s : Store) (d : D) (l : List (Int × Int)) : Prop := unlk (deref s (.v d)) = .dK (dI l)
def covI (a b : List (Int × Int)) : Bool := b.all fun p => decide (p.2 ≤ cntI a p.1)
def unpk (ps : List (Int × Int)) : List (Int × Int) := ps.foldl (fun l p => putI l p.1 p.2) []
def sp_has : DSp := fun ds s Q _ => ∃ h i : Nat, ds = [.int h, .int i] ∧ Q (.v (.bl (h.testBit i))) s
def sp_hands_of : DSp := fun ds s Q _ => ∃ h : Nat, ds = [.int h] ∧ Q (.o (.lst (nl (bitsN 63 h)))) s
def sp__law_cell_at : DSp := fun ds s Q _ => ∃ (ns : List Int) (k : Int), ds = [.ro (ns.map .int), .int k] ∧ 0 ≤ k ∧ ∀ i : Int, Q (.v (.int i)) s
def pc : Nat → Nat → Nat
  | 0, _ => 0
  | k + 1, n => n % 2 + pc k (n / 2)
@[irreducible] def pcw (n : Nat) : Nat := pc 63 n
theorem pcw_eq (n : Nat) : pcw n = pc 63 n := by unfold pcw; rfl
def sp_many : DSp := fun ds s Q _ => ∃ h : Nat, ds = [.int h] ∧ h < 2 ^ 63 ∧ Q (.v (.int (pcw h))) s
def halfB (a b : Nat) : Bool := decide (2 * pcw (a &&& b) > pcw b)
def sp_more_than_half : DSp := fun ds s Q _ => ∃ a b : Nat, ds = [.int a, .int b] ∧ a < 2 ^ 63 ∧ b < 2 ^ 63 ∧ Q (.v (.bl (halfB a b))) s
def sp__law_stream : DSp := fun ds s Q _ => ∃ (c k : Int), ds = [.int c, .int k] ∧ 0 ≤ k ∧ k ≤ 500 ∧ ∀ xs : List Int, xs.length = k.toNat → (∀ x ∈ xs, 0 ≤ x ∧ x < 2147483647) → Q (.v (.lst (xs.map .int))) s
/-! changes: ballots, yeses -/
abbrev Bl : Type := Int × Int
abbrev Bal : Type := Option Bl
def blD (b : Bl) : D := .tup [.int b.1, .int b.2]
def balD : Bal → D
  | none => .non
  | some b => blD b
def lessB (a b : Bl) : Bool := decide (a.1 < b.1) || (decide (a.1 = b.1) && decide (a.2 < b.2))
def underB : Bal → Bal → Bool
  | _, none => false
  | none, some _ => true
  | some a, some b => lessB a b
/-- a yes: its ballot, its plan -/
abbrev Yes : Type := Option (Bl × D)
def yesD : Yes → D
  | none => .non
  | some y => .tup [blD y.1, y.2]
def yBal (y : Yes) : Bal := y.map (·.1)
def sp_under : DSp := fun ds s Q _ => ∃ a b : Bal, ds = [balD a, balD b] ∧ Q (.v (.bl (underB a b))) s
def sp_ballot_of : DSp := fun ds s Q _ => ∃ y : Yes, ds = [yesD y] ∧ Q (.v (balD (yBal y))) s
/-- a change: what its object holds -/
structure ChS where
  me : Nat
  hs : Nat
  bal : Bal
  yes : Yes
  votes : Nat
  reps : List (Int × D)
  agr : D
def ChS.d (c : ChS) (rep : Nat) : D := .ins 0 [.int c.me, .int c.hs, balD c.bal, yesD c.yes, .int c.votes, .ref rep, c.agr]
def ChAt (s : Store) (n rep : Nat) (c : ChS) : Prop := s[n]? = some (c.d rep) ∧ s[rep]? = some (.dK (dV c.reps)) ∧ n ≠ rep
def sp_Change_init : DSp := fun ds s Q _ => ∃ (n me hs : Nat), ds = [.ref n, .int me, .int hs] ∧ s[n]? = some (.ins 0 []) ∧ Q (.v .non) ((s ++ [D.dK (dV [])]).set n (ChS.d ⟨me, hs, none, none, 0, [], .non⟩ s.length))
def ChS.msg (c : ChS) (r : D) : D := .tup [.int c.me, balD c.bal, yesD c.yes, .int c.votes, r]
def sp_Change_message : DSp := fun ds s Q _ => ∃ (n rep : Nat) (c : ChS) (r : D), ds = [.ref n, r] ∧ ChAt s n rep c ∧ Q (.v (c.msg r)) s
def sp_Change_settled : DSp := fun ds s Q _ => ∃ (n rep : Nat) (c : ChS), ds = [.ref n] ∧ ChAt s n rep c ∧ Q (.v c.agr) s
/-- its ballot is its own, and has no plan yet -/
def ChS.unpl (c : ChS) : Bool := match c.bal with
  | none => false
  | some b => decide (b.2 = c.me) && !decide (yBal c.yes = some b)
def sp_Change_unplanned : DSp := fun ds s Q _ => ∃ (n rep : Nat) (c : ChS), ds = [.ref n] ∧ ChAt s n rep c ∧ Q (.v (.bl c.unpl)) s
def isNonD : D → Bool
  | .non => true
  | _ => false
def ChS.settle (c : ChS) : ChS := match c.yes with
  | none => c
  | some y => if isNonD c.agr = true ∧ halfB c.votes c.hs = true then { c with agr := y.2 } else c
def sp_Change_settle : DSp := fun ds s Q _ => ∃ (n rep : Nat) (c : ChS), ds = [.ref n] ∧ s[n]? = some (c.d rep) ∧ c.votes < 2 ^ 63 ∧ c.hs < 2 ^ 63 ∧ Q (.v .non) (s.set n (c.settle.d rep))
def ChS.ryes (c : ChS) (y : Yes) (v : Nat) : ChS := match y with
  | none => c
  | some z => ChS.settle (if c.bal = some z.1 ∧ underB (yBal c.yes) (some z.1) = true then { c with yes := some z, votes := v ||| 1 <<< c.me } else if yBal c.yes = some z.1 then { c with votes := c.votes ||| v } else c)
def sp_Change_receive_yes : DSp := fun ds s Q _ => ∃ (n rep : Nat) (c : ChS) (y : Yes) (v : Nat), ds = [.ref n, yesD y, .int v] ∧ s[n]? = some (c.d rep) ∧ c.votes < 2 ^ 63 ∧ c.hs < 2 ^ 63 ∧ v < 2 ^ 63 ∧ c.me < 63 ∧ Q (.v .non) (s.set n ((c.ryes y v).d rep))
def ChS.recv (c : ChS) (h : Int) (b : Bal) (y : Yes) (v : Nat) (r : D) : ChS :=
  let c1 := ChS.ryes (if underB c.bal b = true then { c with bal := b, reps := [] } else c) y v
  if b ≠ none ∧ b = c1.bal ∧ c1.unpl = true then { c1 with reps := putV c1.reps h (.tup [r, yesD y]) } else c1
/-- what a deed leaves: n's object and its reports, the other cells as they were -/
def ChTo (s s' : Store) (n rep rep' : Nat) (c' : ChS) : Prop := ChAt s' n rep' c' ∧ ((rep' = rep ∧ s'.length = s.length) ∨ (rep' = s.length ∧ s'.length = s.length + 1)) ∧ ∀ m, m ≠ n → m ≠ rep → m < s.length → s'[m]? = s[m]?
def sp_Change_receive : DSp := fun ds s Q _ => ∃ (n rep : Nat) (c : ChS) (k : Int) (b : Bal) (y : Yes) (v : Nat) (r : D), ds = [.ref n, .tup [.int k, balD b, yesD y, .int v, r]] ∧ ChAt s n rep c ∧ c.votes < 2 ^ 63 ∧ c.hs < 2 ^ 63 ∧ v < 2 ^ 63 ∧ c.me < 63 ∧ c.reps.length ≤ 100000 ∧ ∀ s' rep', ChTo s s' n rep rep' (c.recv k b y v r) → Q (.v .non) s'
def ChS.begin (c : ChS) (more : Int) (r : D) : ChS := { c with bal := some ((match c.bal with | none => 0 | some b => b.1) + more, (c.me : Int)), reps := [((c.me : Int), .tup [r, yesD c.yes])] }
def sp_Change_begin : DSp := fun ds s Q _ => ∃ (n rep : Nat) (c : ChS) (more : Int) (r : D), ds = [.ref n, .int more, r] ∧ ChAt s n rep c ∧ ∀ s' rep', ChTo s s' n rep rep' (c.begin more r) → Q (.v .non) s'
/-- reports of all but doubted ones are kept, and of more than half -/
def toldN (hs : List Nat) (p : Nat → Bool) : Nat := (hs.filter p).foldl (fun t h => t ||| 1 <<< h) 0
def enoughB (hs d : Nat) (p : Nat → Bool) : Bool := ((bitsN 63 hs).all fun h => p h || d.testBit h) && halfB (toldN (bitsN 63 hs) p) hs
def ChS.kept (c : ChS) (h : Nat) : Bool := (lookV c.reps (h : Int)).isSome
def ChS.enough (c : ChS) (d : Nat) : Bool := enoughB c.hs d c.kept
/-- a report kept: whose, the report, the yes told with it -/
abbrev Rpt := Int × D × Yes
def rptD (x : Rpt) : Int × D := (x.1, .tup [x.2.1, yesD x.2.2])
def overY (b : Yes) (x : Rpt) : Yes := if underB (yBal b) (yBal x.2.2) = true then x.2.2 else b
def bestY (l : List Rpt) : Yes := l.foldl overY none
def planD : Yes → D
  | none => .non
  | some y => y.2
/-- its own yes, of its ballot -/
def ChS.prop (c : ChS) (pl : D) : ChS := ChS.settle { c with yes := c.bal.map fun b => (b, pl), votes := 1 <<< c.me }
def sp_Change_enough : DSp := fun ds s Q _ => ∃ (n rep : Nat) (c : ChS) (d : Nat), ds = [.ref n, .int d] ∧ ChAt s n rep c ∧ c.hs < 2 ^ 63 ∧ Q (.v (.bl (c.enough d))) s
end Law
namespace Law
open PySem L2 G
/-- what make answers -/
def sp__law_make___law_make_here (caps : List D) : DSp := fun ds s Q _ => ∃ (plan d : D), caps = [plan] ∧ ds = [d] ∧ Q (.v plan) s
def nsp : DSpF := fun j caps => match j with
  | 0 => sp__law_make___law_make_here caps
  | _ => fun _ _ _ _ => False
theorem len__law_make___law_make_here {caps ds s Q W} (h : sp__law_make___law_make_here caps ds s Q W) : ds.length = 1 := by
  obtain ⟨_, _, _, rfl, _⟩ := h
  rfl
def upF {α : Type} (f : Nat → α) (a : Nat) (x : α) : Nat → α := fun i => if i = a then x else f i
/-- the hands -/
structure Hs (hs : List Nat) : Prop where
  up : hs.Pairwise (· < ·)
  lt : ∀ h ∈ hs, h < 63
  few : hs.length ≤ 5
  some : hs ≠ []
def grp (hs : List Nat) : Nat := (hs.map fun h => 2 ^ h).sum
/-- reports by hands of the set, each hand once -/
structure Good (hs : List Nat) (l : List Rpt) : Prop where
  nd : (l.map (·.1)).Nodup
  sub : ∀ x ∈ l, ∃ g ∈ hs, x.1 = ((g : Nat) : Int)
  yok : ∀ x ∈ l, ∀ y, x.2.2 = some y → okE 36 y.2 = true
def putR (l : List Rpt) (x : Rpt) : List Rpt := if (l.any fun p => decide (p.1 = x.1)) = true then l.map (fun p => if p.1 = x.1 then x else p) else l ++ [x]
/-- the changes, by hand -/
structure Fm (hs : List Nat) (s : Store) (n rep : Nat → Nat) (V : Nat → ChS) (R : Nat → List Rpt) (dc : Nat) : Prop where
  at_ : ∀ i, i ∈ hs → ChAt s (n i) (rep i) (V i)
  rr : ∀ i, i ∈ hs → (V i).reps = (R i).map rptD
  ne : ∀ i j, i ∈ hs → j ∈ hs → n i ≠ rep j
  jn : ∀ i j, i ∈ hs → j ∈ hs → n i = n j → i = j
  jr : ∀ i j, i ∈ hs → j ∈ hs → rep i = rep j → i = j
  hdc : s[dc]? = some (.dK (dV (hs.map fun h => (((h : Nat) : Int), .ref (n h)))))
  off : ∀ i, i ∈ hs → n i ≠ dc ∧ rep i ≠ dc
/-- votes of hands of the set -/
def Sub (hs : List Nat) (v : Nat) : Prop := ∀ i, v.testBit i = true → i ∈ hs
/-- a state that a change may have -/
structure Fit (hs : List Nat) (c : ChS) : Prop where
  me : c.me ∈ hs
  vt : Sub hs c.votes
  oy : ∀ y, c.yes = some y → okE 36 y.2 = true
  oa : okE 36 c.agr = true
/-- what is due to be settled is settled -/
def Calm (c : ChS) : Prop := ∀ y, c.yes = some y → isNonD c.agr = true → halfB c.votes c.hs = true → c.agr = y.2
structure Iv (hs : List Nat) (V : Nat → ChS) (R : Nat → List Rpt) : Prop where
  me : ∀ h ∈ hs, (V h).me = h
  gr : ∀ h ∈ hs, (V h).hs = grp hs
  ft : ∀ h ∈ hs, Fit hs (V h)
  st : ∀ h ∈ hs, Calm (V h)
  gR : ∀ h ∈ hs, Good hs (R h)
def ChS.seen (c : ChS) : D := .tup [balD c.bal, yesD c.yes, .int c.votes, c.agr]
/-- a letter kept: of whom, its state then, the report -/
structure Lt where
  c : ChS
  r : Int
def Lt.d (L : Lt) : D := .tup [.int L.c.me, L.c.msg (.int L.r), L.c.seen]
/-- the plan of its yes, where its votes are more than half of m -/
def ChS.settleM (c : ChS) (m : Nat) : ChS := match c.yes with
  | none => c
  | some y => if isNonD c.agr = true ∧ 2 * pcw c.votes > m then { c with agr := y.2 } else c
def ChS.up1 (c : ChS) (b : Bal) : ChS := if underB c.bal b = true then { c with bal := b, reps := [] } else c
def ChS.step1 (c : ChS) (y : Yes) (v : Nat) : ChS := match y with
  | none => c
  | some z => if c.bal = some z.1 ∧ underB (yBal c.yes) (some z.1) = true then { c with yes := some z, votes := v ||| 1 <<< c.me } else if yBal c.yes = some z.1 then { c with votes := c.votes ||| v } else c
def ChS.dueS (c : ChS) (m : Nat) (b : Bal) (y : Yes) (v : Nat) : ChS := ((c.up1 b).step1 y v).settleM m
def sp__law_hands : DSp := fun ds s Q _ => ∃ c : Int, ds = [.int c] ∧ ∀ hs : List Nat, Hs hs → Q (.v (.lst (nl hs))) s
def sp__law_under : DSp := fun ds s Q _ => ∃ a b : Bal, ds = [balD a, balD b] ∧ Q (.v (.bl (underB a b))) s
def sp__law_ballot : DSp := fun ds s Q _ => ∃ y : Yes, ds = [yesD y] ∧ Q (.v (balD (yBal y))) s
def sp__law_many : DSp := fun ds s Q _ => ∃ v : Nat, ds = [.int v] ∧ Q (.v (.int (pcw v))) s
def sp__law_seen : DSp := fun ds s Q _ => ∃ (n rep : Nat) (c : ChS), ds = [.ref n] ∧ ChAt s n rep c ∧ Q (.v c.seen) s
def sp__law_due : DSp := fun ds s Q _ => ∃ (c : ChS) (m : Nat) (b : Bal) (y : Yes) (v : Nat) (a : D), ds = [.int c.me, .int m, c.seen, .tup [balD b, yesD y, .int v, a]] ∧ c.me < 63 ∧ Q (.v (c.dueS m b y v).seen) s
def sp__law_receive : DSp := fun ds s Q _ => ∃ (hs : List Nat) (n rep : Nat → Nat) (V : Nat → ChS) (R : Nat → List Rpt) (dc h : Nat) (L : Lt), ds = [.ref dc, .int h, L.d] ∧ Fm hs s n rep V R dc ∧ Iv hs V R ∧ Hs hs ∧ h ∈ hs ∧ Fit hs L.c ∧
  ∀ s' rep' V' R', Fm hs s' n rep' V' R' dc → Iv hs V' R' → Q (.v (.bl true)) s'
def sp__law_propose : DSp := fun ds s Q _ => ∃ (hs : List Nat) (n rep : Nat → Nat) (V : Nat → ChS) (R : Nat → List Rpt) (dc h : Nat) (xs : List Int) (cell : Int), ds = [.ref dc, .int h, .lst (xs.map .int), .int cell] ∧ xs.length = 6 ∧ (∀ x ∈ xs, 0 ≤ x ∧ x < 2147483647) ∧ Fm hs s n rep V R dc ∧ Iv hs V R ∧ Hs hs ∧ h ∈ hs ∧
  ∀ s' rep' V' R', Fm hs s' n rep' V' R' dc → Iv hs V' R' → Q (.v .non) s'
def sp_law : DSp := fun ds s Q _ => ∃ ns : List Int, ds = [.ro (ns.map .int)] ∧ ns.length ≤ 63 ∧ s = [] ∧ ∀ s', Q (.v (.bl true)) s'
end Law
namespace Law
open PySem L2 G
def sp_Change_propose : DSpF := fun j caps ds s Q _ => ∃ (n rep : Nat) (c : ChS) (d : Nat) (rs so : List Rpt), ds = [.ref n, .int d] ∧ ChAt s n rep c ∧ c.hs < 2 ^ 63 ∧ c.me < 63 ∧ c.reps = rs.map rptD ∧ so.Perm rs ∧ so.Pairwise (fun a b => a.1 < b.1) ∧ so.length < 64 ∧
  ((c.unpl && c.enough d) = false → Q (.v (.bl false)) s) ∧
  ((c.unpl && c.enough d) = true → ∀ y, bestY so = some y → ∀ s', ChTo s s' n rep rep (c.prop y.2) → Q (.v (.bl true)) s') ∧
  ((c.unpl && c.enough d) = true → bestY so = none → ∀ Q' : Sl → Store → Prop, (∀ r s1, ChAt s1 n rep c → (∀ s', ChTo s1 s' n rep rep (c.prop (frzS r)) → Q (.v (.bl true)) s') → Q' r s1) → nsp j caps [.lst (so.map fun x => x.2.1)] s Q' fun _ _ => False)
theorem len_Change_propose {j caps ds s Q W} (h : sp_Change_propose j caps ds s Q W) : ds.length + 1 = 3 := by
  obtain ⟨_, _, _, _, _, _, rfl, _⟩ := h
  rfl
end Law
theorem Law.len_has {ds s Q W} (h : Law.sp_has ds s Q W) : ds.length = 2 := by first | (obtain ⟨rfl, _⟩ := h; rfl) | (obtain ⟨_, rfl, _⟩ := h; rfl) | (obtain ⟨_, _, rfl, _⟩ := h; rfl) | (obtain ⟨_, _, _, rfl, _⟩ := h; rfl) | (obtain ⟨_, _, _, _, rfl, _⟩ := h; rfl) | (obtain ⟨_, _, _, _, _, rfl, _⟩ := h; rfl) | (obtain ⟨_, _, _, _, _, _, rfl, _⟩ := h; rfl) | (obtain ⟨_, _, _, _, _, _, _, rfl, _⟩ := h; rfl) | (obtain ⟨_, _, _, _, _, _, _, _, rfl, _⟩ := h; rfl) | (obtain ⟨_, _, _, _, _, _, _, _, _, rfl, _⟩ := h; rfl) | (obtain ⟨_, _, _, _, _, _, _, _, _, _, rfl, _⟩ := h; rfl) | (obtain ⟨_, _, _, _, _, _, _, _, _, _, _, rfl, _⟩ := h; rfl) | (obtain ⟨_, _, _, _, _, _, _, _, _, _, _, _, rfl, _⟩ := h; rfl) | (obtain ⟨_, _, _, _, _, _, _, _, _, _, _, _, _, rfl, _⟩ := h; rfl) | (obtain ⟨_, _, _, _, _, _, _, _, _, _, _, _, _, _, rfl, _⟩ := h; rfl) | (obtain ⟨_, _, _, _, _, _, _, _, _, _, _, _, _, _, _, rfl, _⟩ := h; rfl) | (obtain ⟨_, _, _, _, _, _, _, _, _, _, _, _, _, _, _, _, rfl, _⟩ := h; rfl) | (obtain ⟨_, _, _, _, _, _, _, _, _, _, _, _, _, _, _, _, _, rfl, _⟩ := h; rfl) | (obtain ⟨_, _, _, _, _, _, _, _, _, _, _, _, _, _, _, _, _, _, rfl, _⟩ := h; rfl) | (obtain ⟨_, _, _, _, _, _, _, _, _, _, _, _, _, _, _, _, _, _, _, rfl, _⟩ := h; rfl)
theorem Law.len_hands_of {ds s Q W} (h : Law.sp_hands_of ds s Q W) : ds.length = 1 := by first | (obtain ⟨rfl, _⟩ := h; rfl) | (obtain ⟨_, rfl, _⟩ := h; rfl) | (obtain ⟨_, _, rfl, _⟩ := h; rfl) | (obtain ⟨_, _, _, rfl, _⟩ := h; rfl) | (obtain ⟨_, _, _, _, rfl, _⟩ := h; rfl) | (obtain ⟨_, _, _, _, _, rfl, _⟩ := h; rfl) | (obtain ⟨_, _, _, _, _, _, rfl, _⟩ := h; rfl) | (obtain ⟨_, _, _, _, _, _, _, rfl, _⟩ := h; rfl) | (obtain ⟨_, _, _, _, _, _, _, _, rfl, _⟩ := h; rfl) | (obtain ⟨_, _, _, _, _, _, _, _, _, rfl, _⟩ := h; rfl) | (obtain ⟨_, _, _, _, _, _, _, _, _, _, rfl, _⟩ := h; rfl) | (obtain ⟨_, _, _, _, _, _, _, _, _, _, _, rfl, _⟩ := h; rfl) | (obtain ⟨_, _, _, _, _, _, _, _, _, _, _, _, rfl, _⟩ := h; rfl) | (obtain ⟨_, _, _, _, _, _, _, _, _, _, _, _, _, rfl, _⟩ := h; rfl) | (obtain ⟨_, _, _, _, _, _, _, _, _, _, _, _, _, _, rfl, _⟩ := h; rfl) | (obtain ⟨_, _, _, _, _, _, _, _, _, _, _, _, _, _, _, rfl, _⟩ := h; rfl) | (obtain ⟨_, _, _, _, _, _, _, _, _, _, _, _, _, _, _, _, rfl, _⟩ := h; rfl) | (obtain ⟨_, _, _, _, _, _, _, _, _, _, _, _, _, _, _, _, _, rfl, _⟩ := h; rfl) | (obtain ⟨_, _, _, _, _, _, _, _, _, _, _, _, _, _, _, _, _, _, rfl, _⟩ := h; rfl) | (obtain ⟨_, _, _, _, _, _, _, _, _, _, _, _, _, _, _, _, _, _, _, rfl, _⟩ := h; rfl)
theorem Law.len_many {ds s Q W} (h : Law.sp_many ds s Q W) : ds.length = 1 := by first | (obtain ⟨rfl, _⟩ := h; rfl) | (obtain ⟨_, rfl, _⟩ := h; rfl) | (obtain ⟨_, _, rfl, _⟩ := h; rfl) | (obtain ⟨_, _, _, rfl, _⟩ := h; rfl) | (obtain ⟨_, _, _, _, rfl, _⟩ := h; rfl) | (obtain ⟨_, _, _, _, _, rfl, _⟩ := h; rfl) | (obtain ⟨_, _, _, _, _, _, rfl, _⟩ := h; rfl) | (obtain ⟨_, _, _, _, _, _, _, rfl, _⟩ := h; rfl) | (obtain ⟨_, _, _, _, _, _, _, _, rfl, _⟩ := h; rfl) | (obtain ⟨_, _, _, _, _, _, _, _, _, rfl, _⟩ := h; rfl) | (obtain ⟨_, _, _, _, _, _, _, _, _, _, rfl, _⟩ := h; rfl) | (obtain ⟨_, _, _, _, _, _, _, _, _, _, _, rfl, _⟩ := h; rfl) | (obtain ⟨_, _, _, _, _, _, _, _, _, _, _, _, rfl, _⟩ := h; rfl) | (obtain ⟨_, _, _, _, _, _, _, _, _, _, _, _, _, rfl, _⟩ := h; rfl) | (obtain ⟨_, _, _, _, _, _, _, _, _, _, _, _, _, _, rfl, _⟩ := h; rfl) | (obtain ⟨_, _, _, _, _, _, _, _, _, _, _, _, _, _, _, rfl, _⟩ := h; rfl) | (obtain ⟨_, _, _, _, _, _, _, _, _, _, _, _, _, _, _, _, rfl, _⟩ := h; rfl) | (obtain ⟨_, _, _, _, _, _, _, _, _, _, _, _, _, _, _, _, _, rfl, _⟩ := h; rfl) | (obtain ⟨_, _, _, _, _, _, _, _, _, _, _, _, _, _, _, _, _, _, rfl, _⟩ := h; rfl) | (obtain ⟨_, _, _, _, _, _, _, _, _, _, _, _, _, _, _, _, _, _, _, rfl, _⟩ := h; rfl)
theorem Law.len_more_than_half {ds s Q W} (h : Law.sp_more_than_half ds s Q W) : ds.length = 2 := by first | (obtain ⟨rfl, _⟩ := h; rfl) | (obtain ⟨_, rfl, _⟩ := h; rfl) | (obtain ⟨_, _, rfl, _⟩ := h; rfl) | (obtain ⟨_, _, _, rfl, _⟩ := h; rfl) | (obtain ⟨_, _, _, _, rfl, _⟩ := h; rfl) | (obtain ⟨_, _, _, _, _, rfl, _⟩ := h; rfl) | (obtain ⟨_, _, _, _, _, _, rfl, _⟩ := h; rfl) | (obtain ⟨_, _, _, _, _, _, _, rfl, _⟩ := h; rfl) | (obtain ⟨_, _, _, _, _, _, _, _, rfl, _⟩ := h; rfl) | (obtain ⟨_, _, _, _, _, _, _, _, _, rfl, _⟩ := h; rfl) | (obtain ⟨_, _, _, _, _, _, _, _, _, _, rfl, _⟩ := h; rfl) | (obtain ⟨_, _, _, _, _, _, _, _, _, _, _, rfl, _⟩ := h; rfl) | (obtain ⟨_, _, _, _, _, _, _, _, _, _, _, _, rfl, _⟩ := h; rfl) | (obtain ⟨_, _, _, _, _, _, _, _, _, _, _, _, _, rfl, _⟩ := h; rfl) | (obtain ⟨_, _, _, _, _, _, _, _, _, _, _, _, _, _, rfl, _⟩ := h; rfl) | (obtain ⟨_, _, _, _, _, _, _, _, _, _, _, _, _, _, _, rfl, _⟩ := h; rfl) | (obtain ⟨_, _, _, _, _, _, _, _, _, _, _, _, _, _, _, _, rfl, _⟩ := h; rfl) | (obtain ⟨_, _, _, _, _, _, _, _, _, _, _, _, _, _, _, _, _, rfl, _⟩ := h; rfl) | (obtain ⟨_, _, _, _, _, _, _, _, _, _, _, _, _, _, _, _, _, _, rfl, _⟩ := h; rfl) | (obtain ⟨_, _, _, _, _, _, _, _, _, _, _, _, _, _, _, _, _, _, _, rfl, _⟩ := h; rfl)
theorem Law.len_under {ds s Q W} (h : Law.sp_under ds s Q W) : ds.length = 2 := by first | (obtain ⟨rfl, _⟩ := h; rfl) | (obtain ⟨_, rfl, _⟩ := h; rfl) | (obtain ⟨_, _, rfl, _⟩ := h; rfl) | (obtain ⟨_, _, _, rfl, _⟩ := h; rfl) | (obtain ⟨_, _, _, _, rfl, _⟩ := h; rfl) | (obtain ⟨_, _, _, _, _, rfl, _⟩ := h; rfl) | (obtain ⟨_, _, _, _, _, _, rfl, _⟩ := h; rfl) | (obtain ⟨_, _, _, _, _, _, _, rfl, _⟩ := h; rfl) | (obtain ⟨_, _, _, _, _, _, _, _, rfl, _⟩ := h; rfl) | (obtain ⟨_, _, _, _, _, _, _, _, _, rfl, _⟩ := h; rfl) | (obtain ⟨_, _, _, _, _, _, _, _, _, _, rfl, _⟩ := h; rfl) | (obtain ⟨_, _, _, _, _, _, _, _, _, _, _, rfl, _⟩ := h; rfl) | (obtain ⟨_, _, _, _, _, _, _, _, _, _, _, _, rfl, _⟩ := h; rfl) | (obtain ⟨_, _, _, _, _, _, _, _, _, _, _, _, _, rfl, _⟩ := h; rfl) | (obtain ⟨_, _, _, _, _, _, _, _, _, _, _, _, _, _, rfl, _⟩ := h; rfl) | (obtain ⟨_, _, _, _, _, _, _, _, _, _, _, _, _, _, _, rfl, _⟩ := h; rfl) | (obtain ⟨_, _, _, _, _, _, _, _, _, _, _, _, _, _, _, _, rfl, _⟩ := h; rfl) | (obtain ⟨_, _, _, _, _, _, _, _, _, _, _, _, _, _, _, _, _, rfl, _⟩ := h; rfl) | (obtain ⟨_, _, _, _, _, _, _, _, _, _, _, _, _, _, _, _, _, _, rfl, _⟩ := h; rfl) | (obtain ⟨_, _, _, _, _, _, _, _, _, _, _, _, _, _, _, _, _, _, _, rfl, _⟩ := h; rfl)
theorem Law.len_ballot_of {ds s Q W} (h : Law.sp_ballot_of ds s Q W) : ds.length = 1 := by first | (obtain ⟨rfl, _⟩ := h; rfl) | (obtain ⟨_, rfl, _⟩ := h; rfl) | (obtain ⟨_, _, rfl, _⟩ := h; rfl) | (obtain ⟨_, _, _, rfl, _⟩ := h; rfl) | (obtain ⟨_, _, _, _, rfl, _⟩ := h; rfl) | (obtain ⟨_, _, _, _, _, rfl, _⟩ := h; rfl) | (obtain ⟨_, _, _, _, _, _, rfl, _⟩ := h; rfl) | (obtain ⟨_, _, _, _, _, _, _, rfl, _⟩ := h; rfl) | (obtain ⟨_, _, _, _, _, _, _, _, rfl, _⟩ := h; rfl) | (obtain ⟨_, _, _, _, _, _, _, _, _, rfl, _⟩ := h; rfl) | (obtain ⟨_, _, _, _, _, _, _, _, _, _, rfl, _⟩ := h; rfl) | (obtain ⟨_, _, _, _, _, _, _, _, _, _, _, rfl, _⟩ := h; rfl) | (obtain ⟨_, _, _, _, _, _, _, _, _, _, _, _, rfl, _⟩ := h; rfl) | (obtain ⟨_, _, _, _, _, _, _, _, _, _, _, _, _, rfl, _⟩ := h; rfl) | (obtain ⟨_, _, _, _, _, _, _, _, _, _, _, _, _, _, rfl, _⟩ := h; rfl) | (obtain ⟨_, _, _, _, _, _, _, _, _, _, _, _, _, _, _, rfl, _⟩ := h; rfl) | (obtain ⟨_, _, _, _, _, _, _, _, _, _, _, _, _, _, _, _, rfl, _⟩ := h; rfl) | (obtain ⟨_, _, _, _, _, _, _, _, _, _, _, _, _, _, _, _, _, rfl, _⟩ := h; rfl) | (obtain ⟨_, _, _, _, _, _, _, _, _, _, _, _, _, _, _, _, _, _, rfl, _⟩ := h; rfl) | (obtain ⟨_, _, _, _, _, _, _, _, _, _, _, _, _, _, _, _, _, _, _, rfl, _⟩ := h; rfl)
theorem Law.len_Change_init {ds s Q W} (h : Law.sp_Change_init ds s Q W) : ds.length = 3 := by first | (obtain ⟨rfl, _⟩ := h; rfl) | (obtain ⟨_, rfl, _⟩ := h; rfl) | (obtain ⟨_, _, rfl, _⟩ := h; rfl) | (obtain ⟨_, _, _, rfl, _⟩ := h; rfl) | (obtain ⟨_, _, _, _, rfl, _⟩ := h; rfl) | (obtain ⟨_, _, _, _, _, rfl, _⟩ := h; rfl) | (obtain ⟨_, _, _, _, _, _, rfl, _⟩ := h; rfl) | (obtain ⟨_, _, _, _, _, _, _, rfl, _⟩ := h; rfl) | (obtain ⟨_, _, _, _, _, _, _, _, rfl, _⟩ := h; rfl) | (obtain ⟨_, _, _, _, _, _, _, _, _, rfl, _⟩ := h; rfl) | (obtain ⟨_, _, _, _, _, _, _, _, _, _, rfl, _⟩ := h; rfl) | (obtain ⟨_, _, _, _, _, _, _, _, _, _, _, rfl, _⟩ := h; rfl) | (obtain ⟨_, _, _, _, _, _, _, _, _, _, _, _, rfl, _⟩ := h; rfl) | (obtain ⟨_, _, _, _, _, _, _, _, _, _, _, _, _, rfl, _⟩ := h; rfl) | (obtain ⟨_, _, _, _, _, _, _, _, _, _, _, _, _, _, rfl, _⟩ := h; rfl) | (obtain ⟨_, _, _, _, _, _, _, _, _, _, _, _, _, _, _, rfl, _⟩ := h; rfl) | (obtain ⟨_, _, _, _, _, _, _, _, _, _, _, _, _, _, _, _, rfl, _⟩ := h; rfl) | (obtain ⟨_, _, _, _, _, _, _, _, _, _, _, _, _, _, _, _, _, rfl, _⟩ := h; rfl) | (obtain ⟨_, _, _, _, _, _, _, _, _, _, _, _, _, _, _, _, _, _, rfl, _⟩ := h; rfl) | (obtain ⟨_, _, _, _, _, _, _, _, _, _, _, _, _, _, _, _, _, _, _, rfl, _⟩ := h; rfl)
theorem Law.len_Change_begin {ds s Q W} (h : Law.sp_Change_begin ds s Q W) : ds.length = 3 := by first | (obtain ⟨rfl, _⟩ := h; rfl) | (obtain ⟨_, rfl, _⟩ := h; rfl) | (obtain ⟨_, _, rfl, _⟩ := h; rfl) | (obtain ⟨_, _, _, rfl, _⟩ := h; rfl) | (obtain ⟨_, _, _, _, rfl, _⟩ := h; rfl) | (obtain ⟨_, _, _, _, _, rfl, _⟩ := h; rfl) | (obtain ⟨_, _, _, _, _, _, rfl, _⟩ := h; rfl) | (obtain ⟨_, _, _, _, _, _, _, rfl, _⟩ := h; rfl) | (obtain ⟨_, _, _, _, _, _, _, _, rfl, _⟩ := h; rfl) | (obtain ⟨_, _, _, _, _, _, _, _, _, rfl, _⟩ := h; rfl) | (obtain ⟨_, _, _, _, _, _, _, _, _, _, rfl, _⟩ := h; rfl) | (obtain ⟨_, _, _, _, _, _, _, _, _, _, _, rfl, _⟩ := h; rfl) | (obtain ⟨_, _, _, _, _, _, _, _, _, _, _, _, rfl, _⟩ := h; rfl) | (obtain ⟨_, _, _, _, _, _, _, _, _, _, _, _, _, rfl, _⟩ := h; rfl) | (obtain ⟨_, _, _, _, _, _, _, _, _, _, _, _, _, _, rfl, _⟩ := h; rfl) | (obtain ⟨_, _, _, _, _, _, _, _, _, _, _, _, _, _, _, rfl, _⟩ := h; rfl) | (obtain ⟨_, _, _, _, _, _, _, _, _, _, _, _, _, _, _, _, rfl, _⟩ := h; rfl) | (obtain ⟨_, _, _, _, _, _, _, _, _, _, _, _, _, _, _, _, _, rfl, _⟩ := h; rfl) | (obtain ⟨_, _, _, _, _, _, _, _, _, _, _, _, _, _, _, _, _, _, rfl, _⟩ := h; rfl) | (obtain ⟨_, _, _, _, _, _, _, _, _, _, _, _, _, _, _, _, _, _, _, rfl, _⟩ := h; rfl)
theorem Law.len_Change_message {ds s Q W} (h : Law.sp_Change_message ds s Q W) : ds.length = 2 := by first | (obtain ⟨rfl, _⟩ := h; rfl) | (obtain ⟨_, rfl, _⟩ := h; rfl) | (obtain ⟨_, _, rfl, _⟩ := h; rfl) | (obtain ⟨_, _, _, rfl, _⟩ := h; rfl) | (obtain ⟨_, _, _, _, rfl, _⟩ := h; rfl) | (obtain ⟨_, _, _, _, _, rfl, _⟩ := h; rfl) | (obtain ⟨_, _, _, _, _, _, rfl, _⟩ := h; rfl) | (obtain ⟨_, _, _, _, _, _, _, rfl, _⟩ := h; rfl) | (obtain ⟨_, _, _, _, _, _, _, _, rfl, _⟩ := h; rfl) | (obtain ⟨_, _, _, _, _, _, _, _, _, rfl, _⟩ := h; rfl) | (obtain ⟨_, _, _, _, _, _, _, _, _, _, rfl, _⟩ := h; rfl) | (obtain ⟨_, _, _, _, _, _, _, _, _, _, _, rfl, _⟩ := h; rfl) | (obtain ⟨_, _, _, _, _, _, _, _, _, _, _, _, rfl, _⟩ := h; rfl) | (obtain ⟨_, _, _, _, _, _, _, _, _, _, _, _, _, rfl, _⟩ := h; rfl) | (obtain ⟨_, _, _, _, _, _, _, _, _, _, _, _, _, _, rfl, _⟩ := h; rfl) | (obtain ⟨_, _, _, _, _, _, _, _, _, _, _, _, _, _, _, rfl, _⟩ := h; rfl) | (obtain ⟨_, _, _, _, _, _, _, _, _, _, _, _, _, _, _, _, rfl, _⟩ := h; rfl) | (obtain ⟨_, _, _, _, _, _, _, _, _, _, _, _, _, _, _, _, _, rfl, _⟩ := h; rfl) | (obtain ⟨_, _, _, _, _, _, _, _, _, _, _, _, _, _, _, _, _, _, rfl, _⟩ := h; rfl) | (obtain ⟨_, _, _, _, _, _, _, _, _, _, _, _, _, _, _, _, _, _, _, rfl, _⟩ := h; rfl)
theorem Law.len_Change_receive {ds s Q W} (h : Law.sp_Change_receive ds s Q W) : ds.length = 2 := by first | (obtain ⟨rfl, _⟩ := h; rfl) | (obtain ⟨_, rfl, _⟩ := h; rfl) | (obtain ⟨_, _, rfl, _⟩ := h; rfl) | (obtain ⟨_, _, _, rfl, _⟩ := h; rfl) | (obtain ⟨_, _, _, _, rfl, _⟩ := h; rfl) | (obtain ⟨_, _, _, _, _, rfl, _⟩ := h; rfl) | (obtain ⟨_, _, _, _, _, _, rfl, _⟩ := h; rfl) | (obtain ⟨_, _, _, _, _, _, _, rfl, _⟩ := h; rfl) | (obtain ⟨_, _, _, _, _, _, _, _, rfl, _⟩ := h; rfl) | (obtain ⟨_, _, _, _, _, _, _, _, _, rfl, _⟩ := h; rfl) | (obtain ⟨_, _, _, _, _, _, _, _, _, _, rfl, _⟩ := h; rfl) | (obtain ⟨_, _, _, _, _, _, _, _, _, _, _, rfl, _⟩ := h; rfl) | (obtain ⟨_, _, _, _, _, _, _, _, _, _, _, _, rfl, _⟩ := h; rfl) | (obtain ⟨_, _, _, _, _, _, _, _, _, _, _, _, _, rfl, _⟩ := h; rfl) | (obtain ⟨_, _, _, _, _, _, _, _, _, _, _, _, _, _, rfl, _⟩ := h; rfl) | (obtain ⟨_, _, _, _, _, _, _, _, _, _, _, _, _, _, _, rfl, _⟩ := h; rfl) | (obtain ⟨_, _, _, _, _, _, _, _, _, _, _, _, _, _, _, _, rfl, _⟩ := h; rfl) | (obtain ⟨_, _, _, _, _, _, _, _, _, _, _, _, _, _, _, _, _, rfl, _⟩ := h; rfl) | (obtain ⟨_, _, _, _, _, _, _, _, _, _, _, _, _, _, _, _, _, _, rfl, _⟩ := h; rfl) | (obtain ⟨_, _, _, _, _, _, _, _, _, _, _, _, _, _, _, _, _, _, _, rfl, _⟩ := h; rfl)
theorem Law.len_Change_receive_yes {ds s Q W} (h : Law.sp_Change_receive_yes ds s Q W) : ds.length = 3 := by first | (obtain ⟨rfl, _⟩ := h; rfl) | (obtain ⟨_, rfl, _⟩ := h; rfl) | (obtain ⟨_, _, rfl, _⟩ := h; rfl) | (obtain ⟨_, _, _, rfl, _⟩ := h; rfl) | (obtain ⟨_, _, _, _, rfl, _⟩ := h; rfl) | (obtain ⟨_, _, _, _, _, rfl, _⟩ := h; rfl) | (obtain ⟨_, _, _, _, _, _, rfl, _⟩ := h; rfl) | (obtain ⟨_, _, _, _, _, _, _, rfl, _⟩ := h; rfl) | (obtain ⟨_, _, _, _, _, _, _, _, rfl, _⟩ := h; rfl) | (obtain ⟨_, _, _, _, _, _, _, _, _, rfl, _⟩ := h; rfl) | (obtain ⟨_, _, _, _, _, _, _, _, _, _, rfl, _⟩ := h; rfl) | (obtain ⟨_, _, _, _, _, _, _, _, _, _, _, rfl, _⟩ := h; rfl) | (obtain ⟨_, _, _, _, _, _, _, _, _, _, _, _, rfl, _⟩ := h; rfl) | (obtain ⟨_, _, _, _, _, _, _, _, _, _, _, _, _, rfl, _⟩ := h; rfl) | (obtain ⟨_, _, _, _, _, _, _, _, _, _, _, _, _, _, rfl, _⟩ := h; rfl) | (obtain ⟨_, _, _, _, _, _, _, _, _, _, _, _, _, _, _, rfl, _⟩ := h; rfl) | (obtain ⟨_, _, _, _, _, _, _, _, _, _, _, _, _, _, _, _, rfl, _⟩ := h; rfl) | (obtain ⟨_, _, _, _, _, _, _, _, _, _, _, _, _, _, _, _, _, rfl, _⟩ := h; rfl) | (obtain ⟨_, _, _, _, _, _, _, _, _, _, _, _, _, _, _, _, _, _, rfl, _⟩ := h; rfl) | (obtain ⟨_, _, _, _, _, _, _, _, _, _, _, _, _, _, _, _, _, _, _, rfl, _⟩ := h; rfl)
theorem Law.len_Change_unplanned {ds s Q W} (h : Law.sp_Change_unplanned ds s Q W) : ds.length = 1 := by first | (obtain ⟨rfl, _⟩ := h; rfl) | (obtain ⟨_, rfl, _⟩ := h; rfl) | (obtain ⟨_, _, rfl, _⟩ := h; rfl) | (obtain ⟨_, _, _, rfl, _⟩ := h; rfl) | (obtain ⟨_, _, _, _, rfl, _⟩ := h; rfl) | (obtain ⟨_, _, _, _, _, rfl, _⟩ := h; rfl) | (obtain ⟨_, _, _, _, _, _, rfl, _⟩ := h; rfl) | (obtain ⟨_, _, _, _, _, _, _, rfl, _⟩ := h; rfl) | (obtain ⟨_, _, _, _, _, _, _, _, rfl, _⟩ := h; rfl) | (obtain ⟨_, _, _, _, _, _, _, _, _, rfl, _⟩ := h; rfl) | (obtain ⟨_, _, _, _, _, _, _, _, _, _, rfl, _⟩ := h; rfl) | (obtain ⟨_, _, _, _, _, _, _, _, _, _, _, rfl, _⟩ := h; rfl) | (obtain ⟨_, _, _, _, _, _, _, _, _, _, _, _, rfl, _⟩ := h; rfl) | (obtain ⟨_, _, _, _, _, _, _, _, _, _, _, _, _, rfl, _⟩ := h; rfl) | (obtain ⟨_, _, _, _, _, _, _, _, _, _, _, _, _, _, rfl, _⟩ := h; rfl) | (obtain ⟨_, _, _, _, _, _, _, _, _, _, _, _, _, _, _, rfl, _⟩ := h; rfl) | (obtain ⟨_, _, _, _, _, _, _, _, _, _, _, _, _, _, _, _, rfl, _⟩ := h; rfl) | (obtain ⟨_, _, _, _, _, _, _, _, _, _, _, _, _, _, _, _, _, rfl, _⟩ := h; rfl) | (obtain ⟨_, _, _, _, _, _, _, _, _, _, _, _, _, _, _, _, _, _, rfl, _⟩ := h; rfl) | (obtain ⟨_, _, _, _, _, _, _, _, _, _, _, _, _, _, _, _, _, _, _, rfl, _⟩ := h; rfl)
theorem Law.len_Change_settle {ds s Q W} (h : Law.sp_Change_settle ds s Q W) : ds.length = 1 := by first | (obtain ⟨rfl, _⟩ := h; rfl) | (obtain ⟨_, rfl, _⟩ := h; rfl) | (obtain ⟨_, _, rfl, _⟩ := h; rfl) | (obtain ⟨_, _, _, rfl, _⟩ := h; rfl) | (obtain ⟨_, _, _, _, rfl, _⟩ := h; rfl) | (obtain ⟨_, _, _, _, _, rfl, _⟩ := h; rfl) | (obtain ⟨_, _, _, _, _, _, rfl, _⟩ := h; rfl) | (obtain ⟨_, _, _, _, _, _, _, rfl, _⟩ := h; rfl) | (obtain ⟨_, _, _, _, _, _, _, _, rfl, _⟩ := h; rfl) | (obtain ⟨_, _, _, _, _, _, _, _, _, rfl, _⟩ := h; rfl) | (obtain ⟨_, _, _, _, _, _, _, _, _, _, rfl, _⟩ := h; rfl) | (obtain ⟨_, _, _, _, _, _, _, _, _, _, _, rfl, _⟩ := h; rfl) | (obtain ⟨_, _, _, _, _, _, _, _, _, _, _, _, rfl, _⟩ := h; rfl) | (obtain ⟨_, _, _, _, _, _, _, _, _, _, _, _, _, rfl, _⟩ := h; rfl) | (obtain ⟨_, _, _, _, _, _, _, _, _, _, _, _, _, _, rfl, _⟩ := h; rfl) | (obtain ⟨_, _, _, _, _, _, _, _, _, _, _, _, _, _, _, rfl, _⟩ := h; rfl) | (obtain ⟨_, _, _, _, _, _, _, _, _, _, _, _, _, _, _, _, rfl, _⟩ := h; rfl) | (obtain ⟨_, _, _, _, _, _, _, _, _, _, _, _, _, _, _, _, _, rfl, _⟩ := h; rfl) | (obtain ⟨_, _, _, _, _, _, _, _, _, _, _, _, _, _, _, _, _, _, rfl, _⟩ := h; rfl) | (obtain ⟨_, _, _, _, _, _, _, _, _, _, _, _, _, _, _, _, _, _, _, rfl, _⟩ := h; rfl)
theorem Law.len_Change_enough {ds s Q W} (h : Law.sp_Change_enough ds s Q W) : ds.length = 2 := by first | (obtain ⟨rfl, _⟩ := h; rfl) | (obtain ⟨_, rfl, _⟩ := h; rfl) | (obtain ⟨_, _, rfl, _⟩ := h; rfl) | (obtain ⟨_, _, _, rfl, _⟩ := h; rfl) | (obtain ⟨_, _, _, _, rfl, _⟩ := h; rfl) | (obtain ⟨_, _, _, _, _, rfl, _⟩ := h; rfl) | (obtain ⟨_, _, _, _, _, _, rfl, _⟩ := h; rfl) | (obtain ⟨_, _, _, _, _, _, _, rfl, _⟩ := h; rfl) | (obtain ⟨_, _, _, _, _, _, _, _, rfl, _⟩ := h; rfl) | (obtain ⟨_, _, _, _, _, _, _, _, _, rfl, _⟩ := h; rfl) | (obtain ⟨_, _, _, _, _, _, _, _, _, _, rfl, _⟩ := h; rfl) | (obtain ⟨_, _, _, _, _, _, _, _, _, _, _, rfl, _⟩ := h; rfl) | (obtain ⟨_, _, _, _, _, _, _, _, _, _, _, _, rfl, _⟩ := h; rfl) | (obtain ⟨_, _, _, _, _, _, _, _, _, _, _, _, _, rfl, _⟩ := h; rfl) | (obtain ⟨_, _, _, _, _, _, _, _, _, _, _, _, _, _, rfl, _⟩ := h; rfl) | (obtain ⟨_, _, _, _, _, _, _, _, _, _, _, _, _, _, _, rfl, _⟩ := h; rfl) | (obtain ⟨_, _, _, _, _, _, _, _, _, _, _, _, _, _, _, _, rfl, _⟩ := h; rfl) | (obtain ⟨_, _, _, _, _, _, _, _, _, _, _, _, _, _, _, _, _, rfl, _⟩ := h; rfl) | (obtain ⟨_, _, _, _, _, _, _, _, _, _, _, _, _, _, _, _, _, _, rfl, _⟩ := h; rfl) | (obtain ⟨_, _, _, _, _, _, _, _, _, _, _, _, _, _, _, _, _, _, _, rfl, _⟩ := h; rfl)
theorem Law.len_Change_settled {ds s Q W} (h : Law.sp_Change_settled ds s Q W) : ds.length = 1 := by first | (obtain ⟨rfl, _⟩ := h; rfl) | (obtain ⟨_, rfl, _⟩ := h; rfl) | (obtain ⟨_, _, rfl, _⟩ := h; rfl) | (obtain ⟨_, _, _, rfl, _⟩ := h; rfl) | (obtain ⟨_, _, _, _, rfl, _⟩ := h; rfl) | (obtain ⟨_, _, _, _, _, rfl, _⟩ := h; rfl) | (obtain ⟨_, _, _, _, _, _, rfl, _⟩ := h; rfl) | (obtain ⟨_, _, _, _, _, _, _, rfl, _⟩ := h; rfl) | (obtain ⟨_, _, _, _, _, _, _, _, rfl, _⟩ := h; rfl) | (obtain ⟨_, _, _, _, _, _, _, _, _, rfl, _⟩ := h; rfl) | (obtain ⟨_, _, _, _, _, _, _, _, _, _, rfl, _⟩ := h; rfl) | (obtain ⟨_, _, _, _, _, _, _, _, _, _, _, rfl, _⟩ := h; rfl) | (obtain ⟨_, _, _, _, _, _, _, _, _, _, _, _, rfl, _⟩ := h; rfl) | (obtain ⟨_, _, _, _, _, _, _, _, _, _, _, _, _, rfl, _⟩ := h; rfl) | (obtain ⟨_, _, _, _, _, _, _, _, _, _, _, _, _, _, rfl, _⟩ := h; rfl) | (obtain ⟨_, _, _, _, _, _, _, _, _, _, _, _, _, _, _, rfl, _⟩ := h; rfl) | (obtain ⟨_, _, _, _, _, _, _, _, _, _, _, _, _, _, _, _, rfl, _⟩ := h; rfl) | (obtain ⟨_, _, _, _, _, _, _, _, _, _, _, _, _, _, _, _, _, rfl, _⟩ := h; rfl) | (obtain ⟨_, _, _, _, _, _, _, _, _, _, _, _, _, _, _, _, _, _, rfl, _⟩ := h; rfl) | (obtain ⟨_, _, _, _, _, _, _, _, _, _, _, _, _, _, _, _, _, _, _, rfl, _⟩ := h; rfl)
theorem Law.len__law_cell_at {ds s Q W} (h : Law.sp__law_cell_at ds s Q W) : ds.length = 2 := by first | (obtain ⟨rfl, _⟩ := h; rfl) | (obtain ⟨_, rfl, _⟩ := h; rfl) | (obtain ⟨_, _, rfl, _⟩ := h; rfl) | (obtain ⟨_, _, _, rfl, _⟩ := h; rfl) | (obtain ⟨_, _, _, _, rfl, _⟩ := h; rfl) | (obtain ⟨_, _, _, _, _, rfl, _⟩ := h; rfl) | (obtain ⟨_, _, _, _, _, _, rfl, _⟩ := h; rfl) | (obtain ⟨_, _, _, _, _, _, _, rfl, _⟩ := h; rfl) | (obtain ⟨_, _, _, _, _, _, _, _, rfl, _⟩ := h; rfl) | (obtain ⟨_, _, _, _, _, _, _, _, _, rfl, _⟩ := h; rfl) | (obtain ⟨_, _, _, _, _, _, _, _, _, _, rfl, _⟩ := h; rfl) | (obtain ⟨_, _, _, _, _, _, _, _, _, _, _, rfl, _⟩ := h; rfl) | (obtain ⟨_, _, _, _, _, _, _, _, _, _, _, _, rfl, _⟩ := h; rfl) | (obtain ⟨_, _, _, _, _, _, _, _, _, _, _, _, _, rfl, _⟩ := h; rfl) | (obtain ⟨_, _, _, _, _, _, _, _, _, _, _, _, _, _, rfl, _⟩ := h; rfl) | (obtain ⟨_, _, _, _, _, _, _, _, _, _, _, _, _, _, _, rfl, _⟩ := h; rfl) | (obtain ⟨_, _, _, _, _, _, _, _, _, _, _, _, _, _, _, _, rfl, _⟩ := h; rfl) | (obtain ⟨_, _, _, _, _, _, _, _, _, _, _, _, _, _, _, _, _, rfl, _⟩ := h; rfl) | (obtain ⟨_, _, _, _, _, _, _, _, _, _, _, _, _, _, _, _, _, _, rfl, _⟩ := h; rfl) | (obtain ⟨_, _, _, _, _, _, _, _, _, _, _, _, _, _, _, _, _, _, _, rfl, _⟩ := h; rfl)
theorem Law.len__law_stream {ds s Q W} (h : Law.sp__law_stream ds s Q W) : ds.length = 2 := by first | (obtain ⟨rfl, _⟩ := h; rfl) | (obtain ⟨_, rfl, _⟩ := h; rfl) | (obtain ⟨_, _, rfl, _⟩ := h; rfl) | (obtain ⟨_, _, _, rfl, _⟩ := h; rfl) | (obtain ⟨_, _, _, _, rfl, _⟩ := h; rfl) | (obtain ⟨_, _, _, _, _, rfl, _⟩ := h; rfl) | (obtain ⟨_, _, _, _, _, _, rfl, _⟩ := h; rfl) | (obtain ⟨_, _, _, _, _, _, _, rfl, _⟩ := h; rfl) | (obtain ⟨_, _, _, _, _, _, _, _, rfl, _⟩ := h; rfl) | (obtain ⟨_, _, _, _, _, _, _, _, _, rfl, _⟩ := h; rfl) | (obtain ⟨_, _, _, _, _, _, _, _, _, _, rfl, _⟩ := h; rfl) | (obtain ⟨_, _, _, _, _, _, _, _, _, _, _, rfl, _⟩ := h; rfl) | (obtain ⟨_, _, _, _, _, _, _, _, _, _, _, _, rfl, _⟩ := h; rfl) | (obtain ⟨_, _, _, _, _, _, _, _, _, _, _, _, _, rfl, _⟩ := h; rfl) | (obtain ⟨_, _, _, _, _, _, _, _, _, _, _, _, _, _, rfl, _⟩ := h; rfl) | (obtain ⟨_, _, _, _, _, _, _, _, _, _, _, _, _, _, _, rfl, _⟩ := h; rfl) | (obtain ⟨_, _, _, _, _, _, _, _, _, _, _, _, _, _, _, _, rfl, _⟩ := h; rfl) | (obtain ⟨_, _, _, _, _, _, _, _, _, _, _, _, _, _, _, _, _, rfl, _⟩ := h; rfl) | (obtain ⟨_, _, _, _, _, _, _, _, _, _, _, _, _, _, _, _, _, _, rfl, _⟩ := h; rfl) | (obtain ⟨_, _, _, _, _, _, _, _, _, _, _, _, _, _, _, _, _, _, _, rfl, _⟩ := h; rfl)
theorem Law.len__law_hands {ds s Q W} (h : Law.sp__law_hands ds s Q W) : ds.length = 1 := by first | (obtain ⟨rfl, _⟩ := h; rfl) | (obtain ⟨_, rfl, _⟩ := h; rfl) | (obtain ⟨_, _, rfl, _⟩ := h; rfl) | (obtain ⟨_, _, _, rfl, _⟩ := h; rfl) | (obtain ⟨_, _, _, _, rfl, _⟩ := h; rfl) | (obtain ⟨_, _, _, _, _, rfl, _⟩ := h; rfl) | (obtain ⟨_, _, _, _, _, _, rfl, _⟩ := h; rfl) | (obtain ⟨_, _, _, _, _, _, _, rfl, _⟩ := h; rfl) | (obtain ⟨_, _, _, _, _, _, _, _, rfl, _⟩ := h; rfl) | (obtain ⟨_, _, _, _, _, _, _, _, _, rfl, _⟩ := h; rfl) | (obtain ⟨_, _, _, _, _, _, _, _, _, _, rfl, _⟩ := h; rfl) | (obtain ⟨_, _, _, _, _, _, _, _, _, _, _, rfl, _⟩ := h; rfl) | (obtain ⟨_, _, _, _, _, _, _, _, _, _, _, _, rfl, _⟩ := h; rfl) | (obtain ⟨_, _, _, _, _, _, _, _, _, _, _, _, _, rfl, _⟩ := h; rfl) | (obtain ⟨_, _, _, _, _, _, _, _, _, _, _, _, _, _, rfl, _⟩ := h; rfl) | (obtain ⟨_, _, _, _, _, _, _, _, _, _, _, _, _, _, _, rfl, _⟩ := h; rfl) | (obtain ⟨_, _, _, _, _, _, _, _, _, _, _, _, _, _, _, _, rfl, _⟩ := h; rfl) | (obtain ⟨_, _, _, _, _, _, _, _, _, _, _, _, _, _, _, _, _, rfl, _⟩ := h; rfl) | (obtain ⟨_, _, _, _, _, _, _, _, _, _, _, _, _, _, _, _, _, _, rfl, _⟩ := h; rfl) | (obtain ⟨_, _, _, _, _, _, _, _, _, _, _, _, _, _, _, _, _, _, _, rfl, _⟩ := h; rfl)
theorem Law.len__law_under {ds s Q W} (h : Law.sp__law_under ds s Q W) : ds.length = 2 := by first | (obtain ⟨rfl, _⟩ := h; rfl) | (obtain ⟨_, rfl, _⟩ := h; rfl) | (obtain ⟨_, _, rfl, _⟩ := h; rfl) | (obtain ⟨_, _, _, rfl, _⟩ := h; rfl) | (obtain ⟨_, _, _, _, rfl, _⟩ := h; rfl) | (obtain ⟨_, _, _, _, _, rfl, _⟩ := h; rfl) | (obtain ⟨_, _, _, _, _, _, rfl, _⟩ := h; rfl) | (obtain ⟨_, _, _, _, _, _, _, rfl, _⟩ := h; rfl) | (obtain ⟨_, _, _, _, _, _, _, _, rfl, _⟩ := h; rfl) | (obtain ⟨_, _, _, _, _, _, _, _, _, rfl, _⟩ := h; rfl) | (obtain ⟨_, _, _, _, _, _, _, _, _, _, rfl, _⟩ := h; rfl) | (obtain ⟨_, _, _, _, _, _, _, _, _, _, _, rfl, _⟩ := h; rfl) | (obtain ⟨_, _, _, _, _, _, _, _, _, _, _, _, rfl, _⟩ := h; rfl) | (obtain ⟨_, _, _, _, _, _, _, _, _, _, _, _, _, rfl, _⟩ := h; rfl) | (obtain ⟨_, _, _, _, _, _, _, _, _, _, _, _, _, _, rfl, _⟩ := h; rfl) | (obtain ⟨_, _, _, _, _, _, _, _, _, _, _, _, _, _, _, rfl, _⟩ := h; rfl) | (obtain ⟨_, _, _, _, _, _, _, _, _, _, _, _, _, _, _, _, rfl, _⟩ := h; rfl) | (obtain ⟨_, _, _, _, _, _, _, _, _, _, _, _, _, _, _, _, _, rfl, _⟩ := h; rfl) | (obtain ⟨_, _, _, _, _, _, _, _, _, _, _, _, _, _, _, _, _, _, rfl, _⟩ := h; rfl) | (obtain ⟨_, _, _, _, _, _, _, _, _, _, _, _, _, _, _, _, _, _, _, rfl, _⟩ := h; rfl)
theorem Law.len__law_ballot {ds s Q W} (h : Law.sp__law_ballot ds s Q W) : ds.length = 1 := by first | (obtain ⟨rfl, _⟩ := h; rfl) | (obtain ⟨_, rfl, _⟩ := h; rfl) | (obtain ⟨_, _, rfl, _⟩ := h; rfl) | (obtain ⟨_, _, _, rfl, _⟩ := h; rfl) | (obtain ⟨_, _, _, _, rfl, _⟩ := h; rfl) | (obtain ⟨_, _, _, _, _, rfl, _⟩ := h; rfl) | (obtain ⟨_, _, _, _, _, _, rfl, _⟩ := h; rfl) | (obtain ⟨_, _, _, _, _, _, _, rfl, _⟩ := h; rfl) | (obtain ⟨_, _, _, _, _, _, _, _, rfl, _⟩ := h; rfl) | (obtain ⟨_, _, _, _, _, _, _, _, _, rfl, _⟩ := h; rfl) | (obtain ⟨_, _, _, _, _, _, _, _, _, _, rfl, _⟩ := h; rfl) | (obtain ⟨_, _, _, _, _, _, _, _, _, _, _, rfl, _⟩ := h; rfl) | (obtain ⟨_, _, _, _, _, _, _, _, _, _, _, _, rfl, _⟩ := h; rfl) | (obtain ⟨_, _, _, _, _, _, _, _, _, _, _, _, _, rfl, _⟩ := h; rfl) | (obtain ⟨_, _, _, _, _, _, _, _, _, _, _, _, _, _, rfl, _⟩ := h; rfl) | (obtain ⟨_, _, _, _, _, _, _, _, _, _, _, _, _, _, _, rfl, _⟩ := h; rfl) | (obtain ⟨_, _, _, _, _, _, _, _, _, _, _, _, _, _, _, _, rfl, _⟩ := h; rfl) | (obtain ⟨_, _, _, _, _, _, _, _, _, _, _, _, _, _, _, _, _, rfl, _⟩ := h; rfl) | (obtain ⟨_, _, _, _, _, _, _, _, _, _, _, _, _, _, _, _, _, _, rfl, _⟩ := h; rfl) | (obtain ⟨_, _, _, _, _, _, _, _, _, _, _, _, _, _, _, _, _, _, _, rfl, _⟩ := h; rfl)
theorem Law.len__law_many {ds s Q W} (h : Law.sp__law_many ds s Q W) : ds.length = 1 := by first | (obtain ⟨rfl, _⟩ := h; rfl) | (obtain ⟨_, rfl, _⟩ := h; rfl) | (obtain ⟨_, _, rfl, _⟩ := h; rfl) | (obtain ⟨_, _, _, rfl, _⟩ := h; rfl) | (obtain ⟨_, _, _, _, rfl, _⟩ := h; rfl) | (obtain ⟨_, _, _, _, _, rfl, _⟩ := h; rfl) | (obtain ⟨_, _, _, _, _, _, rfl, _⟩ := h; rfl) | (obtain ⟨_, _, _, _, _, _, _, rfl, _⟩ := h; rfl) | (obtain ⟨_, _, _, _, _, _, _, _, rfl, _⟩ := h; rfl) | (obtain ⟨_, _, _, _, _, _, _, _, _, rfl, _⟩ := h; rfl) | (obtain ⟨_, _, _, _, _, _, _, _, _, _, rfl, _⟩ := h; rfl) | (obtain ⟨_, _, _, _, _, _, _, _, _, _, _, rfl, _⟩ := h; rfl) | (obtain ⟨_, _, _, _, _, _, _, _, _, _, _, _, rfl, _⟩ := h; rfl) | (obtain ⟨_, _, _, _, _, _, _, _, _, _, _, _, _, rfl, _⟩ := h; rfl) | (obtain ⟨_, _, _, _, _, _, _, _, _, _, _, _, _, _, rfl, _⟩ := h; rfl) | (obtain ⟨_, _, _, _, _, _, _, _, _, _, _, _, _, _, _, rfl, _⟩ := h; rfl) | (obtain ⟨_, _, _, _, _, _, _, _, _, _, _, _, _, _, _, _, rfl, _⟩ := h; rfl) | (obtain ⟨_, _, _, _, _, _, _, _, _, _, _, _, _, _, _, _, _, rfl, _⟩ := h; rfl) | (obtain ⟨_, _, _, _, _, _, _, _, _, _, _, _, _, _, _, _, _, _, rfl, _⟩ := h; rfl) | (obtain ⟨_, _, _, _, _, _, _, _, _, _, _, _, _, _, _, _, _, _, _, rfl, _⟩ := h; rfl)
theorem Law.len__law_due {ds s Q W} (h : Law.sp__law_due ds s Q W) : ds.length = 4 := by first | (obtain ⟨rfl, _⟩ := h; rfl) | (obtain ⟨_, rfl, _⟩ := h; rfl) | (obtain ⟨_, _, rfl, _⟩ := h; rfl) | (obtain ⟨_, _, _, rfl, _⟩ := h; rfl) | (obtain ⟨_, _, _, _, rfl, _⟩ := h; rfl) | (obtain ⟨_, _, _, _, _, rfl, _⟩ := h; rfl) | (obtain ⟨_, _, _, _, _, _, rfl, _⟩ := h; rfl) | (obtain ⟨_, _, _, _, _, _, _, rfl, _⟩ := h; rfl) | (obtain ⟨_, _, _, _, _, _, _, _, rfl, _⟩ := h; rfl) | (obtain ⟨_, _, _, _, _, _, _, _, _, rfl, _⟩ := h; rfl) | (obtain ⟨_, _, _, _, _, _, _, _, _, _, rfl, _⟩ := h; rfl) | (obtain ⟨_, _, _, _, _, _, _, _, _, _, _, rfl, _⟩ := h; rfl) | (obtain ⟨_, _, _, _, _, _, _, _, _, _, _, _, rfl, _⟩ := h; rfl) | (obtain ⟨_, _, _, _, _, _, _, _, _, _, _, _, _, rfl, _⟩ := h; rfl) | (obtain ⟨_, _, _, _, _, _, _, _, _, _, _, _, _, _, rfl, _⟩ := h; rfl) | (obtain ⟨_, _, _, _, _, _, _, _, _, _, _, _, _, _, _, rfl, _⟩ := h; rfl) | (obtain ⟨_, _, _, _, _, _, _, _, _, _, _, _, _, _, _, _, rfl, _⟩ := h; rfl) | (obtain ⟨_, _, _, _, _, _, _, _, _, _, _, _, _, _, _, _, _, rfl, _⟩ := h; rfl) | (obtain ⟨_, _, _, _, _, _, _, _, _, _, _, _, _, _, _, _, _, _, rfl, _⟩ := h; rfl) | (obtain ⟨_, _, _, _, _, _, _, _, _, _, _, _, _, _, _, _, _, _, _, rfl, _⟩ := h; rfl)
theorem Law.len__law_seen {ds s Q W} (h : Law.sp__law_seen ds s Q W) : ds.length = 1 := by first | (obtain ⟨rfl, _⟩ := h; rfl) | (obtain ⟨_, rfl, _⟩ := h; rfl) | (obtain ⟨_, _, rfl, _⟩ := h; rfl) | (obtain ⟨_, _, _, rfl, _⟩ := h; rfl) | (obtain ⟨_, _, _, _, rfl, _⟩ := h; rfl) | (obtain ⟨_, _, _, _, _, rfl, _⟩ := h; rfl) | (obtain ⟨_, _, _, _, _, _, rfl, _⟩ := h; rfl) | (obtain ⟨_, _, _, _, _, _, _, rfl, _⟩ := h; rfl) | (obtain ⟨_, _, _, _, _, _, _, _, rfl, _⟩ := h; rfl) | (obtain ⟨_, _, _, _, _, _, _, _, _, rfl, _⟩ := h; rfl) | (obtain ⟨_, _, _, _, _, _, _, _, _, _, rfl, _⟩ := h; rfl) | (obtain ⟨_, _, _, _, _, _, _, _, _, _, _, rfl, _⟩ := h; rfl) | (obtain ⟨_, _, _, _, _, _, _, _, _, _, _, _, rfl, _⟩ := h; rfl) | (obtain ⟨_, _, _, _, _, _, _, _, _, _, _, _, _, rfl, _⟩ := h; rfl) | (obtain ⟨_, _, _, _, _, _, _, _, _, _, _, _, _, _, rfl, _⟩ := h; rfl) | (obtain ⟨_, _, _, _, _, _, _, _, _, _, _, _, _, _, _, rfl, _⟩ := h; rfl) | (obtain ⟨_, _, _, _, _, _, _, _, _, _, _, _, _, _, _, _, rfl, _⟩ := h; rfl) | (obtain ⟨_, _, _, _, _, _, _, _, _, _, _, _, _, _, _, _, _, rfl, _⟩ := h; rfl) | (obtain ⟨_, _, _, _, _, _, _, _, _, _, _, _, _, _, _, _, _, _, rfl, _⟩ := h; rfl) | (obtain ⟨_, _, _, _, _, _, _, _, _, _, _, _, _, _, _, _, _, _, _, rfl, _⟩ := h; rfl)
theorem Law.len__law_receive {ds s Q W} (h : Law.sp__law_receive ds s Q W) : ds.length = 3 := by first | (obtain ⟨rfl, _⟩ := h; rfl) | (obtain ⟨_, rfl, _⟩ := h; rfl) | (obtain ⟨_, _, rfl, _⟩ := h; rfl) | (obtain ⟨_, _, _, rfl, _⟩ := h; rfl) | (obtain ⟨_, _, _, _, rfl, _⟩ := h; rfl) | (obtain ⟨_, _, _, _, _, rfl, _⟩ := h; rfl) | (obtain ⟨_, _, _, _, _, _, rfl, _⟩ := h; rfl) | (obtain ⟨_, _, _, _, _, _, _, rfl, _⟩ := h; rfl) | (obtain ⟨_, _, _, _, _, _, _, _, rfl, _⟩ := h; rfl) | (obtain ⟨_, _, _, _, _, _, _, _, _, rfl, _⟩ := h; rfl) | (obtain ⟨_, _, _, _, _, _, _, _, _, _, rfl, _⟩ := h; rfl) | (obtain ⟨_, _, _, _, _, _, _, _, _, _, _, rfl, _⟩ := h; rfl) | (obtain ⟨_, _, _, _, _, _, _, _, _, _, _, _, rfl, _⟩ := h; rfl) | (obtain ⟨_, _, _, _, _, _, _, _, _, _, _, _, _, rfl, _⟩ := h; rfl) | (obtain ⟨_, _, _, _, _, _, _, _, _, _, _, _, _, _, rfl, _⟩ := h; rfl) | (obtain ⟨_, _, _, _, _, _, _, _, _, _, _, _, _, _, _, rfl, _⟩ := h; rfl) | (obtain ⟨_, _, _, _, _, _, _, _, _, _, _, _, _, _, _, _, rfl, _⟩ := h; rfl) | (obtain ⟨_, _, _, _, _, _, _, _, _, _, _, _, _, _, _, _, _, rfl, _⟩ := h; rfl) | (obtain ⟨_, _, _, _, _, _, _, _, _, _, _, _, _, _, _, _, _, _, rfl, _⟩ := h; rfl) | (obtain ⟨_, _, _, _, _, _, _, _, _, _, _, _, _, _, _, _, _, _, _, rfl, _⟩ := h; rfl)
theorem Law.len__law_propose {ds s Q W} (h : Law.sp__law_propose ds s Q W) : ds.length = 4 := by first | (obtain ⟨rfl, _⟩ := h; rfl) | (obtain ⟨_, rfl, _⟩ := h; rfl) | (obtain ⟨_, _, rfl, _⟩ := h; rfl) | (obtain ⟨_, _, _, rfl, _⟩ := h; rfl) | (obtain ⟨_, _, _, _, rfl, _⟩ := h; rfl) | (obtain ⟨_, _, _, _, _, rfl, _⟩ := h; rfl) | (obtain ⟨_, _, _, _, _, _, rfl, _⟩ := h; rfl) | (obtain ⟨_, _, _, _, _, _, _, rfl, _⟩ := h; rfl) | (obtain ⟨_, _, _, _, _, _, _, _, rfl, _⟩ := h; rfl) | (obtain ⟨_, _, _, _, _, _, _, _, _, rfl, _⟩ := h; rfl) | (obtain ⟨_, _, _, _, _, _, _, _, _, _, rfl, _⟩ := h; rfl) | (obtain ⟨_, _, _, _, _, _, _, _, _, _, _, rfl, _⟩ := h; rfl) | (obtain ⟨_, _, _, _, _, _, _, _, _, _, _, _, rfl, _⟩ := h; rfl) | (obtain ⟨_, _, _, _, _, _, _, _, _, _, _, _, _, rfl, _⟩ := h; rfl) | (obtain ⟨_, _, _, _, _, _, _, _, _, _, _, _, _, _, rfl, _⟩ := h; rfl) | (obtain ⟨_, _, _, _, _, _, _, _, _, _, _, _, _, _, _, rfl, _⟩ := h; rfl) | (obtain ⟨_, _, _, _, _, _, _, _, _, _, _, _, _, _, _, _, rfl, _⟩ := h; rfl) | (obtain ⟨_, _, _, _, _, _, _, _, _, _, _, _, _, _, _, _, _, rfl, _⟩ := h; rfl) | (obtain ⟨_, _, _, _, _, _, _, _, _, _, _, _, _, _, _, _, _, _, rfl, _⟩ := h; rfl) | (obtain ⟨_, _, _, _, _, _, _, _, _, _, _, _, _, _, _, _, _, _, _, rfl, _⟩ := h; rfl)
theorem Law.len_law {ds s Q W} (h : Law.sp_law ds s Q W) : ds.length = 1 := by first | (obtain ⟨rfl, _⟩ := h; rfl) | (obtain ⟨_, rfl, _⟩ := h; rfl) | (obtain ⟨_, _, rfl, _⟩ := h; rfl) | (obtain ⟨_, _, _, rfl, _⟩ := h; rfl) | (obtain ⟨_, _, _, _, rfl, _⟩ := h; rfl) | (obtain ⟨_, _, _, _, _, rfl, _⟩ := h; rfl) | (obtain ⟨_, _, _, _, _, _, rfl, _⟩ := h; rfl) | (obtain ⟨_, _, _, _, _, _, _, rfl, _⟩ := h; rfl) | (obtain ⟨_, _, _, _, _, _, _, _, rfl, _⟩ := h; rfl) | (obtain ⟨_, _, _, _, _, _, _, _, _, rfl, _⟩ := h; rfl) | (obtain ⟨_, _, _, _, _, _, _, _, _, _, rfl, _⟩ := h; rfl) | (obtain ⟨_, _, _, _, _, _, _, _, _, _, _, rfl, _⟩ := h; rfl) | (obtain ⟨_, _, _, _, _, _, _, _, _, _, _, _, rfl, _⟩ := h; rfl) | (obtain ⟨_, _, _, _, _, _, _, _, _, _, _, _, _, rfl, _⟩ := h; rfl) | (obtain ⟨_, _, _, _, _, _, _, _, _, _, _, _, _, _, rfl, _⟩ := h; rfl) | (obtain ⟨_, _, _, _, _, _, _, _, _, _, _, _, _, _, _, rfl, _⟩ := h; rfl) | (obtain ⟨_, _, _, _, _, _, _, _, _, _, _, _, _, _, _, _, rfl, _⟩ := h; rfl) | (obtain ⟨_, _, _, _, _, _, _, _, _, _, _, _, _, _, _, _, _, rfl, _⟩ := h; rfl) | (obtain ⟨_, _, _, _, _, _, _, _, _, _, _, _, _, _, _, _, _, _, rfl, _⟩ := h; rfl) | (obtain ⟨_, _, _, _, _, _, _, _, _, _, _, _, _, _, _, _, _, _, _, rfl, _⟩ := h; rfl)
/-! generated by gen.py: the defs by their places -/
namespace Law
open PySem L2 G
def top (i : Nat) : Stmt := PySem.Challenge.pw_groupcall_k62_received.main.body.getD i (.Pass ⟨0, 0, 0, 0⟩)
abbrev s_has : Stmt := top 1
abbrev N_has : List Str := ["hands", "hand"]
abbrev s_hands_of : Stmt := top 2
abbrev N_hands_of : List Str := ["hands", "hand"]
abbrev s_many : Stmt := top 3
abbrev N_many : List Str := ["hands", "found"]
abbrev s_more_than_half : Stmt := top 4
abbrev N_more_than_half : List Str := ["some", "hands"]
abbrev s_under : Stmt := top 6
abbrev N_under : List Str := ["one", "other"]
abbrev s_ballot_of : Stmt := top 7
abbrev N_ballot_of : List Str := ["yes"]
abbrev s_Change_init : Stmt := inClass (top 8) 0
abbrev N_Change_init : List Str := ["self", "me", "hands"]
abbrev s_Change_begin : Stmt := inClass (top 8) 1
abbrev N_Change_begin : List Str := ["self", "more", "report", "begun"]
abbrev s_Change_message : Stmt := inClass (top 8) 2
abbrev N_Change_message : List Str := ["self", "report"]
abbrev s_Change_receive : Stmt := inClass (top 8) 3
abbrev N_Change_receive : List Str := ["self", "message", "hand", "ballot", "yes", "votes", "report"]
abbrev s_Change_receive_yes : Stmt := inClass (top 8) 4
abbrev N_Change_receive_yes : List Str := ["self", "yes", "votes"]
abbrev s_Change_unplanned : Stmt := inClass (top 8) 5
abbrev N_Change_unplanned : List Str := ["self"]
abbrev s_Change_settle : Stmt := inClass (top 8) 6
abbrev N_Change_settle : List Str := ["self"]
abbrev s_Change_enough : Stmt := inClass (top 8) 7
abbrev N_Change_enough : List Str := ["self", "doubts", "told", "hand"]
abbrev s_Change_propose : Stmt := inClass (top 8) 8
abbrev N_Change_propose : List Str := ["self", "doubts", "make", "best", "plan", "hand", "yes"]
abbrev s_Change_settled : Stmt := inClass (top 8) 9
abbrev N_Change_settled : List Str := ["self"]
abbrev s__law_cell_at : Stmt := top 10
abbrev N__law_cell_at : List Str := ["_law_script", "_law_k"]
abbrev s__law_stream : Stmt := top 11
abbrev N__law_stream : List Str := ["_law_cell", "_law_amount", "_law_found", "_law_number", "_law_k"]
abbrev s__law_hands : Stmt := top 12
abbrev N__law_hands : List Str := ["_law_cell", "_law_found", "_law_number"]
abbrev s__law_under : Stmt := top 13
abbrev N__law_under : List Str := ["_law_one", "_law_other"]
abbrev s__law_ballot : Stmt := top 14
abbrev N__law_ballot : List Str := ["_law_yes"]
abbrev s__law_many : Stmt := top 15
abbrev N__law_many : List Str := ["_law_votes", "_law_hand"]
abbrev s__law_due : Stmt := top 16
abbrev N__law_due : List Str := ["_law_hand", "_law_size", "_law_own", "_law_told", "_law_ballot_here", "_law_yes", "_law_votes", "_law_settled"]
abbrev s__law_seen : Stmt := top 17
abbrev N__law_seen : List Str := ["_law_change"]
abbrev s__law_receive : Stmt := top 18
abbrev N__law_receive : List Str := ["_law_changes", "_law_hand", "_law_kept", "_law_giver", "_law_message", "_law_told", "_law_due_here", "_law_found"]
abbrev s__law_make : Stmt := top 19
abbrev N__law_make : List Str := ["_law_plan", "_law_make_here"]
abbrev s__law_propose : Stmt := top 20
abbrev N__law_propose : List Str := ["_law_changes", "_law_hand", "_law_xs", "_law_cell", "_law_doubts", "_law_k", "_law_plan"]
abbrev s_law : Stmt := top 21
abbrev N_law : List Str := ["_law_script", "_law_hands_here", "_law_whole", "_law_hand", "_law_changes", "_law_mail", "_law_cell", "_law_xs", "_law_deed", "_law_kept", "_law_other"]
abbrev s__law_make___law_make_here : Stmt := (C8.fnBody s__law_make).getD 0 (.Pass ⟨0, 0, 0, 0⟩)
abbrev N__law_make___law_make_here : List Str := ["_law_reports", "_law_plan"]
abbrev q__law_make___law_make_here : Str := (("_law_make" : Str) ++ ".<locals>.") ++ ("_law_make_here" : Str)
abbrev mk__law_make___law_make_here (ce : List (Str × Addr)) : Addr → NdefX.NF := NdefX.NF.of s__law_make___law_make_here "_law_make_here" q__law_make___law_make_here (cloFrom ce (C8.fnScope s__law_make___law_make_here).names [])
def nps (j : Nat) : List Str := match j with | 0 => ["_law_reports"] | _ => []
abbrev W0 : DW := fun _ _ _ => False
def t__law_make___law_make_here (W : DW) : DS := dRet (dVar 1)
def t_has (W : DW) : DS := dRet (dOp (oEq false) (dUp (dOp oAndI (dUp (dOp oShr (dUp (dVar 0)) (dUp (dVar 1)))) (dUp (dC (.int 1))))) (dUp (dC (.int 1))))
def t_many (W : DW) : DS := dSeq (dSet 1 (dC (.int 0))) (dSeq (dWhile (dB (dOp oGt (dUp (dVar 0)) (dUp (dC (.int 0))))) (dSeq (dSet 0 (dOp oAndI (dUp (dVar 0)) (dUp (dOp oSub (dUp (dVar 0)) (dUp (dC (.int 1))))))) (dSet 1 (dOp oAddL (dUp (dVar 1)) (dUp (dC (.int 1))))))) (dRet (dVar 1)))
def t_under (W : DW) : DS := dSeq (dIf (dB (dOp oIsN (dUp (dVar 1)) (dUp (dC .non)))) (dRet (dC (.bl false))) (dNext)) (dSeq (dIf (dB (dOp oIsN (dUp (dVar 0)) (dUp (dC .non)))) (dRet (dC (.bl true))) (dNext)) (dRet (dOrV (dOp oLt (dUp (dOp oIx (dUp (dVar 0)) (dUp (dC (.int 0))))) (dUp (dOp oIx (dUp (dVar 1)) (dUp (dC (.int 0)))))) (dAndV (dOp (oEq false) (dUp (dOp oIx (dUp (dVar 0)) (dUp (dC (.int 0))))) (dUp (dOp oIx (dUp (dVar 1)) (dUp (dC (.int 0)))))) (dOp oLt (dUp (dOp oIx (dUp (dVar 0)) (dUp (dC (.int 1))))) (dUp (dOp oIx (dUp (dVar 1)) (dUp (dC (.int 1))))))))))
def t_ballot_of (W : DW) : DS := dSeq (dIf (dB (dOp oIsN (dUp (dVar 0)) (dUp (dC .non)))) (dRet (dC .non)) (dNext)) (dRet (dOp oIx (dUp (dVar 0)) (dUp (dC (.int 0)))))
def t_Change_init (W : DW) : DS := dSeq (dFldS [(0, 0)] (dVar 0) (dVar 1)) (dSeq (dFldS [(0, 1)] (dVar 0) (dVar 2)) (dSeq (dFldS [(0, 2)] (dVar 0) (dC .non)) (dSeq (dFldS [(0, 3)] (dVar 0) (dC .non)) (dSeq (dFldS [(0, 4)] (dVar 0) (dC (.int 0))) (dSeq (dFldS [(0, 5)] (dVar 0) (dNew (dC (.dK [])))) (dFldS [(0, 6)] (dVar 0) (dC .non)))))))
def t_Change_begin (W : DW) : DS := dSeq (dSet 3 (dC (.int 0))) (dSeq (dIf (dB (dOp oNotN (dUp (dFld [(0, 2)] (dVar 0))) (dUp (dC .non)))) (dSet 3 (dOp oIx (dUp (dFld [(0, 2)] (dVar 0))) (dUp (dC (.int 0))))) (dNext)) (dSeq (dFldS [(0, 2)] (dVar 0) (dTup (aCons (dOp oAddL (dUp (dVar 3)) (dUp (dVar 1))) (aCons (dFld [(0, 0)] (dVar 0)) (aNil))))) (dFldS [(0, 5)] (dVar 0) (dNew (dDisp1 (dFld [(0, 0)] (dVar 0)) (dTup (aCons (dVar 2) (aCons (dFld [(0, 3)] (dVar 0)) (aNil)))))))))
def t_Change_message (W : DW) : DS := dRet (dTup (aCons (dFld [(0, 0)] (dVar 0)) (aCons (dFld [(0, 2)] (dVar 0)) (aCons (dFld [(0, 3)] (dVar 0)) (aCons (dFld [(0, 4)] (dVar 0)) (aCons (dVar 1) (aNil)))))))
def t_Change_settled (W : DW) : DS := dRet (dFld [(0, 6)] (dVar 0))
def t__law_cell_at (W : DW) : DS := dSeq (dIf (dB (dOp oLt (dUp (dVar 1)) (dUp (dBi oLen (pCons (dUp (dVar 0)) (pNil)))))) (dRet (dOp oIx (dUp (dVar 0)) (dUp (dVar 1)))) (dNext)) (dRet (dC (.int 0)))
def l1__law_stream (W : DW) : DS := dSeq (dSet 3 (dOp oMod (dUp (dOp oAddL (dUp (dOp oAddL (dUp (dOp oMulA (dUp (dVar 3)) (dUp (dVar 3)))) (dUp (dOp oMulA (dUp (dC (.int 48271))) (dUp (dVar 3)))))) (dUp (dVar 4)))) (dUp (dC (.int 2147483647))))) (dMuO "list" mApp 2 (aCons (dVar 3) (aNil)))
def t__law_stream (W : DW) : DS := dSeq (dSetO 2 (dLst (aNil))) (dSeq (dSet 3 (dOp oAddL (dUp (dOp oMod (dUp (dVar 0)) (dUp (dC (.int 2147483647))))) (dUp (dC (.int 48271))))) (dSeq (dFor (wRg1 (aCons (dOp oAddL (dUp (dVar 1)) (dUp (dC (.int 1)))) (aNil))) (tgN 4) (l1__law_stream W)) (dRet (dSl oSlA (dPk 2) (ptE (dC (.int 1))) (ptNo)))))
def t__law_under (W : DW) : DS := dSeq (dIf (dOr (dB (dOp oIsN (dUp (dVar 0)) (dUp (dC .non)))) (dB (dOp oIsN (dUp (dVar 1)) (dUp (dC .non))))) (dRet (dAndV (dOp oIsN (dUp (dVar 0)) (dUp (dC .non))) (dOp oNotN (dUp (dVar 1)) (dUp (dC .non))))) (dNext)) (dRet (dOrV (dOp oLt (dUp (dOp oIx (dUp (dVar 0)) (dUp (dC (.int 0))))) (dUp (dOp oIx (dUp (dVar 1)) (dUp (dC (.int 0)))))) (dAndV (dOp (oEq false) (dUp (dOp oIx (dUp (dVar 0)) (dUp (dC (.int 0))))) (dUp (dOp oIx (dUp (dVar 1)) (dUp (dC (.int 0)))))) (dOp oLt (dUp (dOp oIx (dUp (dVar 0)) (dUp (dC (.int 1))))) (dUp (dOp oIx (dUp (dVar 1)) (dUp (dC (.int 1)))))))))
def t__law_ballot (W : DW) : DS := dSeq (dIf (dB (dOp oIsN (dUp (dVar 0)) (dUp (dC .non)))) (dRet (dC .non)) (dNext)) (dRet (dOp oIx (dUp (dVar 0)) (dUp (dC (.int 0)))))
def t__law_many (W : DW) : DS := dRet (dBi oLen (pCons (dUp (dLc (wRg1 (aCons (dC (.int 63)) (aNil))) (tgN 1) (dB (dOp (oEq false) (dUp (dOp oAndI (dUp (dOp oShr (dUp (dVar 0)) (dUp (dVar 1)))) (dUp (dC (.int 1))))) (dUp (dC (.int 1))))) (dVar 1) [1])) (pNil)))
def t_hands_of (W : DW) : DS := dRetL (dLc (wRg1 (aCons (dC (.int 63)) (aNil))) (tgN 1) (dB (dCall sp_has W0 [] (aCons (dVar 0) (aCons (dVar 1) (aNil))))) (dVar 1) [1])
def t_more_than_half (W : DW) : DS := dRet (dOp oGt (dUp (dOp oMulA (dUp (dC (.int 2))) (dUp (dCall sp_many W [] (aCons (dOp oAndI (dUp (dVar 0)) (dUp (dVar 1))) (aNil)))))) (dUp (dCall sp_many W [] (aCons (dVar 1) (aNil)))))
def t_Change_unplanned (W : DW) : DS := dSeq (dIf (dOr (dB (dOp oIsN (dUp (dFld [(0, 2)] (dVar 0))) (dUp (dC .non)))) (dB (dOp (oEq true) (dUp (dOp oIx (dUp (dFld [(0, 2)] (dVar 0))) (dUp (dC (.int 1))))) (dUp (dFld [(0, 0)] (dVar 0)))))) (dRet (dC (.bl false))) (dNext)) (dRet (dOp (oEq true) (dUp (dCall sp_ballot_of W [] (aCons (dFld [(0, 3)] (dVar 0)) (aNil)))) (dUp (dFld [(0, 2)] (dVar 0)))))
def l1__law_hands (W : DW) : DS := dIf (dB (dOp (oIn true) (dUp (dOp oMod (dUp (dVar 2)) (dUp (dC (.int 63))))) (dPk 1))) (dMuO "list" mApp 1 (aCons (dOp oMod (dUp (dVar 2)) (dUp (dC (.int 63)))) (aNil))) (dNext)
def t__law_hands (W : DW) : DS := dSeq (dIf (dB (dOp (oEq false) (dUp (dOp oMod (dUp (dVar 0)) (dUp (dC (.int 3))))) (dUp (dC (.int 0))))) (dRet (dListR1 (dOp oAddL (dUp (dC (.int 1))) (dUp (dOp oMod (dUp (dOp oDiv (dUp (dVar 0)) (dUp (dC (.int 3))))) (dUp (dC (.int 5)))))))) (dNext)) (dSeq (dSetO 1 (dLst (aNil))) (dSeq (dFor (wSeq (dCall sp__law_stream W [] (aCons (dVar 0) (aCons (dOp oAddL (dUp (dC (.int 1))) (dUp (dOp oMod (dUp (dOp oDiv (dUp (dVar 0)) (dUp (dC (.int 3))))) (dUp (dC (.int 5)))))) (aNil))))) (tgN 2) (l1__law_hands W)) (dRet (dBi oSorted (pCons (dPk 1) (pNil))))))
def t__law_due (W : DW) : DS := dSeq (dAsg (dVar 2) (tgNs [4, 5, 6, 7])) (dSeq (dIf (dB (dCall sp__law_under W [] (aCons (dVar 4) (aCons (dOp oIx (dUp (dVar 3)) (dUp (dC (.int 0)))) (aNil))))) (dSet 4 (dOp oIx (dUp (dVar 3)) (dUp (dC (.int 0))))) (dNext)) (dSeq (dIf (dAnd (dB (dOp oNotN (dUp (dOp oIx (dUp (dVar 3)) (dUp (dC (.int 1))))) (dUp (dC .non)))) (dAnd (dB (dOp (oEq false) (dUp (dOp oIx (dUp (dOp oIx (dUp (dVar 3)) (dUp (dC (.int 1))))) (dUp (dC (.int 0))))) (dUp (dVar 4)))) (dB (dCall sp__law_under W [] (aCons (dCall sp__law_ballot W [] (aCons (dVar 5) (aNil))) (aCons (dVar 4) (aNil))))))) (dSeq (dSet 5 (dOp oIx (dUp (dVar 3)) (dUp (dC (.int 1))))) (dSet 6 (dOp oOrI (dUp (dOp oIx (dUp (dVar 3)) (dUp (dC (.int 2))))) (dUp (dOp oShl (dUp (dC (.int 1))) (dUp (dVar 0))))))) (dIf (dAnd (dB (dOp oNotN (dUp (dOp oIx (dUp (dVar 3)) (dUp (dC (.int 1))))) (dUp (dC .non)))) (dB (dOp (oEq false) (dUp (dOp oIx (dUp (dOp oIx (dUp (dVar 3)) (dUp (dC (.int 1))))) (dUp (dC (.int 0))))) (dUp (dCall sp__law_ballot W [] (aCons (dVar 5) (aNil))))))) (dSet 6 (dOp oOrI (dUp (dVar 6)) (dUp (dOp oIx (dUp (dVar 3)) (dUp (dC (.int 2))))))) (dNext))) (dSeq (dIf (dAnd (dB (dOp oIsN (dUp (dVar 7)) (dUp (dC .non)))) (dAnd (dB (dOp oNotN (dUp (dVar 5)) (dUp (dC .non)))) (dB (dOp oGt (dUp (dOp oMulA (dUp (dC (.int 2))) (dUp (dCall sp__law_many W [] (aCons (dVar 6) (aNil)))))) (dUp (dVar 1)))))) (dSet 7 (dOp oIx (dUp (dVar 5)) (dUp (dC (.int 1))))) (dNext)) (dRet (dTup (aCons (dVar 4) (aCons (dVar 5) (aCons (dVar 6) (aCons (dVar 7) (aNil))))))))))
def t__law_seen (W : DW) : DS := dRet (dTup (aCons (dFld [(0, 2)] (dVar 0)) (aCons (dFld [(0, 3)] (dVar 0)) (aCons (dFld [(0, 4)] (dVar 0)) (aCons (dMe 0 sp_Change_settled W [] (dVar 0) aNil) (aNil))))))
def t_Change_settle (W : DW) : DS := dIf (dAnd (dB (dOp oIsN (dUp (dFld [(0, 6)] (dVar 0))) (dUp (dC .non)))) (dAnd (dB (dOp oNotN (dUp (dFld [(0, 3)] (dVar 0))) (dUp (dC .non)))) (dB (dCall sp_more_than_half W [] (aCons (dFld [(0, 4)] (dVar 0)) (aCons (dFld [(0, 1)] (dVar 0)) (aNil))))))) (dFldS [(0, 6)] (dVar 0) (dOp oIx (dUp (dFld [(0, 3)] (dVar 0))) (dUp (dC (.int 1))))) (dNext)
def l1_Change_enough (W : DW) : DS := dIf (dB (dOp (oIn false) (dUp (dVar 3)) (dUp (dFld [(0, 5)] (dVar 0))))) (dSet 2 (dOp oOrI (dUp (dVar 2)) (dUp (dOp oShl (dUp (dC (.int 1))) (dUp (dVar 3)))))) (dIf (dNot (dB (dCall sp_has W [] (aCons (dVar 1) (aCons (dVar 3) (aNil)))))) (dRet (dC (.bl false))) (dNext))
def t_Change_enough (W : DW) : DS := dSeq (dSet 2 (dC (.int 0))) (dSeq (dFor (wSeq (dCallO sp_hands_of W [] (aCons (dFld [(0, 1)] (dVar 0)) (aNil)))) (tgN 3) (l1_Change_enough W)) (dRet (dCall sp_more_than_half W [] (aCons (dVar 2) (aCons (dFld [(0, 1)] (dVar 0)) (aNil))))))
def t_Change_receive_yes (W : DW) : DS := dSeq (dIf (dB (dOp oIsN (dUp (dVar 1)) (dUp (dC .non)))) (dRetN) (dNext)) (dSeq (dIf (dAnd (dB (dOp (oEq false) (dUp (dOp oIx (dUp (dVar 1)) (dUp (dC (.int 0))))) (dUp (dFld [(0, 2)] (dVar 0))))) (dB (dCall sp_under W [] (aCons (dCall sp_ballot_of W [] (aCons (dFld [(0, 3)] (dVar 0)) (aNil))) (aCons (dOp oIx (dUp (dVar 1)) (dUp (dC (.int 0)))) (aNil)))))) (dSeq (dFldS [(0, 3)] (dVar 0) (dVar 1)) (dFldS [(0, 4)] (dVar 0) (dOp oOrI (dUp (dVar 2)) (dUp (dOp oShl (dUp (dC (.int 1))) (dUp (dFld [(0, 0)] (dVar 0)))))))) (dIf (dB (dOp (oEq false) (dUp (dOp oIx (dUp (dVar 1)) (dUp (dC (.int 0))))) (dUp (dCall sp_ballot_of W [] (aCons (dFld [(0, 3)] (dVar 0)) (aNil)))))) (dFldS [(0, 4)] (dVar 0) (dOp oOrI (dUp (dFld [(0, 4)] (dVar 0))) (dUp (dVar 2)))) (dNext))) (dDrop (dMe 0 sp_Change_settle W [] (dVar 0) aNil)))
def l1_Change_propose (W : DW) : DS := dSeq (dSet 6 (dOp oIx (dUp (dOp oIx (dUp (dFld [(0, 5)] (dVar 0))) (dUp (dVar 5)))) (dUp (dC (.int 1))))) (dIf (dB (dCall sp_under W [] (aCons (dVar 3) (aCons (dCall sp_ballot_of W [] (aCons (dVar 6) (aNil))) (aNil))))) (dAsg (dVar 6) (tgNs [3, 4])) (dNext))
def t_Change_propose (W : DW) : DS := dSeq (dIf (dOr (dNot (dB (dMe 0 sp_Change_unplanned W [] (dVar 0) aNil))) (dNot (dB (dMe 0 sp_Change_enough W [] (dVar 0) (aCons (dVar 1) (aNil)))))) (dRet (dC (.bl false))) (dNext)) (dSeq (dSet 3 (dC .non)) (dSeq (dSet 4 (dC .non)) (dSeq (dFor (wSeq (dBi oSorted (pCons (dUp (dFld [(0, 5)] (dVar 0))) (pNil)))) (tgN 5) (l1_Change_propose W)) (dSeq (dIf (dB (dOp oIsN (dUp (dVar 3)) (dUp (dC .non)))) (dSet 4 (dCallV nsp 2 (aCons (dLc (wSeq (dBi oSorted (pCons (dUp (dFld [(0, 5)] (dVar 0))) (pNil)))) (tgN 5) (dYes) (dOp oIx (dUp (dOp oIx (dUp (dFld [(0, 5)] (dVar 0))) (dUp (dVar 5)))) (dUp (dC (.int 0)))) [5]) (aNil)))) (dNext)) (dSeq (dFldS [(0, 3)] (dVar 0) (dTup (aCons (dFld [(0, 2)] (dVar 0)) (aCons (dVar 4) (aNil))))) (dSeq (dFldS [(0, 4)] (dVar 0) (dOp oShl (dUp (dC (.int 1))) (dUp (dFld [(0, 0)] (dVar 0))))) (dSeq (dDrop (dMe 0 sp_Change_settle W [] (dVar 0) aNil)) (dRet (dC (.bl true))))))))))
def t_Change_receive (W : DW) : DS := dSeq (dAsg (dVar 1) (tgNs [2, 3, 4, 5, 6])) (dSeq (dIf (dB (dCall sp_under W [] (aCons (dFld [(0, 2)] (dVar 0)) (aCons (dVar 3) (aNil))))) (dSeq (dFldS [(0, 2)] (dVar 0) (dVar 3)) (dFldS [(0, 5)] (dVar 0) (dNew (dC (.dK []))))) (dNext)) (dSeq (dDrop (dMe 0 sp_Change_receive_yes W [] (dVar 0) (aCons (dVar 4) (aCons (dVar 5) (aNil))))) (dIf (dAnd (dB (dOp oNotN (dUp (dVar 3)) (dUp (dC .non)))) (dAnd (dB (dOp (oEq false) (dUp (dVar 3)) (dUp (dFld [(0, 2)] (dVar 0))))) (dB (dMe 0 sp_Change_unplanned W [] (dVar 0) aNil)))) (dStE (dFld [(0, 5)] (dVar 0)) (dVar 2) (dTup (aCons (dVar 6) (aCons (dVar 4) (aNil))))) (dNext))))
def l1__law_propose (W : DW) : DS := dIf (dB (dOp (oEq false) (dUp (dOp oMod (dUp (dOp oDiv (dUp (dOp oIx (dUp (dVar 2)) (dUp (dC (.int 2))))) (dUp (dOp oAddL (dUp (dC (.int 1))) (dUp (dOp oMulA (dUp (dC (.int 7))) (dUp (dVar 5)))))))) (dUp (dC (.int 3))))) (dUp (dC (.int 0))))) (dSet 4 (dOp oOrI (dUp (dVar 4)) (dUp (dOp oShl (dUp (dC (.int 1))) (dUp (dOp oIx (dUp (dBi oSorted (pCons (dUp (dVar 0)) (pNil)))) (dUp (dVar 5)))))))) (dNext)
def t__law_propose (W : DW) : DS := dSeq (dSet 4 (dC (.int 0))) (dSeq (dFor (wRg1 (aCons (dBi oLen (pCons (dUp (dVar 0)) (pNil))) (aNil))) (tgN 5) (l1__law_propose W)) (dSeq (dSet 6 (dOp oIx (dUp (dLst (aCons (dVar 3) (aCons (dC (.str "")) (aCons (dTup (aNil)) (aCons (dTup (aCons (dVar 1) (aCons (dVar 3) (aNil)))) (aCons (dBi oStr (pCons (dUp (dVar 1)) (pNil))) (aNil)))))))) (dUp (dOp oMod (dUp (dOp oIx (dUp (dVar 2)) (dUp (dC (.int 4))))) (dUp (dC (.int 5))))))) (dDrop (dMeM 0 sp_Change_propose 0 [0] (dOp oIx (dUp (dVar 0)) (dUp (dVar 1))) (aCons (dVar 4) (aNil)) (aLen 1 (aCons (dVar 6) (aNil)))))))
def t__law_receive (W : DW) : DS := dSeq (dAsg (dVar 2) (tgNs [3, 4, 5])) (dSeq (dIf (dB (dOp (oEq false) (dUp (dVar 3)) (dUp (dVar 1)))) (dRet (dC (.bl true))) (dNext)) (dSeq (dSet 6 (dCall sp__law_due W [] (aCons (dVar 1) (aCons (dBi oLen (pCons (dUp (dVar 0)) (pNil))) (aCons (dCall sp__law_seen W [] (aCons (dOp oIx (dUp (dVar 0)) (dUp (dVar 1))) (aNil))) (aCons (dVar 5) (aNil))))))) (dSeq (dDrop (dMe 0 sp_Change_receive W [] (dOp oIx (dUp (dVar 0)) (dUp (dVar 1))) (aCons (dVar 4) (aNil)))) (dSeq (dSet 7 (dCall sp__law_seen W [] (aCons (dOp oIx (dUp (dVar 0)) (dUp (dVar 1))) (aNil)))) (dSeq (dIf (dOr (dB (dIsi "bool" (dUp (dOp oIx (dUp (dVar 7)) (dUp (dC (.int 2))))))) (dNot (dB (dIsi "int" (dUp (dOp oIx (dUp (dVar 7)) (dUp (dC (.int 2))))))))) (dRet (dC (.bl false))) (dNext)) (dRet (dOp (oEq false) (dUp (dVar 7)) (dUp (dVar 6)))))))))
def l1_law (W : DW) : DS := dStE (dVar 4) (dVar 3) (dMk 0 sp_Change_init W [] (aCons (dVar 3) (aCons (dVar 2) (aNil))))
def l3_law (W : DW) : DS := dIf (dNot (dB (dCall sp__law_receive W [] (aCons (dVar 4) (aCons (dVar 10) (aCons (dVar 9) (aNil))))))) (dRet (dC (.bl false))) (dNext)
def l2_law (W : DW) : DS := dSeq (dSet 7 (dCall sp__law_stream W [] (aCons (dVar 6) (aCons (dC (.int 6)) (aNil))))) (dSeq (dSet 3 (dOp oIx (dUp (dVar 1)) (dUp (dOp oMod (dUp (dOp oIx (dUp (dVar 7)) (dUp (dC (.int 0))))) (dUp (dBi oLen (pCons (dUp (dVar 1)) (pNil)))))))) (dSeq (dSet 8 (dOp oMod (dUp (dOp oIx (dUp (dVar 7)) (dUp (dC (.int 1))))) (dUp (dC (.int 10))))) (dIf (dB (dOp (oEq false) (dUp (dVar 8)) (dUp (dC (.int 0))))) (dDrop (dMe 0 sp_Change_begin W [] (dOp oIx (dUp (dVar 4)) (dUp (dVar 3))) (aCons (dOp oAddL (dUp (dC (.int 1))) (dUp (dOp oMod (dUp (dOp oIx (dUp (dVar 7)) (dUp (dC (.int 2))))) (dUp (dOp oIx (dUp (dLst (aCons (dC (.int 1)) (aCons (dC (.int 3)) (aCons (dOp oPow (dUp (dC (.int 10))) (dUp (dC (.int 6)))) (aNil)))))) (dUp (dOp oMod (dUp (dOp oIx (dUp (dVar 7)) (dUp (dC (.int 3))))) (dUp (dC (.int 3)))))))))) (aCons (dVar 6) (aNil))))) (dIf (dB (dOp oLt (dUp (dVar 8)) (dUp (dC (.int 3))))) (dDrop (dCall sp__law_propose W [] (aCons (dVar 4) (aCons (dVar 3) (aCons (dVar 7) (aCons (dVar 6) (aNil))))))) (dIf (dOr (dB (dOp oLt (dUp (dVar 8)) (dUp (dC (.int 5))))) (dB (dOp (oEq false) (dPk 5) (dUp (dLst (aNil)))))) (dMuO "list" mApp 5 (aCons (dTup (aCons (dVar 3) (aCons (dMe 0 sp_Change_message W [] (dOp oIx (dUp (dVar 4)) (dUp (dVar 3))) (aCons (dVar 6) (aNil))) (aCons (dCall sp__law_seen W [] (aCons (dOp oIx (dUp (dVar 4)) (dUp (dVar 3))) (aNil))) (aNil))))) (aNil))) (dIf (dB (dOp oLt (dUp (dVar 8)) (dUp (dC (.int 8))))) (dIf (dNot (dB (dCall sp__law_receive W [] (aCons (dVar 4) (aCons (dVar 3) (aCons (dOp oIx (dPk 5) (dUp (dOp oSub (dUp (dUn (fun i => -i) (dC (.int 1)))) (dUp (dOp oMod (dUp (dOp oIx (dUp (dVar 7)) (dUp (dC (.int 2))))) (dUp (dBi oLen (pCons (dPk 5) (pNil))))))))) (aNil))))))) (dRet (dC (.bl false))) (dNext)) (dSeq (dSet 9 (dTup (aCons (dVar 3) (aCons (dMe 0 sp_Change_message W [] (dOp oIx (dUp (dVar 4)) (dUp (dVar 3))) (aCons (dVar 6) (aNil))) (aCons (dCall sp__law_seen W [] (aCons (dOp oIx (dUp (dVar 4)) (dUp (dVar 3))) (aNil))) (aNil)))))) (dFor (wSeq (dVar 1)) (tgN 10) (l3_law W)))))))))
def t_law (W : DW) : DS := dSeq (dSet 1 (dCall sp__law_hands W [] (aCons (dCall sp__law_cell_at W [] (aCons (dVar 0) (aCons (dC (.int 0)) (aNil)))) (aNil)))) (dSeq (dSet 2 (dBi oSum (pCons (dUp (dLc (wSeq (dVar 1)) (tgN 3) (dYes) (dOp oShl (dUp (dC (.int 1))) (dUp (dVar 3))) [3])) (pNil)))) (dSeq (dSet 4 (dNew (dC (.dK [])))) (dSeq (dFor (wSeq (dVar 1)) (tgN 3) (l1_law W)) (dSeq (dSetO 5 (dLst (aNil))) (dSeq (dFor (wSeq (dSl oSlA (dUp (dVar 0)) (ptE (dC (.int 1))) (ptE (dC (.int 51))))) (tgN 6) (l2_law W)) (dRet (dC (.bl true))))))))
end Law
namespace Law
open PySem L2 G
theorem eqD_nt (a b : Nt) : eqD (ntD a) (ntD b) = decide (a = b) := by
  obtain ⟨a1, a2, a3⟩ := a
  obtain ⟨b1, b2, b3⟩ := b
  unfold ntD
  rw [eqD_tup]
  simp only [eqDs_cc, eqDs_nil, eqD_int, Prod.mk.injEq, Bool.and_true, Bool.decide_and]
theorem cnt_put (l : List (Int × Int)) (a i c : Int) : cntI (putI l a i) c = if a = c then i else cntI l c := by
  unfold cntI
  rw [lookI_put]
  split <;> rfl
theorem Pos.put {l : List (Int × Int)} (h : Pos l) {c i : Int} (hi : 1 ≤ i) : Pos (putI l c i) := by
  intro p hp
  unfold putI at hp
  split at hp
  · obtain ⟨q, hq, rfl⟩ := (List.mem_map).1 hp
    split
    · exact hi
    · exact h q hq
  · rcases (List.mem_append).1 hp with hp | hp
    · exact h p hp
    · rw [List.mem_singleton.mp hp]; exact hi
theorem cnt_nn {l : List (Int × Int)} (h : Pos l) (c : Int) : 0 ≤ cntI l c := by
  unfold cntI
  cases e : lookI l c with
  | none => exact Int.le_refl _
  | some i => have := h _ (lookI_mem e); simp only [Option.getD_some]; omega
theorem look_cnt {l m : List (Int × Int)} (h : Pos l) (h' : Pos m) (e : ∀ c, cntI l c = cntI m c) (c : Int) : lookI l c = lookI m c := by
  have e := e c
  unfold cntI at e
  cases a : lookI l c with
  | none =>
    cases b : lookI m c with
    | none => rfl
    | some j => rw [a, b] at e; have := h' _ (lookI_mem b); simp at e; omega
  | some i =>
    cases b : lookI m c with
    | none => rw [a, b] at e; have := h _ (lookI_mem a); simp at e; omega
    | some j => rw [a, b] at e; simp at e; rw [e]
theorem app_get {s : Store} {x e : D} {m : Nat} (h : s[m]? = some e) : (s ++ [x])[m]? = some e := by
  rw [List.getElem?_append_left (List.getElem?_eq_some_iff.mp h).1]; exact h
theorem set_get {s : Store} {x e : D} {m t : Nat} (ne : m ≠ t) (h : s[m]? = some e) : (s.set t x)[m]? = some e := by
  rw [List.getElem?_set_ne (Ne.symm ne)]; exact h
theorem set_back {s : Store} {n : Nat} {d : D} (h : s[n]? = some d) : s.set n d = s := by
  obtain ⟨hb, e⟩ := List.getElem?_eq_some_iff.mp h
  rw [← e]; exact List.set_getElem_self hb
theorem Cnt.u {s : Store} {d : D} {l : List (Int × Int)} (h : Cnt s d l) : CntU s d l := by
  unfold CntU
  rcases h with rfl | ⟨n, rfl, hn⟩
  · rfl
  · rw [deref_get hn, unlk_dK]
theorem CntU.lk {s : Store} {d : D} {l m : List (Int × Int)} {n : Nat} (h : CntU s d l) (hn : s[n]? = some (.dK (dI m))) : CntU (s.set n (.lk (.dK (dI m)))) d l := by
  unfold CntU at *
  cases d with
  | ref k =>
    rw [deref_ref] at h ⊢
    by_cases e : k = n
    · subst e
      rw [hn] at h
      rw [List.getElem?_set_self (List.getElem?_eq_some_iff.mp hn).1]
      exact h
    · rw [List.getElem?_set_ne (Ne.symm e)]
      exact h
  | _ => exact h
theorem same_len {l m : List (Int × Int)} (h : KN l) (h' : KN m) (e : ∀ x, lookI l x = lookI m x) : l.length = m.length :=
  Nat.le_antisymm (h.sub fun c i z => (e c).symm.trans z) (h'.sub fun c i z => (e c).trans z)
theorem lookI_none {l : List (Int × Int)} {c : Int} (h : c ∉ l.map (·.1)) : lookI l c = none := by
  cases e : lookI l c with
  | none => rfl
  | some i => exact absurd (List.mem_map.mpr ⟨_, lookI_mem e, rfl⟩) h
theorem putI_new {l : List (Int × Int)} {c i : Int} (h : c ∉ l.map (·.1)) : putI l c i = l ++ [(c, i)] := by
  unfold putI
  rw [if_neg]
  rw [List.any_eq_true]
  rintro ⟨p, hp, e⟩
  exact h <| List.mem_map.mpr ⟨p, hp, of_decide_eq_true e⟩
theorem unpk_KN (ps : List (Int × Int)) : KN (unpk ps) := by
  have go : ∀ (ps l : List (Int × Int)), KN l → KN (ps.foldl (fun l p => putI l p.1 p.2) l) := by
    intro ps
    induction ps with
    | nil => intro l h; exact h
    | cons p ps ih => intro l h; exact ih _ (h.put _ _)
  exact go ps [] KN.nil
theorem unpk_len (ps : List (Int × Int)) : (unpk ps).length ≤ ps.length := by
  have go : ∀ (ps l : List (Int × Int)), (ps.foldl (fun l p => putI l p.1 p.2) l).length ≤ l.length + ps.length := by
    intro ps
    induction ps with
    | nil => intro l; exact Nat.le_refl _
    | cons p ps ih =>
      intro l
      have h1 := ih (putI l p.1 p.2)
      have h2 := putI_len l p.1 p.2
      simp only [List.length_cons, List.foldl_cons]
      omega
  have := go ps []
  simpa [unpk] using this
theorem unpk_id {ps : List (Int × Int)} (h : KN ps) : unpk ps = ps := by
  have go : ∀ (ps l : List (Int × Int)), KN (l ++ ps) → ps.foldl (fun l p => putI l p.1 p.2) l = l ++ ps := by
    intro ps
    induction ps with
    | nil => intro l _; simp
    | cons p ps ih =>
      intro l h
      have h' : KN ((l ++ [p]) ++ ps) := by simpa using h
      have n : p.1 ∉ l.map (·.1) := by
        intro z
        unfold KN at h
        rw [List.map_append, List.nodup_append] at h
        exact h.2.2 _ z _ (by simp) rfl
      show ps.foldl _ (putI l p.1 p.2) = _
      rw [putI_new n, ih _ h']
      simp
  have := go ps [] (by simpa using h)
  simpa [unpk] using this
theorem ok_prs (ps : List (Int × Int)) : okE 40 (.lst (ps.map prD)) = true := by
  show okEs 39 (ps.map prD) = true
  exact okEs_map fun x _ => rfl
theorem ok_prt (ps : List (Int × Int)) : okE 40 (.tup (ps.map prD)) = true := by
  show okEs 39 (ps.map prD) = true
  exact okEs_map fun x _ => rfl
theorem nl_snoc (hs : List Nat) (h : Nat) : nl hs ++ [D.int (h : Int)] = nl (hs ++ [h]) := by unfold nl; rw [List.map_append]; rfl
theorem putI_all {P : Int × Int → Prop} {l : List (Int × Int)} (h : ∀ p ∈ l, P p) {c i : Int} (hi : P (c, i)) : ∀ p ∈ putI l c i, P p := by
  intro p hp
  unfold putI at hp
  split at hp
  · obtain ⟨q, hq, rfl⟩ := (List.mem_map).1 hp
    split
    · rename_i e
      rw [e]; exact hi
    · exact h q hq
  · rcases (List.mem_append).1 hp with hp | hp
    · exact h p hp
    · rw [List.mem_singleton.mp hp]; exact hi
theorem oIx_last {x : Sl} {xs : List D} {d : D} {s : Store} {Q : DK} (hx : unlk (deref s x) = .lst (xs ++ [d])) (q : Q d s) : oIx x (.v (.int (-1))) s Q := by
  unfold oIx
  rw [hx]
  show optK (atI (xs ++ [d]) (-1)) Q s
  rw [atI_lit, if_neg (by decide)]
  have e : (-1 + ((xs ++ [d]).length : Int)).toNat = xs.length := by
    simp only [List.length_singleton, List.length_append]
    omega
  rw [if_pos (by rw [List.length_append, List.length_singleton]; omega), e, List.getElem?_append_right (Nat.le_refl _), Nat.sub_self]
  exact q
theorem oIx_at {x : Sl} {xs : List D} {i : Int} {d : D} {s : Store} {Q : DK} (hi : 0 ≤ i) (hx : unlk (deref s x) = .lst xs) (h : xs[i.toNat]? = some d) (q : Q d s) : oIx x (.v (.int i)) s Q := by
  unfold oIx
  rw [hx]
  show optK (atI xs i) Q s
  have hl : i.toNat < xs.length := (List.getElem?_eq_some_iff.mp h).1
  rw [atI_lit, if_pos hi, if_pos (by omega), h]
  exact q
theorem oEqD_same {neg : Bool} {ds : List D} {s : Store} {Q : DK} (h : okE 40 (.lst ds) = true) (q : Q (.bl !neg) s) : oEqD neg (.lst ds) (.lst ds) s Q := by
  rw [oEqD_ll]
  refine ⟨h, h, ?_⟩
  rw [eqD_refl h, Bool.xor_true]
  exact q
theorem nn_cnt {l : List (Int × Int)} (h : ∀ p ∈ l, 0 ≤ p.2) (c : Int) : 0 ≤ cntI l c := by
  unfold cntI
  cases e : lookI l c with
  | none => exact Int.le_refl _
  | some i => exact h _ (lookI_mem e)
theorem Pos.nn {l : List (Int × Int)} (h : Pos l) : Nn l := fun p hp => by have := h p hp; omega
theorem set_end (s : Store) (d e : D) : (s ++ [d]).set s.length e = s ++ [e] := by
  rw [List.set_append_right _ _ (Nat.le_refl _), Nat.sub_self]
  rfl
theorem b_has : ∀ ds s Q W, sp_has ds s Q W → t_has (fun x _ s => W x s) (dEnd Q) (startD N_has.length ds) s := by
  rintro ds s Q W ⟨h, i, rfl, q⟩
  simp only [t_has, N_has]
  walk_at "ev"
  refine ⟨by omega, ?_⟩
  rw [shrN, bandN1]
  have e : (decide (((h >>> i &&& 1 : Nat) : Int) = 1)) = h.testBit i := by
    rw [Nat.testBit, Nat.and_comm 1]
    have : (h >>> i &&& 1) = (h >>> i) % 2 := Nat.and_one_is_mod _
    rw [this]
    rcases Nat.mod_two_eq_zero_or_one (h >>> i) with e | e <;> rw [e] <;> rfl
  rw [e]
  exact q
theorem b_hands_of : ∀ ds s Q W, sp_hands_of ds s Q W → t_hands_of (fun x _ s => W x s) (dEnd Q) (startD N_hands_of.length ds) s := by
  rintro ds s Q W ⟨h, rfl, q⟩
  simp only [t_hands_of, N_hands_of]
  walk_at "ev"
  refine lc_filterMap (s := s) (src := fun _ => True) (fun d => match d with | .int i => if h.testBit i.toNat then some (.int i) else none | _ => none) trivial _ _ (by simp; decide) ?_ ?_
  · intro d hd Ky Kn k
    obtain ⟨i, hi, rfl⟩ := List.mem_map.mp hd
    walk_at "ev"
    refine ⟨h, i, rfl, ?_⟩
    walk_at "ev"
    simp only [Int.toNat_natCast] at k
    by_cases c : h.testBit i = true
    · simp only [c, if_true] at k ⊢; exact k
    · simp only [c, if_false] at k ⊢; exact k
  · have e : (List.map (fun i : Nat => D.int i) (List.range 63)).filterMap (fun d => match d with | .int i => if h.testBit i.toNat then some (.int i) else none | _ => none) = nl (bitsN 63 h) := by
      unfold nl bitsN
      rw [List.filterMap_map]
      show List.filterMap _ (List.range 63) = _
      induction (List.range 63) with
      | nil => rfl
      | cons a l ih =>
        rw [List.filterMap_cons, List.filter_cons]
        simp only [Function.comp, Int.toNat_natCast]
        have ih' := ih
        simp only [Function.comp, Int.toNat_natCast] at ih'
        rcases Bool.eq_false_or_eq_true (h.testBit a) with c | c
        · simp only [c, if_true, List.map_cons]; rw [ih']
        · simp only [c, Bool.false_eq_true, if_false]; rw [ih']
    simp only [List.nil_append]
    rw [e]
    exact q
theorem b__law_cell_at : ∀ ds s Q W, sp__law_cell_at ds s Q W → t__law_cell_at (fun x _ s => W x s) (dEnd Q) (startD N__law_cell_at.length ds) s := by
  rintro ds s Q W ⟨ns, k, rfl, hk, q⟩
  simp only [t__law_cell_at, N__law_cell_at]
  walk_at "ev"
  split
  · rename_i c
    have c : k < ns.length := by simpa using c
    have e : k = (k.toNat : Nat) := by omega
    rw [e]
    exact oIx_ro (by omega) (q _)
  · exact q 0
theorem and_or_sum : ∀ (n a b : Nat), a < 2 ^ n → (a &&& b) + (a ||| b) = a + b
  | 0, a, b, h => by
    have : a = 0 := by simpa using h
    subst this; simp
  | n + 1, a, b, h => by
    have ih := and_or_sum n (a / 2) (b / 2) (by rw [Nat.pow_succ] at h; omega)
    have e1 : (a &&& b) / 2 = a / 2 &&& b / 2 := Nat.and_div_two
    have e2 : (a ||| b) / 2 = a / 2 ||| b / 2 := Nat.or_div_two
    have h1 : (a &&& b) % 2 = a % 2 &&& b % 2 := by have := @Nat.and_mod_two_pow a b 1; simpa using this
    have h2 : (a ||| b) % 2 = a % 2 ||| b % 2 := by have := @Nat.or_mod_two_pow a b 1; simpa using this
    rw [← e1, ← e2] at ih
    have e3 : (a &&& b) % 2 + (a ||| b) % 2 = a % 2 + b % 2 := by
      rw [h1, h2]
      rcases Nat.mod_two_eq_zero_or_one a with x | x <;> rcases Nat.mod_two_eq_zero_or_one b with y | y <;> rw [x, y] <;> rfl
    omega
theorem sum_bits : ∀ {hs : List Nat}, hs.Nodup → ∀ i, ((hs.map fun h => 2 ^ h).sum).testBit i = decide (i ∈ hs)
  | [], _, i => by simp
  | h :: hs, nd, i => by
    rw [List.nodup_cons] at nd
    have ih := sum_bits nd.2
    simp only [List.sum_cons, List.map_cons]
    generalize (hs.map fun h => 2 ^ h).sum = r at ih
    have z : 2 ^ h &&& r = 0 := by
      refine Nat.eq_of_testBit_eq fun j => ?_
      rw [Nat.testBit_and, Nat.testBit_two_pow, Nat.zero_testBit, ih]
      by_cases e : h = j
      · subst e; simp [nd.1]
      · simp [e]
    have s := and_or_sum (h + 1) (2 ^ h) r (Nat.pow_lt_pow_right (by omega) (by omega))
    rw [z, Nat.zero_add] at s
    rw [← s, Nat.testBit_or, Nat.testBit_two_pow, ih]
    by_cases e : h = i
    · subst e; simp
    · have : ¬ i = h := fun q => e q.symm
      simp [e, this]
theorem bits_lt {h : Nat} (b : ∀ i, 63 ≤ i → h.testBit i = false) : h < 2 ^ 63 := Nat.lt_pow_two_of_testBit h b
theorem sum_lt {hs : List Nat} (nd : hs.Nodup) (lt : ∀ h ∈ hs, h < 63) : (hs.map fun h => 2 ^ h).sum < 2 ^ 63 := bits_lt fun i hi => by
  rw [sum_bits nd]
  exact decide_eq_false fun z => by have := lt i z; omega
theorem sum_int (hs : List Nat) : (hs.map fun n : Nat => ((2 ^ n : Nat) : Int)).sum = (((hs.map fun n => 2 ^ n).sum : Nat) : Int) := by
  induction hs with
  | nil => rfl
  | cons a l ih => simp only [List.map_cons, List.sum_cons, ih]; omega
theorem shl_int (a : Nat) : (1 : Int) * 2 ^ (a : Int).toNat = ((2 ^ a : Nat) : Int) := by
  rw [Int.one_mul]
  simp
theorem pc_zero (k : Nat) : pc k 0 = 0 := by induction k with | zero => rfl | succ k ih => simp [pc, ih]
theorem pc_pred : ∀ (k n : Nat), 0 < n → n < 2 ^ k → pc k (n &&& (n - 1)) + 1 = pc k n
  | 0, n, h, h2 => by omega
  | k + 1, n, h, h2 => by
    have e1 : (n &&& (n - 1)) / 2 = n / 2 &&& (n - 1) / 2 := Nat.and_div_two
    have e2 : (n &&& (n - 1)) % 2 = n % 2 &&& (n - 1) % 2 := by
      rw [← Nat.and_one_is_mod, ← Nat.and_one_is_mod, ← Nat.and_one_is_mod]
      refine Nat.eq_of_testBit_eq fun i => ?_
      simp only [Nat.testBit_and]
      cases n.testBit i <;> cases (n - 1).testBit i <;> cases Nat.testBit 1 i <;> rfl
    simp only [pc]
    rw [e1, e2]
    rcases Nat.mod_two_eq_zero_or_one n with o | o
    · have e3 : (n - 1) / 2 = n / 2 - 1 := by omega
      have ih := pc_pred k (n / 2) (by omega) (by rw [Nat.pow_succ] at h2; omega)
      rw [e3, o, Nat.zero_and]
      omega
    · have e3 : (n - 1) / 2 = n / 2 := by omega
      have e4 : (n - 1) % 2 = 0 := by omega
      rw [e3, e4, Nat.and_self, Nat.and_zero, o]
      omega
theorem b_many : ∀ ds s Q W, sp_many ds s Q W → t_many (fun x _ s => W x s) (dEnd Q) (startD N_many.length ds) s := by
  rintro ds s Q W ⟨h, rfl, hn, q⟩
  simp only [t_many, N_many]
  walk_at "ev"
  refine ⟨fun m σ s' => s' = s ∧ ∃ (n f : Nat), n < 2 ^ 63 ∧ σ = [some (Sl.v (D.int n)), some (Sl.v (D.int f))] ∧ m = pcw n ∧ f + pcw n = pcw h, ⟨pcw h, rfl, h, 0, hn, rfl, Eq.refl _, Nat.zero_add _⟩, ?_⟩
  rintro m σ s' ⟨rfl, n, f, h1, rfl, rfl, h2⟩
  walk_at "ev"
  split
  · rename_i c
    have c : 0 < n := by simpa using c
    have e : ((n : Int) - 1) = ((n - 1 : Nat) : Int) := by omega
    have e2 := pc_pred 63 n c h1
    rw [← pcw_eq, ← pcw_eq] at e2
    refine ⟨_, ?_, n &&& (n - 1), f + 1, ?_, ?_, rfl, ?_⟩
    · omega
    · exact Nat.lt_of_le_of_lt Nat.and_le_left h1
    · rw [e, bandN]; rfl
    · omega
  · rename_i c
    have c : n = 0 := by simpa using c
    subst c
    rw [pcw_eq 0, pc_zero] at h2
    rw [← h2] at q
    exact q
theorem b_more_than_half : ∀ ds s Q W, sp_more_than_half ds s Q W → t_more_than_half (fun x _ s => W x s) (dEnd Q) (startD N_more_than_half.length ds) s := by
  rintro ds s Q W ⟨a, b, rfl, ha, hb, q⟩
  simp only [t_more_than_half, N_more_than_half]
  walk_at "ev"
  rw [bandN]
  refine ⟨a &&& b, rfl, Nat.lt_of_le_of_lt Nat.and_le_left ha, ?_⟩
  walk_at "ev"
  refine ⟨cmuL (by decide) (by decide), b, rfl, hb, ?_⟩
  walk_at "ev"
  have e : decide ((pcw b : Int) < 2 * (pcw (a &&& b) : Int)) = halfB a b := by
    unfold halfB
    rw [decide_eq_decide]
    omega
  rw [e]
  exact q
/-- an item of a stream -/
theorem xs_ix {xs : List Int} {n : Nat} (hx : xs.length = n) (hb : ∀ x ∈ xs, 0 ≤ x ∧ x < 2147483647) (k : Nat) (s : Store) (Q : DK) (hk : k < n) (h : ∀ x, 0 ≤ x → x < 2147483647 → Q (.int x) s) : oIx (.v (.lst (xs.map D.int))) (.v (.int k)) s Q := by
  have hk' : k < xs.length := by omega
  refine oIx_lst (d := .int xs[k]) (by simp [hk']) ?_
  obtain ⟨a, b⟩ := hb xs[k] (List.getElem_mem hk')
  exact h _ a b
theorem b__law_stream : ∀ ds s Q W, sp__law_stream ds s Q W → t__law_stream (fun x _ s => W x s) (dEnd Q) (startD N__law_stream.length ds) s := by
  rintro ds s Q W ⟨c, k, rfl, hk0, hk, q⟩
  have big : (1001 : Nat) < lim := by decide
  obtain ⟨k, rfl⟩ : ∃ n : Nat, k = n := ⟨k.toNat, by omega⟩
  simp only [t__law_stream, N__law_stream, l1__law_stream]
  walk_at "ev"
  have er : ((k : Int) + 1).toNat = k + 1 := by omega
  rw [er]
  refine ⟨by omega, by omega, by omega, fun i σ s' => s' = s ∧ i ≤ k + 1 ∧ ∃ (xs : List Int) (x : Int) (y : Option Sl), xs.length = i ∧ (∀ x ∈ xs, 0 ≤ x ∧ x < 2147483647) ∧ 0 ≤ x ∧ x < 2 ^ 40 ∧ σ = [some (.v (.int c)), some (.v (.int k)), some (.o (.lst (xs.map D.int))), some (.v (.int x)), y], ⟨rfl, by omega, [], _, _, rfl, by simp, ?_, ?_, rfl⟩, ?_, ?_⟩
  · omega
  · omega
  · rintro i d σ s' e ⟨rfl, hi, xs, x, y, h1, h2, h3, h4, rfl⟩
    obtain ⟨hi, rfl⟩ := rg_get e
    walk_at "ev"
    have m0 : ∀ z : Int, 0 ≤ z % 2147483647 ∧ z % 2147483647 < 2147483647 := fun z => by omega
    have m1 := m0 (x * x + 48271 * x + i)
    generalize x * x + 48271 * x + i = w at m1
    refine ⟨cmuL (by omega) (by omega), cmuL (by decide) (by decide), by rw [List.length_map]; omega, hi, xs ++ [w % 2147483647], w % 2147483647, some (.v (.int i)), by simp [h1], fun z hz => ?_, by omega, by omega, by simp⟩
    rcases (List.mem_append).1 hz with hz | hz
    · exact h2 z hz
    · have := List.mem_singleton.mp hz
      subst this; exact m1
  · rintro σ s' ⟨rfl, hi, xs, x, y, h1, h2, h3, h4, rfl⟩
    rw [rg_len] at h1
    refine ⟨trivial, ?_⟩
    walk_at "ev"
    simp only [oSlA, deref, cut_map]
    have e1 : (some (1 : Int)) = some ((1 : Nat) : Int) := rfl
    rw [e1, cut_from 1 xs (by omega)]
    exact q (xs.drop 1) (by rw [List.length_drop]; omega) fun x hx => h2 x (List.mem_of_mem_drop hx)
theorem b_under : ∀ ds s Q W, sp_under ds s Q W → t_under (fun x _ s => W x s) (dEnd Q) (startD N_under.length ds) s := by
  rintro ds s Q W ⟨a, b, rfl, q⟩
  simp only [t_under, N_under]
  cases b with
  | none => cases a <;> exact q
  | some b =>
    cases a with
    | none => exact q
    | some a =>
      simp only [balD, blD]
      walk_at "ev"
      have e : underB (some a) (some b) = lessB a b := rfl
      rw [e] at q
      unfold lessB at q
      by_cases h : a.1 < b.1
      · simpa [h] using q
      · by_cases h2 : a.1 = b.1
        · simpa [h, h2] using q
        · simpa [h, h2] using q
theorem b_ballot_of : ∀ ds s Q W, sp_ballot_of ds s Q W → t_ballot_of (fun x _ s => W x s) (dEnd Q) (startD N_ballot_of.length ds) s := by
  rintro ds s Q W ⟨y, rfl, q⟩
  simp only [t_ballot_of, N_ballot_of]
  cases y with
  | none => exact q
  | some y =>
    simp only [yesD]
    walk_at "ev"
    exact q
theorem b_Change_init : ∀ ds s Q W, sp_Change_init ds s Q W → t_Change_init (fun x _ s => W x s) (dEnd Q) (startD N_Change_init.length ds) s := by
  rintro ds s Q W ⟨n, me, hs, rfl, h, q⟩
  have hl := (List.getElem?_eq_some_iff.mp h).1
  simp only [t_Change_init, N_Change_init]
  refine fldS_seq (s1 := s) (s2 := s) (fun P p => p) (fun P p => p) h (Nat.le_refl _) fun s1 h1 _ z1 => ?_
  refine fldS_seq (s1 := s1) (s2 := s1) (fun P p => p) (fun P p => p) h1 (Nat.le_refl _) fun s2 h2 _ z2 => ?_
  refine fldS_seq (s1 := s2) (s2 := s2) (fun P p => p) (fun P p => p) h2 (Nat.le_refl _) fun s3 h3 _ z3 => ?_
  refine fldS_seq (s1 := s3) (s2 := s3) (fun P p => p) (fun P p => p) h3 (Nat.le_refl _) fun s4 h4 _ z4 => ?_
  refine fldS_seq (s1 := s4) (s2 := s4) (fun P p => p) (fun P p => p) h4 (Nat.le_refl _) fun s5 h5 _ z5 => ?_
  refine fldS_seq (s1 := s5 ++ [D.dK []]) (s2 := s5 ++ [D.dK []]) (x := D.ref s5.length) (fun P p => p) (fun P p => p) (app_get h5) (Nat.le_refl _) fun s6 h6 e6 z6 => ?_
  refine fldS_one (s1 := s6) (s2 := s6) (fun P p => p) (fun P p => p) h6 (Nat.le_refl _) fun s7 h7 e7 z7 => ?_
  subst e7
  rw [z6]
  have e5 : s5 = s.set n (.ins 0 (putAt (putAt (putAt (putAt (putAt [] 0 (.int me)) 1 (.int hs)) 2 .non) 3 .non) 4 (.int 0))) := by
    have a := z5 (.ins 0 (putAt (putAt (putAt (putAt (putAt [] 0 (.int me)) 1 (.int hs)) 2 .non) 3 .non) 4 (.int 0)))
    rw [z4, z3, z2, z1] at a
    rw [← a, set_back h5]
  subst e5
  rw [List.length_set, List.set_append_left _ _ (by rw [List.length_set]; exact hl), List.set_set]
  rw [List.set_append_left _ _ hl] at q
  exact q
theorem b_Change_message : ∀ ds s Q W, sp_Change_message ds s Q W → t_Change_message (fun x _ s => W x s) (dEnd Q) (startD N_Change_message.length ds) s := by
  rintro ds s Q W ⟨n, rep, c, r, rfl, ⟨h, _, _⟩, q⟩
  simp only [t_Change_message, N_Change_message]
  unfold ChS.d at h
  walk_at "ev"
  simp only [h]
  walk_at "ev"
  exact ⟨by decide, q⟩
theorem b_Change_settled : ∀ ds s Q W, sp_Change_settled ds s Q W → t_Change_settled (fun x _ s => W x s) (dEnd Q) (startD N_Change_settled.length ds) s := by
  rintro ds s Q W ⟨n, rep, c, rfl, ⟨h, _, _⟩, q⟩
  simp only [t_Change_settled, N_Change_settled]
  unfold ChS.d at h
  walk_at "ev"
  simp only [h]
  walk_at "ev"
  exact q
theorem eqD_bal (a b : Bal) : okE 40 (balD a) = true ∧ okE 40 (balD b) = true ∧ eqD (balD a) (balD b) = decide (a = b) := by
  cases a with
  | none => cases b with
    | none => exact ⟨rfl, rfl, by decide⟩
    | some b => exact ⟨rfl, rfl, rfl⟩
  | some a => cases b with
    | none => exact ⟨rfl, rfl, rfl⟩
    | some b =>
      refine ⟨rfl, rfl, ?_⟩
      obtain ⟨a1, a2⟩ := a
      obtain ⟨b1, b2⟩ := b
      simp only [balD, blD]
      rw [eqD_tup, eqDs_cc, eqDs_cc, eqDs_nil, eqD_int, eqD_int]
      by_cases h1 : a1 = b1 <;> by_cases h2 : a2 = b2 <;> simp [h1, h2]
/-- == of two ballots -/
theorem oEq_bal {neg : Bool} {a b : Bal} {s : Store} {Q : DK} (q : Q (.bl (neg ^^ decide (a = b))) s) : oEqD neg (unlk (deref s (.v (balD a)))) (unlk (deref s (.v (balD b)))) s Q := by
  obtain ⟨h1, h2, h3⟩ := eqD_bal a b
  cases a with
  | none => cases b with
    | none => rw [show unlk (deref s (.v (balD none))) = D.non from rfl, oEqD_nn]; simpa using q
    | some b => exact ⟨h1, h2, by rw [← h3] at q; exact q⟩
  | some a => cases b with
    | none => exact ⟨h1, h2, by rw [← h3] at q; exact q⟩
    | some b => exact ⟨h1, h2, by rw [← h3] at q; exact q⟩
theorem b_Change_unplanned : ∀ ds s Q W, sp_Change_unplanned ds s Q W → t_Change_unplanned (fun x _ s => W x s) (dEnd Q) (startD N_Change_unplanned.length ds) s := by
  rintro ds s Q W ⟨n, rep, ⟨me, hs, bal, yes, votes, reps, agr⟩, rfl, ⟨g, _, _⟩, q⟩
  simp only [t_Change_unplanned, N_Change_unplanned]
  unfold ChS.d at g
  refine seqI fun N h => ?_
  walk_at "ev"
  simp only [g]
  walk_at "ev"
  cases bal with
  | none => exact q
  | some b =>
    simp only [balD, blD]
    walk_at "ev"
    simp only [g]
    walk_at "ev"
    have e0 : ChS.unpl ⟨me, hs, some b, yes, votes, reps, agr⟩ = (decide (b.2 = me) && !decide (yBal yes = some b)) := rfl
    rw [e0] at q
    by_cases e : b.2 = me
    · simp only [e, decide_true, Bool.not_true, Bool.false_eq_true, if_false, Bool.true_and] at q ⊢
      subst h
      walk_at "ev"
      simp only [g]
      walk_at "ev"
      refine ⟨yes, rfl, ?_⟩
      simp only [g]
      walk_at "ev"
      exact oEq_bal (neg := true) (by simpa using q)
    · simp only [e, decide_false, Bool.not_false, Bool.false_and, if_true] at q ⊢
      exact q
theorem b_Change_settle : ∀ ds s Q W, sp_Change_settle ds s Q W → t_Change_settle (fun x _ s => W x s) (dEnd Q) (startD N_Change_settle.length ds) s := by
  rintro ds s Q W ⟨n, rep, ⟨me, hs, bal, yes, votes, reps, agr⟩, rfl, g, hv, hh, q⟩
  simp only [t_Change_settle, N_Change_settle]
  have hl := (List.getElem?_eq_some_iff.mp g).1
  have same : ChS.settle ⟨me, hs, bal, yes, votes, reps, agr⟩ = ⟨me, hs, bal, yes, votes, reps, agr⟩ → Q (.v .non) s := fun e => by
    rw [e, set_back g] at q
    exact q
  unfold ChS.d at g
  walk_at "ev"
  simp only [g]
  walk_at "ev"
  have no : isNonD agr = false → ChS.settle ⟨me, hs, bal, yes, votes, reps, agr⟩ = ⟨me, hs, bal, yes, votes, reps, agr⟩ := fun e => by
    unfold ChS.settle
    cases yes with
    | none => rfl
    | some y => exact if_neg fun z => by rw [e] at z; exact absurd z.1 (by decide)
  cases agr with
  | non =>
    walk_at "ev"
    try simp only [g]
    walk_at "ev"
    cases yes with
    | none => exact same rfl
    | some y =>
      try simp only [yesD, blD]
      walk_at "ev"
      try simp only [g]
      walk_at "ev"
      try simp only [g]
      walk_at "ev"
      refine ⟨votes, hs, rfl, hv, hh, ?_⟩
      walk_at "ev"
      have e : ChS.settle ⟨me, hs, bal, some y, votes, reps, .non⟩ = if halfB votes hs = true then ⟨me, hs, bal, some y, votes, reps, y.2⟩ else ⟨me, hs, bal, some y, votes, reps, .non⟩ := by
        unfold ChS.settle
        by_cases z : halfB votes hs = true
        · simp [z, isNonD]
        · simp [z]
      by_cases z : halfB votes hs = true
      · simp only [z, if_true] at e ⊢
        simp only [g]
        walk_at "ev"
        try simp only [g, yesD, blD]
        walk_at "ev"
        try simp only [g]
        refine ⟨by simp, ?_⟩
        rw [e] at q
        exact q
      · simp only [z, Bool.false_eq_true, if_false] at e ⊢
        exact same e
  | _ => exact same (no rfl)
theorem or_lt {a b : Nat} (ha : a < 2 ^ 63) (hb : b < 2 ^ 63) : a ||| b < 2 ^ 63 := Nat.or_lt_two_pow ha hb
theorem shl_lt {a : Nat} (ha : a < 63) : 1 <<< a < 2 ^ 63 := by
  rw [Nat.shiftLeft_eq, Nat.one_mul]
  exact Nat.pow_lt_pow_right (by omega) ha
theorem b_Change_receive_yes : ∀ ds s Q W, sp_Change_receive_yes ds s Q W → t_Change_receive_yes (fun x _ s => W x s) (dEnd Q) (startD N_Change_receive_yes.length ds) s := by
  rintro ds s Q W ⟨n, rep, ⟨me, hs, bal, yes, votes, reps, agr⟩, y, v, rfl, g, hv, hh, hv2, hm, q⟩
  have hl := (List.getElem?_eq_some_iff.mp g).1
  dsimp only at hv hh hv2 hm
  simp only [t_Change_receive_yes, N_Change_receive_yes]
  refine seqI fun N h => ?_
  cases y with
  | none =>
    walk_at "ev"
    have e : ChS.ryes ⟨me, hs, bal, yes, votes, reps, agr⟩ none v = ⟨me, hs, bal, yes, votes, reps, agr⟩ := rfl
    rw [e, set_back g] at q
    exact q
  | some z =>
    obtain ⟨b, plan⟩ := z
    have g' := g
    unfold ChS.d at g
    have eq0 : ∀ P : DK, P (blD b) s → oIx (.v (yesD (some (b, plan)))) (.v (.int 0)) s P := fun P p => by
      simp only [yesD]
      walk_at "ev"
      exact p
    show N _ s
    subst h
    refine seqI fun N h => ?_
    have fin : ∀ c2 : ChS, c2.votes < 2 ^ 63 → c2.hs < 2 ^ 63 → c2.settle = ChS.ryes ⟨me, hs, bal, yes, votes, reps, agr⟩ (some (b, plan)) v → N [some (.v (.ref n)), some (.v (yesD (some (b, plan)))), some (.v (.int v))] (s.set n (c2.d rep)) := by
      intro c2 g1 g2 g3
      subst h
      have g0 : (s.set n (c2.d rep))[n]? = some (c2.d rep) := List.getElem?_set_self hl
      walk_at "ev"
      rw [g0]
      have g4 : c2.d rep = .ins 0 [.int c2.me, .int c2.hs, balD c2.bal, yesD c2.yes, .int c2.votes, .ref rep, c2.agr] := rfl
      refine ⟨rfl, n, rep, c2, rfl, g0, g1, g2, ?_⟩
      rw [List.set_set, g3]
      exact q
    walk_at "ev"
    refine eq0 _ ?_
    simp only [g]
    walk_at "ev"
    refine oEq_bal (a := some b) (b := bal) (neg := false) ?_
    have e1 : decide (some b = bal) = decide (bal = some b) := by rw [decide_eq_decide]; exact eq_comm
    rw [e1]
    have els : ¬ (bal = some b ∧ underB (yBal yes) (some b) = true) → dIf (dB (dOp (oEq false) (dUp (dOp oIx (dUp (dVar 1)) (dUp (dC (.int 0))))) (dUp (dCall sp_ballot_of (fun x _ s => W x s) [] (aCons (dFld [(0, 3)] (dVar 0)) (aNil)))))) (dFldS [(0, 4)] (dVar 0) (dOp oOrI (dUp (dFld [(0, 4)] (dVar 0))) (dUp (dVar 2)))) dNext { nx := N, rt := Q } [some (.v (.ref n)), some (.v (yesD (some (b, plan)))), some (.v (.int v))] s := by
      intro ne
      walk_at "ev"
      refine eq0 _ ?_
      simp only [g]
      walk_at "ev"
      refine ⟨yes, rfl, ?_⟩
      refine oEq_bal (a := some b) (b := yBal yes) (neg := false) ?_
      walk_at "ev"
      have e2 : decide (some b = yBal yes) = decide (yBal yes = some b) := by rw [decide_eq_decide]; exact eq_comm
      rw [e2]
      have e3 : ChS.ryes ⟨me, hs, bal, yes, votes, reps, agr⟩ (some (b, plan)) v = ChS.settle (if yBal yes = some b then ⟨me, hs, bal, yes, votes ||| v, reps, agr⟩ else ⟨me, hs, bal, yes, votes, reps, agr⟩) := by
        unfold ChS.ryes
        exact congrArg ChS.settle (if_neg ne)
      by_cases z : yBal yes = some b
      · simp only [z, decide_true, if_true] at e3 ⊢
        simp only [g]
        walk_at "ev"
        try simp only [g]
        walk_at "ev"
        rw [borN]
        exact ⟨by decide, fin ⟨me, hs, bal, yes, votes ||| v, reps, agr⟩ (or_lt hv hv2) hh e3.symm⟩
      · simp only [z, decide_false, Bool.false_eq_true, if_false] at e3 ⊢
        have f := fin ⟨me, hs, bal, yes, votes, reps, agr⟩ hv hh e3.symm
        rw [set_back g'] at f
        exact f
    by_cases z1 : bal = some b
    · simp only [z1, decide_true, if_true]
      rw [z1] at g g' els fin
      simp only [g]
      walk_at "ev"
      refine ⟨yes, rfl, ?_⟩
      refine eq0 _ ?_
      refine ⟨yBal yes, some b, rfl, ?_⟩
      walk_at "ev"
      by_cases z2 : underB (yBal yes) (some b) = true
      · simp only [z2, if_true]
        simp only [g]
        walk_at "ev"
        refine ⟨by decide, ?_⟩
        simp only [List.getElem?_set_self hl]
        have ep : ∀ x : D, G.putAt [D.int me, D.int hs, balD (some b), yesD yes, D.int votes, D.ref rep, agr] 3 x = [D.int me, D.int hs, balD (some b), x, D.int votes, D.ref rep, agr] := fun _ => rfl
        simp only [ep]
        walk_at "ev"
        refine ⟨cpow1 (by omega), ?_⟩
        try simp only [List.getElem?_set_self hl]
        walk_at "ev"
        refine ⟨by decide, ?_⟩
        rw [List.set_set, shlN1, borN]
        refine fin ⟨me, hs, some b, some (b, plan), v ||| 1 <<< me, reps, agr⟩ (or_lt hv2 (shl_lt hm)) hh ?_
        unfold ChS.ryes
        exact congrArg ChS.settle (if_pos ⟨rfl, z2⟩).symm
      · simp only [z2, Bool.false_eq_true, if_false]
        exact els fun z => z2 z.2
    · simp only [z1, decide_false, Bool.false_eq_true, if_false]
      exact els fun z => z1 z.1
theorem ryes_reps (c : ChS) (y : Yes) (v : Nat) : (c.ryes y v).reps = c.reps ∧ (c.ryes y v).me = c.me ∧ (c.ryes y v).bal = c.bal ∧ (c.ryes y v).hs = c.hs := by
  have st : ∀ c : ChS, c.settle.reps = c.reps ∧ c.settle.me = c.me ∧ c.settle.bal = c.bal ∧ c.settle.hs = c.hs := fun c => by
    unfold ChS.settle
    split
    · exact ⟨rfl, rfl, rfl, rfl⟩
    · split <;> exact ⟨rfl, rfl, rfl, rfl⟩
  unfold ChS.ryes
  split
  · exact ⟨rfl, rfl, rfl, rfl⟩
  · rename_i z
    have w : ∀ x : ChS, (x.reps = c.reps ∧ x.me = c.me ∧ x.bal = c.bal ∧ x.hs = c.hs) → (x.settle.reps = c.reps ∧ x.settle.me = c.me ∧ x.settle.bal = c.bal ∧ x.settle.hs = c.hs) := fun x hx => by
      obtain ⟨a1, a2, a3, a4⟩ := st x
      rw [a1, a2, a3, a4]
      exact hx
    refine w _ ?_
    split
    · exact ⟨rfl, rfl, rfl, rfl⟩
    · split <;> exact ⟨rfl, rfl, rfl, rfl⟩
theorem ChTo.refl {s : Store} {n rep : Nat} {c : ChS} (h : ChAt s n rep c) : ChTo s s n rep rep c := ⟨h, .inl ⟨rfl, rfl⟩, fun _ _ _ _ => rfl⟩
theorem ChTo.setN {s s1 : Store} {n rep rep1 : Nat} {c c2 : ChS} (h : ChTo s s1 n rep rep1 c) (e : c2.reps = c.reps) : ChTo s (s1.set n (c2.d rep1)) n rep rep1 c2 := by
  obtain ⟨⟨h1, h2, h3⟩, h4, h5⟩ := h
  refine ⟨⟨List.getElem?_set_self (List.getElem?_eq_some_iff.mp h1).1, ?_, h3⟩, by rw [List.length_set]; exact h4, fun m a b c => ?_⟩
  · rw [e]; exact set_get (Ne.symm h3) h2
  · rw [List.getElem?_set_ne (Ne.symm a)]; exact h5 m a b c
theorem ChTo.setR {s s1 : Store} {n rep rep1 : Nat} {c : ChS} (h : ChTo s s1 n rep rep1 c) (m : List (Int × D)) : ChTo s (s1.set rep1 (.dK (dV m))) n rep rep1 { c with reps := m } := by
  obtain ⟨⟨h1, h2, h3⟩, h4, h5⟩ := h
  refine ⟨⟨set_get h3 h1, List.getElem?_set_self (List.getElem?_eq_some_iff.mp h2).1, h3⟩, by rw [List.length_set]; exact h4, fun i a b c => ?_⟩
  have ne : rep1 ≠ i := by
    rcases h4 with ⟨e, _⟩ | ⟨e, _⟩
    · rw [e]; exact Ne.symm b
    · omega
  rw [List.getElem?_set_ne ne]; exact h5 i a b c
/-- new reports: another cell -/
theorem ChTo.new {s : Store} {n rep : Nat} {c c2 : ChS} (h : ChAt s n rep c) : ChTo s ((s ++ [D.dK (dV c2.reps)]).set n (c2.d s.length)) n rep s.length c2 := by
  obtain ⟨h1, h2, h3⟩ := h
  have hl := (List.getElem?_eq_some_iff.mp h1).1
  refine ⟨⟨List.getElem?_set_self (by simp; omega), set_get (by omega) (getc _ _), by omega⟩, .inr ⟨rfl, by simp⟩, fun m a b c => ?_⟩
  rw [List.getElem?_set_ne (Ne.symm a), List.getElem?_append_left c]
theorem b_Change_receive : ∀ ds s Q W, sp_Change_receive ds s Q W → t_Change_receive (fun x _ s => W x s) (dEnd Q) (startD N_Change_receive.length ds) s := by
  rintro ds s Q W ⟨n, rep, c, k, b, y, v, r, rfl, ⟨h1, h2, h3⟩, hv, hh, hv2, hm, hr, q⟩
  have big : (100001 : Nat) < lim := by decide
  have hl := (List.getElem?_eq_some_iff.mp h1).1
  have hl2 := (List.getElem?_eq_some_iff.mp h2).1
  simp only [t_Change_receive, N_Change_receive]
  refine seqI fun N h => ?_
  walk_at "ev"
  walk_at "sq"
  have fin : ∀ (s1 : Store) (rep1 : Nat), ChTo s s1 n rep rep1 (if underB c.bal b = true then { c with bal := b, reps := [] } else c) → N [some (.v (.ref n)), some (.v (.tup [.int k, balD b, yesD y, .int v, r])), some (.v (.int k)), some (.v (balD b)), some (.v (yesD y)), some (.v (.int v)), some (.v r)] s1 := by
    intro s1 rep1 T1
    generalize e1 : (if underB c.bal b = true then { c with bal := b, reps := [] } else c : ChS) = c1 at T1
    have p1 : c1.votes = c.votes ∧ c1.hs = c.hs ∧ c1.me = c.me ∧ c1.reps.length ≤ c.reps.length := by
      rw [← e1]
      split
      · exact ⟨rfl, rfl, rfl, Nat.zero_le _⟩
      · exact ⟨rfl, rfl, rfl, Nat.le_refl _⟩
    obtain ⟨p1, p2, p3, p4⟩ := p1
    obtain ⟨⟨g1, g2, g3⟩, g4, g5⟩ := id T1
    walk_at "sq"
    walk_at "ev"
    have g1' := g1
    unfold ChS.d at g1'
    simp only [g1']
    refine ⟨trivial, n, rep1, c1, y, v, rfl, g1, by omega, by omega, hv2, by omega, ?_⟩
    obtain ⟨r1, r2, r3, r4⟩ := ryes_reps c1 y v
    have T2 := T1.setN (c2 := c1.ryes y v) r1
    have eq1 : c.recv k b y v r = if b ≠ none ∧ b = (c1.ryes y v).bal ∧ (c1.ryes y v).unpl = true then { c1.ryes y v with reps := putV (c1.ryes y v).reps k (.tup [r, yesD y]) } else c1.ryes y v := by
      unfold ChS.recv
      rw [e1]
    rw [eq1] at q
    have p5 : (c1.ryes y v).reps.length ≤ 100000 := by rw [r1]; omega
    generalize s1.set n ((c1.ryes y v).d rep1) = s2 at T2
    generalize c1.ryes y v = c2 at T2 q p5
    clear T1 g1 g2 g3 g4 g5 g1' r1 r2 r3 r4 eq1
    obtain ⟨⟨g1, g2, g3⟩, g4, g5⟩ := id T2
    have g1' := g1
    unfold ChS.d at g1'
    subst h
    walk_at "ev"
    cases b with
    | none => exact q s2 rep1 (by simpa using T2)
    | some b =>
      walk_at "ev"
      simp only [g1']
      walk_at "ev"
      refine oEq_bal (a := some b) (b := c2.bal) (neg := false) ?_
      walk_at "ev"
      by_cases z1 : some b = c2.bal
      · simp only [z1, decide_true, if_true]
        simp only [g1']
        refine ⟨trivial, n, rep1, c2, rfl, ⟨g1, g2, g3⟩, ?_⟩
        walk_at "ev"
        by_cases z2 : c2.unpl = true
        · simp only [z2, if_true]
          refine ⟨by decide, ?_⟩
          simp only [g1']
          walk_at "ev"
          simp only [g2]
          rw [setIt_dV (by omega)]
          refine q _ rep1 ?_
          rw [if_pos ⟨by simp, z1, z2⟩]
          exact T2.setR _
        · simp only [z2, Bool.false_eq_true, if_false]
          refine q s2 rep1 ?_
          rw [if_neg fun z => z2 z.2.2]
          exact T2
      · simp only [z1, decide_false, Bool.false_eq_true, if_false]
        refine q s2 rep1 ?_
        rw [if_neg fun z => z1 z.2.1]
        exact T2
  have h1' := h1
  unfold ChS.d at h1'
  walk_at "ev"
  simp only [h1']
  walk_at "ev"
  refine ⟨c.bal, b, rfl, ?_⟩
  walk_at "ev"
  by_cases z : underB c.bal b = true
  · simp only [z, if_true] at fin ⊢
    simp only [h1']
    refine ⟨Nat.le_of_ble_eq_true rfl, ?_⟩
    rw [app_get (List.getElem?_set_self hl)]
    refine ⟨Nat.le_of_ble_eq_true rfl, ?_⟩
    have T := ChTo.new (c2 := { c with bal := b, reps := [] }) ⟨h1, h2, h3⟩
    rw [List.set_append_left _ _ hl] at T
    rw [List.length_set, List.set_append_left _ _ (by rw [List.length_set]; exact hl), List.set_set]
    exact fin _ _ T
  · simp only [z, Bool.false_eq_true, if_false] at fin ⊢
    exact fin s rep (ChTo.refl ⟨h1, h2, h3⟩)
theorem b_Change_begin : ∀ ds s Q W, sp_Change_begin ds s Q W → t_Change_begin (fun x _ s => W x s) (dEnd Q) (startD N_Change_begin.length ds) s := by
  rintro ds s Q W ⟨n, rep, c, more, r, rfl, ⟨h1, h2, h3⟩, q⟩
  have hl := (List.getElem?_eq_some_iff.mp h1).1
  have hl2 := (List.getElem?_eq_some_iff.mp h2).1
  simp only [t_Change_begin, N_Change_begin]
  refine seqI fun N h => ?_
  walk_at "ev"
  walk_at "sq"
  have h1' := h1
  unfold ChS.d at h1'
  have fin : ∀ z : Int, z = (match c.bal with | none => 0 | some b => b.1) → N [some (.v (.ref n)), some (.v (.int more)), some (.v r), some (.v (.int z))] s := by
    intro z hz
    subst h
    walk_at "ev"
    try simp only [h1']
    walk_at "ev"
    have ep : ∀ x : D, G.putAt [D.int c.me, D.int c.hs, balD c.bal, yesD c.yes, D.int c.votes, D.ref rep, c.agr] 2 x = [D.int c.me, D.int c.hs, x, yesD c.yes, D.int c.votes, D.ref rep, c.agr] := fun _ => rfl
    simp only [ep]
    have g0 : (s.set n (D.ins 0 [D.int c.me, D.int c.hs, .tup [.int (z + more), .int c.me], yesD c.yes, D.int c.votes, D.ref rep, c.agr]))[n]? = some (D.ins 0 [D.int c.me, D.int c.hs, .tup [.int (z + more), .int c.me], yesD c.yes, D.int c.votes, D.ref rep, c.agr]) := List.getElem?_set_self hl
    refine ⟨by decide, Nat.le_of_ble_eq_true rfl, ?_⟩
    simp only [g0]
    walk_at "ev"
    refine ⟨by decide, ?_⟩
    rw [app_get g0]
    refine ⟨Nat.le_of_ble_eq_true rfl, ?_⟩
    have T := ChTo.new (c2 := c.begin more r) ⟨h1, h2, h3⟩
    rw [List.set_append_left _ _ hl] at T
    rw [List.length_set, List.set_append_left _ _ (by rw [List.length_set]; exact hl), List.set_set]
    refine q _ s.length ?_
    have e2 : (c.begin more r).d s.length = D.ins 0 [D.int c.me, D.int c.hs, .tup [.int (z + more), .int c.me], yesD c.yes, D.int c.votes, .ref s.length, c.agr] := by
      unfold ChS.begin ChS.d
      rw [hz]
      rfl
    rw [e2] at T
    exact T
  walk_at "ev"
  simp only [h1']
  walk_at "ev"
  cases e : c.bal with
  | none =>
    rw [e] at fin
    exact fin _ rfl
  | some b =>
    rw [e] at fin h1'
    simp only [balD, blD] at h1' ⊢
    walk_at "ev"
    try simp only [h1']
    walk_at "ev"
    exact fin _ rfl
theorem isIn_dV {neg : Bool} {l : List (Int × D)} {c : Int} {s : Store} {Q : DK} {y : Sl} (hx : deref s y = .dK (dV l)) (q : Q (.bl (neg ^^ (lookV l c).isSome)) s) : oIn neg (.v (.int c)) y s Q := by
  unfold oIn
  rw [hx]
  show Q (.bl (neg ^^ (look (dV l) (.inl c)).isSome)) s
  rw [look_dV]
  exact q
theorem toldN_lt {hs : List Nat} (h : ∀ x ∈ hs, x < 63) (p : Nat → Bool) : toldN hs p < 2 ^ 63 := by
  have go : ∀ (l : List Nat) (t : Nat), (∀ x ∈ l, x < 63) → t < 2 ^ 63 → l.foldl (fun t h => t ||| 1 <<< h) t < 2 ^ 63 := by
    intro l
    induction l with
    | nil => intro t _ ht; exact ht
    | cons a l ih => intro t hl ht; exact ih _ (fun x hx => hl x (List.mem_cons_of_mem _ hx)) (or_lt ht (shl_lt (hl a (by simp))))
  exact go _ 0 (fun x hx => h x (List.mem_filter.mp hx).1) (by decide)
theorem bitsN_lt {k h : Nat} : ∀ x ∈ bitsN k h, x < k := fun x hx => by
  unfold bitsN at hx
  exact List.mem_range.mp (List.mem_filter.mp hx).1
theorem toldN_snoc (l : List Nat) (a : Nat) (p : Nat → Bool) : toldN (l ++ [a]) p = if p a = true then toldN l p ||| 1 <<< a else toldN l p := by
  unfold toldN
  rw [List.filter_append, List.foldl_append]
  by_cases h : p a = true
  · simp [h]
  · simp [h]
theorem b_Change_enough : ∀ ds s Q W, sp_Change_enough ds s Q W → t_Change_enough (fun x _ s => W x s) (dEnd Q) (startD N_Change_enough.length ds) s := by
  rintro ds s Q W ⟨n, rep, c, d, rfl, ⟨h1, h2, h3⟩, hh, q⟩
  have h1' := h1
  unfold ChS.d at h1'
  simp only [t_Change_enough, N_Change_enough, l1_Change_enough]
  refine seqI fun N h => ?_
  walk_at "ev"
  walk_at "sq"
  walk_at "ev"
  simp only [h1']
  walk_at "ev"
  refine ⟨c.hs, rfl, ?_⟩
  walk_at "ev"
  have ll : (bitsN 63 c.hs).length ≤ 63 := by
    have := List.length_filter_le (fun i => c.hs.testBit i) (List.range 63)
    rw [List.length_range] at this
    exact this
  generalize eb : bitsN 63 c.hs = bs at ll
  have lt : ∀ x ∈ bs, x < 63 := eb ▸ bitsN_lt
  refine ⟨fun i σ s' => s' = s ∧ i ≤ bs.length ∧ (∀ x ∈ bs.take i, (c.kept x || d.testBit x) = true) ∧ ∃ y : Option Sl, σ = [some (.v (.ref n)), some (.v (.int d)), some (.v (.int (toldN (bs.take i) c.kept : Nat))), y], ⟨rfl, by omega, by simp, _, rfl⟩, ?_, ?_⟩
  · rintro i dd σ s' e ⟨rfl, hi, hall, y, rfl⟩
    obtain ⟨x, e1, rfl⟩ := map_get e
    have hi' : i < bs.length := (List.getElem?_eq_some_iff.mp e1).1
    have hx : x ∈ bs := List.mem_of_getElem? e1
    have et : bs.take (i + 1) = bs.take i ++ [x] := by
      rw [List.take_succ, e1]
      rfl
    refine ⟨trivial, ?_⟩
    walk_at "ev"
    simp only [h1']
    refine isIn_dV (deref_get h2) ?_
    have ek : (lookV c.reps (x : Int)).isSome = c.kept x := rfl
    rw [ek]
    walk_at "ev"
    by_cases k : c.kept x = true
    · simp only [k, Bool.false_xor, if_true]
      refine ⟨cpow1 (by have := lt x hx; omega), hi', ?_, some (.v (.int x)), ?_⟩
      · rw [et]
        intro z hz
        rcases (List.mem_append).1 hz with hz | hz
        · exact hall z hz
        · rw [List.mem_singleton.mp hz, k]; rfl
      · rw [shlN1, borN, et, toldN_snoc, k, if_pos rfl]
    · have k : c.kept x = false := by simpa using k
      simp only [k, Bool.false_xor, Bool.false_eq_true, if_false]
      refine ⟨d, x, rfl, ?_⟩
      walk_at "ev"
      by_cases z : d.testBit x = true
      · simp only [z, Bool.not_true, Bool.false_eq_true, if_false]
        refine ⟨hi', ?_, some (.v (.int x)), ?_⟩
        · rw [et]
          intro w hw
          rcases (List.mem_append).1 hw with hw | hw
          · exact hall w hw
          · rw [List.mem_singleton.mp hw, z]; simp
        · rw [et, toldN_snoc, k]; rfl
      · have z : d.testBit x = false := by simpa using z
        simp only [z, Bool.not_false, if_true]
        have e0 : c.enough d = false := by
          unfold ChS.enough enoughB
          rw [eb]
          have : (bs.all fun h => c.kept h || d.testBit h) = false := by
            rw [List.all_eq_false]
            exact ⟨x, hx, by rw [k, z]; decide⟩
          rw [this]
          rfl
        rw [e0] at q
        exact q
  · rintro σ s' ⟨rfl, hi, hall, y, rfl⟩
    rw [List.length_map, List.take_length] at *
    refine ⟨trivial, ?_⟩
    subst h
    walk_at "ev"
    simp only [h1']
    refine ⟨toldN bs c.kept, c.hs, rfl, toldN_lt lt _, hh, ?_⟩
    have e0 : c.enough d = halfB (toldN bs c.kept) c.hs := by
      unfold ChS.enough enoughB
      rw [eb]
      have : (bs.all fun h => c.kept h || d.testBit h) = true := by
        rw [List.all_eq_true]
        exact hall
      rw [this]
      rfl
    rw [e0] at q
    exact q
theorem srt_uniq : ∀ {a b : List Int}, a.Perm b → a.Pairwise (· ≤ ·) → b.Pairwise (· ≤ ·) → a = b
  | [], b, p, _, _ => p.nil_eq
  | x :: a, [], p, _, _ => absurd p.length_eq (by simp)
  | x :: a, y :: b, p, h1, h2 => by
    rw [List.pairwise_cons] at h1 h2
    have e : x = y := by
      have i1 : y ∈ x :: a := p.mem_iff.mpr List.mem_cons_self
      have i2 : x ∈ y :: b := p.mem_iff.mp List.mem_cons_self
      rcases List.mem_cons.mp i1 with z | z
      · exact z.symm
      · rcases List.mem_cons.mp i2 with z2 | z2
        · exact z2
        · exact Int.le_antisymm (h1.1 y z) (h2.1 x z2)
    subst e
    rw [srt_uniq (List.perm_cons x |>.mp p) h1.2 h2.2]
theorem srt_rpt {rs so : List Rpt} {ys : List Int} (hp : so.Perm rs) (ho : so.Pairwise fun a b => a.1 < b.1) (h1 : ys.Perm (rs.map (·.1))) (h2 : ys.Pairwise (· ≤ ·)) : ys = so.map (·.1) :=
  srt_uniq (h1.trans (hp.map _).symm) h2 (List.pairwise_map.mpr (ho.imp fun h => Int.le_of_lt h))
theorem keysI_dV (l : List (Int × D)) : keysI (dV l) = some (l.map (·.1)) := by
  induction l with
  | nil => rfl
  | cons p l ih =>
    unfold dV at *
    rw [List.map_cons, keysI, ih]
    rfl
theorem oSorted_rpt {x : Sl} {s : Store} {Q : DK} {rs so : List Rpt} (hx : deref s x = .dK (dV (rs.map rptD))) (hp : so.Perm rs) (ho : so.Pairwise fun a b => a.1 < b.1) (hl : so.length < 64) (q : Q (.lst (so.map fun x : Rpt => D.int x.1)) s) : oSorted [x] s Q := by
  unfold oSorted
  dsimp only
  rw [hx, unlk_dK]
  dsimp only
  rw [keysI_dV]
  refine ⟨by rw [List.length_map, List.length_map, ← hp.length_eq]; exact hl, fun ys h1 h2 => ?_⟩
  rw [List.map_map] at h1
  rw [srt_rpt hp ho h1 h2, List.map_map]
  exact q
theorem oIx_dVs {l : List (Int × D)} {c : Int} {d : D} {s : Store} {Q : DK} {x : Sl} (hx : deref s x = .dK (dV l)) (h : lookV l c = some d) (q : Q d s) : oIx x (.v (.int c)) s Q := by
  unfold oIx
  rw [hx]
  show optK (look (dV l) (.inl c)) Q s
  rw [look_dV, h]
  exact q
theorem lookV_mem {l : List (Int × D)} (nd : (l.map (·.1)).Nodup) {p : Int × D} (h : p ∈ l) : lookV l p.1 = some p.2 := by
  induction l with
  | nil => cases h
  | cons q l ih =>
    simp only [List.nodup_cons, List.map_cons] at nd
    unfold lookV
    rw [List.find?_cons]
    rcases (List.mem_cons).1 h with rfl | h
    · simp
    · have : ¬ q.1 = p.1 := fun z => nd.1 (z ▸ List.mem_map.mpr ⟨p, h, rfl⟩)
      simp only [this, decide_false]
      exact ih nd.2 h
theorem rpt_look {rs so : List Rpt} (hp : so.Perm rs) (ho : so.Pairwise fun a b => a.1 < b.1) {x : Rpt} (h : x ∈ so) : lookV (rs.map rptD) x.1 = some (.tup [x.2.1, yesD x.2.2]) := by
  have nd : (so.map (·.1)).Nodup := List.pairwise_map.mpr (ho.imp fun h => Int.ne_of_lt h)
  have nd2 : ((rs.map rptD).map (·.1)).Nodup := by
    rw [List.map_map]
    exact (hp.map (·.1)).nodup_iff.mp nd
  exact lookV_mem nd2 (List.mem_map.mpr ⟨x, hp.mem_iff.mp h, rfl⟩)
theorem take_app {α : Type} {l : List α} {i : Nat} {x : α} (h : l[i]? = some x) : l.take (i + 1) = l.take i ++ [x] := by
  rw [List.take_succ, h]
  rfl
theorem oIx_tp {xs : List D} {k : Nat} {d : D} {s : Store} {Q : DK} (c : xs[k]? = some d) (q : Q d s) : oIx (.v (.tup xs)) (.v (.int k)) s Q := by
  have e : atI xs (k : Int) = some d := by
    have := (List.getElem?_eq_some_iff.mp c).1
    rw [atI_lit, if_pos (by omega), if_pos (by omega), Int.toNat_natCast, c]
  show optK (atI xs (k : Int)) Q s
  rw [e]
  exact q
theorem b_Change_propose : ∀ j caps ds s Q W, sp_Change_propose j caps ds s Q W → t_Change_propose (fun x _ s => W x s) (dEnd Q) (startDF N_Change_propose.length ds j caps) s := by
  rintro j caps ds s Q W ⟨n, rep, c, d, rs, so, rfl, ⟨h1, h2, h3⟩, hh, hm, er, hp, ho, hl, q0, q1, q2⟩
  have h1' := h1
  unfold ChS.d at h1'
  have hl1 := (List.getElem?_eq_some_iff.mp h1).1
  rw [er] at h2
  have big : (1001 : Nat) < lim := by decide
  simp only [t_Change_propose, N_Change_propose, l1_Change_propose]
  refine seqI fun N h => ?_
  walk_at "ev"
  simp only [h1']
  refine ⟨trivial, n, rep, c, rfl, ⟨h1, by rw [er]; exact h2, h3⟩, ?_⟩
  walk_at "ev"
  have dich : ∀ b : Bool, b = false ∨ b = true := fun b => by cases b <;> simp
  rcases dich c.unpl with u | u
  · simp only [u, Bool.not_false, if_true]
    exact q0 (by rw [u]; rfl)
  simp only [u, Bool.not_true, Bool.false_eq_true, if_false]
  simp only [h1']
  refine ⟨trivial, n, rep, c, d, rfl, ⟨h1, by rw [er]; exact h2, h3⟩, hh, ?_⟩
  rcases dich (c.enough d) with v | v
  · simp only [v, Bool.not_false, if_true]
    exact q0 (by rw [u, v]; rfl)
  simp only [v, Bool.not_true, Bool.false_eq_true, if_false]
  have q1 := q1 (by rw [u, v]; rfl)
  have q2 := q2 (by rw [u, v]; rfl)
  walk_at "sq"
  walk_at "ev"
  walk_at "sq"
  walk_at "ev"
  walk_at "sq"
  walk_at "ev"
  simp only [h1']
  refine oSorted_rpt (deref_get h2) hp ho hl ?_
  refine ⟨fun i σ s' => s' = s ∧ ∃ (y5 y6 : Option Sl), σ = [some (.v (.ref n)), some (.v (.int d)), some (.f (.lent j caps)), some (.v (balD (yBal (bestY (so.take i))))), some (.v (planD (bestY (so.take i)))), y5, y6], ⟨rfl, none, none, rfl⟩, ?_, ?_⟩
  · rintro i dd σ s' e ⟨rfl, y5, y6, rfl⟩
    obtain ⟨x, e1, rfl⟩ := map_get e
    have hx : x ∈ so := List.mem_of_getElem? e1
    have eb : bestY (so.take (i + 1)) = overY (bestY (so.take i)) x := by
      unfold bestY
      rw [take_app e1, List.foldl_append]
      rfl
    generalize bestY (so.take i) = b at eb
    refine ⟨trivial, ?_⟩
    refine seqI fun N h => ?_
    walk_at "ev"
    simp only [h1']
    refine oIx_dVs (deref_get h2) (rpt_look hp ho hx) ?_
    refine oIx_tp (k := 1) rfl ?_
    subst h
    walk_at "ev"
    refine ⟨x.2.2, rfl, ?_⟩
    refine ⟨yBal b, yBal x.2.2, rfl, ?_⟩
    walk_at "ev"
    by_cases z : underB (yBal b) (yBal x.2.2) = true
    · simp only [z, if_true]
      have eb2 : bestY (so.take (i + 1)) = x.2.2 := by
        rw [eb]
        exact if_pos z
      cases ey : x.2.2 with
      | none =>
        rw [ey] at z
        cases hb : yBal b <;> rw [hb] at z <;> cases z
      | some y =>
        simp only [yesD]
        walk_at "ev"
        refine ⟨some (.v (.int x.1)), some (.v (yesD (some y))), ?_⟩
        rw [eb2, ey]
        rfl
    · simp only [z, Bool.false_eq_true, if_false]
      have eb2 : bestY (so.take (i + 1)) = b := by
        rw [eb]
        exact if_neg z
      refine ⟨some (.v (.int x.1)), some (.v (yesD x.2.2)), ?_⟩
      rw [eb2]
  · rintro σ s' ⟨rfl, y5, y6, rfl⟩
    rw [List.length_map]
    rw [List.take_length]
    refine ⟨trivial, ?_⟩
    obtain ⟨bl, hbl⟩ : ∃ bl, c.bal = some bl := by
      cases hb : c.bal with
      | none => unfold ChS.unpl at u; rw [hb] at u; cases u
      | some bl => exact ⟨bl, rfl⟩
    walk_at "sq"
    have fin : ∀ (pl : D) (s1 : Store) (y3 : D) (y5 y6 : Option Sl), ChAt s1 n rep c → (∀ s', ChTo s1 s' n rep rep (c.prop pl) → Q (.v (.bl true)) s') → N [some (.v (.ref n)), some (.v (.int d)), some (.f (.lent j caps)), some (.v y3), some (.v pl), y5, y6] s1 := by
      rintro pl s1 y3 y5 y6 ⟨g1, g2, g3⟩ k
      have gl := (List.getElem?_eq_some_iff.mp g1).1
      have g1' := g1
      unfold ChS.d at g1'
      subst h
      refine seqI fun N h => ?_
      walk_at "ev"
      simp only [g1']
      walk_at "ev"
      refine ⟨Nat.le_of_ble_eq_true rfl, by decide, ?_⟩
      have ep : ∀ x : D, G.putAt [D.int c.me, D.int c.hs, balD c.bal, yesD c.yes, D.int c.votes, D.ref rep, c.agr] 3 x = [D.int c.me, D.int c.hs, balD c.bal, x, D.int c.votes, D.ref rep, c.agr] := fun _ => rfl
      rw [ep]
      have e1 : (D.tup [balD c.bal, pl]) = yesD (c.bal.map fun b => (b, pl)) := by rw [hbl]; rfl
      rw [e1]
      have T1 := (ChTo.refl ⟨g1, g2, g3⟩).setN (c2 := { c with yes := c.bal.map fun b => (b, pl) }) rfl
      have w1 := T1.1.1
      have es : s1.set n (D.ins 0 [D.int c.me, D.int c.hs, balD c.bal, yesD (c.bal.map fun b => (b, pl)), D.int c.votes, D.ref rep, c.agr]) = s1.set n (ChS.d { c with yes := c.bal.map fun b => (b, pl) } rep) := rfl
      rw [es]
      generalize (s1.set n (ChS.d { c with yes := c.bal.map fun b => (b, pl) } rep)) = s2 at *
      walk_at "sq"
      have w1' := w1
      have k2 := k
      unfold ChS.d at w1'
      dsimp only at w1'
      walk_at "ev"
      simp only [w1']
      walk_at "ev"
      refine ⟨cpow1 (by omega), by decide, ?_⟩
      have ep2 : ∀ x : D, G.putAt [D.int c.me, D.int c.hs, balD c.bal, yesD (c.bal.map fun b => (b, pl)), D.int c.votes, D.ref rep, c.agr] 4 x = [D.int c.me, D.int c.hs, balD c.bal, yesD (c.bal.map fun b => (b, pl)), x, D.ref rep, c.agr] := fun _ => rfl
      rw [ep2, shlN1]
      have T2 := T1.setN (c2 := { c with yes := c.bal.map fun b => (b, pl), votes := 1 <<< c.me }) rfl
      have es2 : s2.set n (D.ins 0 [D.int c.me, D.int c.hs, balD c.bal, yesD (c.bal.map fun b => (b, pl)), D.int ((1 <<< c.me : Nat) : Int), D.ref rep, c.agr]) = s2.set n (ChS.d { c with yes := c.bal.map fun b => (b, pl), votes := 1 <<< c.me } rep) := rfl
      rw [es2]
      generalize (s2.set n (ChS.d { c with yes := c.bal.map fun b => (b, pl), votes := 1 <<< c.me } rep)) = s3 at *
      subst h
      have v1 := T2.1.1
      have v1' := v1
      unfold ChS.d at v1'
      dsimp only at v1'
      walk_at "ev"
      simp only [v1']
      refine ⟨trivial, n, rep, _, rfl, v1, shl_lt hm, hh, ?_⟩
      walk_at "ev"
      refine k _ ?_
      have st : ∀ c : ChS, c.settle.reps = c.reps := fun c => by
        unfold ChS.settle
        split
        · rfl
        · split <;> rfl
      exact T2.setN (st _)
    walk_at "ev"
    cases hbs : bestY so with
    | some y =>
      exact fin y.2 s' (balD (yBal (some y))) _ _ ⟨h1, by rw [er]; exact h2, h3⟩ (fun s2 T => q1 y hbs s2 T)
    | none =>
      show dCallV nsp 2 _ _ s' _
      refine ⟨j, caps, rfl, ?_⟩
      walk_at "ev"
      simp only [h1']
      refine oSorted_rpt (deref_get h2) hp ho hl ?_
      refine lc_mapTo (s := s') (src := fun _ => True) (fun x : Rpt => D.int x.1) (fun x => x.2.1) trivial so rfl (by omega) ?_ ?_
      · intro x hx K k
        walk_at "ev"
        simp only [h1']
        refine oIx_dVs (deref_get h2) (rpt_look hp ho hx) ?_
        exact oIx_tp (k := 0) rfl k
      · walk_at "ev"
        exact q2 hbs _ fun r s1 g k => fin _ s1 _ _ _ g k
end Law
namespace Law
open PySem L2 G
theorem upF_eq {α : Type} (f : Nat → α) (a : Nat) (x : α) : upF f a x a = x := if_pos rfl
theorem upF_ne {α : Type} (f : Nat → α) {a i : Nat} (x : α) (h : i ≠ a) : upF f a x i = f i := if_neg h
theorem bit1 (a i : Nat) : (1 <<< a).testBit i = decide (i = a) := by
  rw [Nat.shiftLeft_eq, Nat.one_mul, Nat.testBit_two_pow]
  by_cases h : a = i
  · subst h; simp
  · have : ¬ i = a := fun z => h z.symm
    simp [h, this]
theorem pc_bits : ∀ (k n : Nat), pc k n = (bitsN k n).length
  | 0, n => rfl
  | k + 1, n => by
    have ih := pc_bits k (n / 2)
    unfold bitsN at ih ⊢
    rw [pc, ih, List.range_succ_eq_map, List.filter_cons, List.filter_map, Nat.testBit_zero]
    have e : ((fun i => n.testBit i) ∘ Nat.succ) = fun i => (n / 2).testBit i := by
      funext i
      simp [Nat.testBit_succ]
    rw [e]
    rcases Nat.mod_two_eq_zero_or_one n with z | z
    · simp [z]
    · simp [z]; omega
theorem pcw_set {v : Nat} {S : List Nat} (nd : S.Nodup) (lt : ∀ x ∈ S, x < 63) (h : ∀ i, v.testBit i = decide (i ∈ S)) : pcw v = S.length := by
  rw [pcw_eq, pc_bits]
  refine List.Perm.length_eq ((List.perm_ext_iff_of_nodup ?_ nd).mpr fun i => ?_)
  · unfold bitsN
    exact List.nodup_range.filter _
  · unfold bitsN
    rw [List.mem_filter, List.mem_range, h, decide_eq_true_eq]
    exact ⟨fun z => z.2, fun z => ⟨lt i z, z⟩⟩
theorem or_bits : ∀ (l : List Nat) (t i : Nat), (l.foldl (fun t h => t ||| 1 <<< h) t).testBit i = (t.testBit i || decide (i ∈ l))
  | [], t, i => by simp
  | a :: l, t, i => by
    rw [List.foldl_cons, or_bits l, Nat.testBit_or, bit1]
    by_cases h1 : i = a <;> by_cases h2 : i ∈ l <;> simp [h1, h2]
theorem less_irr (a : Bl) : lessB a a = false := by
  unfold lessB
  simp
theorem lookV_has {l : List (Int × D)} {c : Int} : (lookV l c).isSome = true ↔ ∃ p ∈ l, p.1 = c := by
  unfold lookV
  rw [Option.isSome_map, List.find?_isSome]
  exact ⟨fun ⟨p, hp, e⟩ => ⟨p, hp, of_decide_eq_true e⟩, fun ⟨p, hp, e⟩ => ⟨p, hp, decide_eq_true e⟩⟩
theorem srt_ex : ∀ l : List Nat, ∃ ys : List Nat, ys.Perm l ∧ ys.Pairwise (· ≤ ·)
  | [] => ⟨[], List.Perm.refl _, List.Pairwise.nil⟩
  | a :: l => by
    obtain ⟨ys, h1, h2⟩ := srt_ex l
    have go : ∀ ys : List Nat, ys.Pairwise (· ≤ ·) → ∃ zs : List Nat, zs.Perm (a :: ys) ∧ zs.Pairwise (· ≤ ·) := by
      intro ys
      induction ys with
      | nil => intro _; exact ⟨[a], List.Perm.refl _, List.pairwise_singleton _ _⟩
      | cons b ys ih =>
        intro h
        by_cases e : a ≤ b
        · refine ⟨a :: b :: ys, List.Perm.refl _, List.pairwise_cons.mpr ⟨fun z hz => ?_, h⟩⟩
          rcases (List.mem_cons).1 hz with rfl | hz
          · exact e
          · exact Nat.le_trans e ((List.pairwise_cons.mp h).1 z hz)
        · obtain ⟨zs, p1, p2⟩ := ih (List.pairwise_cons.mp h).2
          refine ⟨b :: zs, (p1.cons b).trans (List.Perm.swap _ _ _), List.pairwise_cons.mpr ⟨fun z hz => ?_, p2⟩⟩
          rcases List.mem_cons.mp (p1.mem_iff.mp hz) with rfl | hz
          · omega
          · exact (List.pairwise_cons.mp h).1 z hz
    obtain ⟨zs, p1, p2⟩ := go ys h2
    exact ⟨zs, p1.trans (h1.cons a), p2⟩
theorem srt_uniqN {a b : List Nat} (p : a.Perm b) (h1 : a.Pairwise (· ≤ ·)) (h2 : b.Pairwise (· ≤ ·)) : a = b := by
  have e : (a.map fun n : Nat => (n : Int)) = b.map fun n : Nat => (n : Int) := srt_uniq (p.map _) (List.pairwise_map.mpr (h1.imp fun h => by omega)) (List.pairwise_map.mpr (h2.imp fun h => by omega))
  have := congrArg (List.map Int.toNat) e
  simpa [List.map_map, Function.comp_def] using this
theorem upF_self {α : Type} (f : Nat → α) (a : Nat) : upF f a (f a) = f := by
  funext i
  unfold upF
  split
  · rename_i h; rw [h]
  · rfl
theorem settle_same (c : ChS) : c.settle.reps = c.reps ∧ c.settle.me = c.me ∧ c.settle.bal = c.bal ∧ c.settle.hs = c.hs ∧ c.settle.yes = c.yes ∧ c.settle.votes = c.votes := by
  unfold ChS.settle
  split
  · exact ⟨rfl, rfl, rfl, rfl, rfl, rfl⟩
  · split <;> exact ⟨rfl, rfl, rfl, rfl, by rename_i h _; exact h.symm ▸ rfl, rfl⟩
theorem prop_same (c : ChS) (pl : D) : (c.prop pl).reps = c.reps ∧ (c.prop pl).me = c.me ∧ (c.prop pl).bal = c.bal ∧ (c.prop pl).hs = c.hs ∧ (c.prop pl).yes = c.bal.map fun b => (b, pl) := by
  unfold ChS.prop
  obtain ⟨a1, a2, a3, a4, a5, _⟩ := settle_same { c with yes := c.bal.map fun b => (b, pl), votes := 1 <<< c.me }
  rw [a1, a2, a3, a4, a5]
  exact ⟨rfl, rfl, rfl, rfl, rfl⟩
theorem under_irr (B : Bl) : underB (some B) (some B) = false := less_irr B
theorem put_new {l : List (Int × D)} {c : Int} {d : D} (h : ∀ p ∈ l, p.1 ≠ c) : putV l c d = l ++ [(c, d)] := by
  unfold putV
  refine if_neg fun z => ?_
  obtain ⟨p, hp, e⟩ := lookV_has.mp z
  exact h p hp e
theorem ryes_cases (c : ChS) (y : Yes) (v : Nat) : ((c.ryes y v).yes = c.yes ∧ ((c.ryes y v).votes = c.votes ∨ (c.ryes y v).votes = c.votes ||| v)) ∨ ∃ z, y = some z ∧ c.bal = some z.1 ∧ underB (yBal c.yes) (some z.1) = true ∧ (c.ryes y v).yes = some z ∧ (c.ryes y v).votes = v ||| 1 <<< c.me := by
  cases y with
  | none => exact .inl ⟨rfl, .inl rfl⟩
  | some z =>
    unfold ChS.ryes
    dsimp only
    by_cases h : c.bal = some z.1 ∧ underB (yBal c.yes) (some z.1) = true
    · rw [if_pos h, (settle_same _).2.2.2.2.1, (settle_same _).2.2.2.2.2]
      exact .inr ⟨z, rfl, h.1, h.2, rfl, rfl⟩
    · rw [if_neg h]
      by_cases h2 : yBal c.yes = some z.1
      · rw [if_pos h2, (settle_same _).2.2.2.2.1, (settle_same _).2.2.2.2.2]
        exact .inl ⟨rfl, .inr rfl⟩
      · rw [if_neg h2, (settle_same _).2.2.2.2.1, (settle_same _).2.2.2.2.2]
        exact .inl ⟨rfl, .inl rfl⟩
theorem putV_rpt (l : List Rpt) (x : Rpt) : putV (l.map rptD) x.1 (.tup [x.2.1, yesD x.2.2]) = (putR l x).map rptD := by
  have e : (lookV (l.map rptD) x.1).isSome = l.any fun p => decide (p.1 = x.1) := by
    rw [Bool.eq_iff_iff, lookV_has, List.any_eq_true]
    constructor
    · rintro ⟨p, hp, e⟩
      obtain ⟨q, hq, rfl⟩ := (List.mem_map).1 hp
      exact ⟨q, hq, decide_eq_true e⟩
    · rintro ⟨q, hq, e⟩
      exact ⟨rptD q, List.mem_map.mpr ⟨q, hq, rfl⟩, of_decide_eq_true e⟩
  unfold putV putR
  rw [e]
  split
  · rw [List.map_map]
    rw [List.map_map]
    refine List.map_congr_left (fun p hp => ?_)
    by_cases h : p.1 = x.1
    · simp [rptD, h]
    · simp [rptD, h]
  · rw [List.map_append]
    rfl
theorem Good.put {hs : List Nat} {l : List Rpt} {g : Nat} {r : D} {y : Yes} (G : Good hs l) (hg : g ∈ hs) (hy : ∀ z, y = some z → okE 36 z.2 = true) : Good hs (putR l ((g : Int), r, y)) := by
  unfold putR
  have one : ∀ x : Rpt, x ∈ l ∨ x = ((g : Int), r, y) → (∃ g ∈ hs, x.1 = ((g : Nat) : Int)) ∧ ∀ z, x.2.2 = some z → okE 36 z.2 = true := by
    rintro x (hx | rfl)
    · exact ⟨G.sub x hx, G.yok x hx⟩
    · exact ⟨⟨g, hg, rfl⟩, hy⟩
  have mk : ∀ l' : List Rpt, (l'.map (·.1)).Nodup → (∀ x ∈ l', x ∈ l ∨ x = ((g : Int), r, y)) → Good hs l' := fun l' nd h => ⟨nd, fun x hx => (one x (h x hx)).1, fun x hx => (one x (h x hx)).2⟩
  split
  · refine mk _ ?_ fun x hx => ?_
    · have e : (l.map fun p : Rpt => if p.1 = (g : Int) then ((g : Int), r, y) else p).map (·.1) = l.map (·.1) := by
        rw [List.map_map]
        refine List.map_congr_left (fun p hp => ?_)
        by_cases h : p.1 = (g : Int)
        · simp [h]
        · simp [h]
      rw [e]
      exact G.nd
    · obtain ⟨p, hp, rfl⟩ := List.mem_map.mp hx
      split
      · exact .inr rfl
      · exact .inl hp
  · rename_i no
    refine mk _ ?_ fun x hx => ?_
    · rw [List.map_append]
      rw [List.nodup_append]
      refine ⟨G.nd, by simp, fun a ha b hb e => no ?_⟩
      obtain ⟨p, hp, rfl⟩ := List.mem_map.mp ha
      have hb : b = (g : Int) := by simpa using hb
      exact List.any_eq_true.mpr ⟨p, hp, decide_eq_true (e.trans hb)⟩
    · rcases (List.mem_append).1 hx with hx | hx
      · exact .inl hx
      · exact .inr (List.mem_singleton.mp hx)
theorem Good.nil (hs : List Nat) : Good hs [] := ⟨List.nodup_nil, nofun, nofun⟩
theorem look_any (l : List Rpt) (k : Int) : (lookV (l.map rptD) k).isSome = l.any fun p => decide (p.1 = k) := by
  rw [Bool.eq_iff_iff, lookV_has, List.any_eq_true]
  constructor
  · rintro ⟨p, hp, e⟩
    obtain ⟨q, hq, rfl⟩ := (List.mem_map).1 hp
    exact ⟨q, hq, decide_eq_true e⟩
  · rintro ⟨q, hq, e⟩
    exact ⟨rptD q, List.mem_map.mpr ⟨q, hq, rfl⟩, of_decide_eq_true e⟩
theorem Hs.nd {hs : List Nat} (H : Hs hs) : hs.Nodup := H.up.imp fun h => Nat.ne_of_lt h
def hasR (l : List Rpt) (g : Nat) : Bool := l.any fun x => decide (x.1 = ((g : Nat) : Int))
theorem Good.len {hs : List Nat} {l : List Rpt} (G : Good hs l) (H : Hs hs) : l.length = (hs.filter fun g => hasR l g).length := by
  have p : (l.map (·.1)).Perm ((hs.filter fun g => hasR l g).map fun g : Nat => (g : Int)) := by
    refine (List.perm_ext_iff_of_nodup G.nd ?_).mpr fun i => ?_
    · rw [List.nodup_iff_pairwise_ne, List.pairwise_map]
      exact (H.nd.filter _).imp fun h e => h (by omega)
    · rw [List.mem_map, List.mem_map]
      constructor
      · rintro ⟨x, hx, rfl⟩
        obtain ⟨g, hg, e⟩ := G.sub x hx
        exact ⟨g, List.mem_filter.mpr ⟨hg, List.any_eq_true.mpr ⟨x, hx, decide_eq_true e⟩⟩, e.symm⟩
      · rintro ⟨g, hg, rfl⟩
        obtain ⟨x, hx, e⟩ := List.any_eq_true.mp (List.mem_filter.mp hg).2
        exact ⟨x, hx, of_decide_eq_true e⟩
  have e := p.length_eq
  rw [List.length_map] at e
  rw [List.length_map] at e
  exact e
mutual
theorem okE_up : ∀ (n : Nat) (d : D), okE n d = true → okE (n + 1) d = true
  | _, .non, _ => rfl
  | _, .bl _, _ => rfl
  | _, .int _, _ => rfl
  | n, .str x, h => by cases n <;> exact h
  | 0, .tup _, h => by cases h
  | 0, .lst _, h => by cases h
  | 0, .ro _, h => by cases h
  | n + 1, .tup ds, h => okEs_up n ds h
  | n + 1, .lst ds, h => okEs_up n ds h
  | n + 1, .ro ds, h => okEs_up n ds h
  | 0, .dK _, h => by cases h
  | 0, .dT _, h => by cases h
  | 0, .ins _ _, h => by cases h
  | 0, .ref _, h => by cases h
  | 0, .lk _, h => by cases h
  | 0, .raw _, h => by cases h
  | _ + 1, .raw _, h => by cases h
  | _ + 1, .dK _, h => by cases h
  | _ + 1, .dT _, h => by cases h
  | _ + 1, .ins _ _, h => by cases h
  | _ + 1, .ref _, h => by cases h
  | _ + 1, .lk _, h => by cases h
theorem okEs_up : ∀ (n : Nat) (ds : List D), okEs n ds = true → okEs (n + 1) ds = true
  | _, [], _ => rfl
  | n, d :: ds, h => by
    have a : okE n d = true ∧ okEs n ds = true := by
      have : (okE n d && okEs n ds) = true := by cases n <;> exact h
      simpa using this
    show (okE (n + 1) d && okEs (n + 1) ds) = true
    rw [okE_up n d a.1, okEs_up n ds a.2]
    rfl
end
theorem okE_cc {n : Nat} {d : D} {ds : List D} (h1 : okE n d = true) (h2 : okEs n ds = true) : okEs n (d :: ds) = true := by
  have : okEs n (d :: ds) = (okE n d && okEs n ds) := by cases n <;> rfl
  rw [this, h1, h2]
  rfl
theorem okE_bal (n : Nat) (b : Bal) : okE (n + 1) (balD b) = true := by
  cases b with
  | none => rfl
  | some b => cases n <;> rfl
theorem okE_yes {n : Nat} {y : Yes} (h : ∀ z, y = some z → okE (n + 1) z.2 = true) : okE (n + 2) (yesD y) = true := by
  cases y with
  | none => rfl
  | some z => exact okE_cc (okE_bal n (some z.1)) (okE_cc (h z rfl) rfl)
theorem okE_seen {b : Bal} {y : Yes} {v : Nat} (h : ∀ z, y = some z → okE 36 z.2 = true) : okE 40 (.tup [balD b, yesD y, .int v]) = true :=
  okE_cc (okE_bal 38 b) (okE_cc (okE_up 38 _ (okE_up 37 _ (okE_yes (n := 35) h))) rfl)
theorem srt_rex : ∀ l : List Rpt, (l.map (·.1)).Nodup → ∃ so : List Rpt, so.Perm l ∧ so.Pairwise fun a b => a.1 < b.1
  | [], _ => ⟨[], List.Perm.refl _, List.Pairwise.nil⟩
  | a :: l, nd => by
    simp only [List.nodup_cons, List.map_cons] at nd
    obtain ⟨ys, h1, h2⟩ := srt_rex l nd.2
    have na : ∀ x ∈ ys, x.1 ≠ a.1 := fun x hx e => nd.1 (e ▸ List.mem_map_of_mem (f := (·.1)) (h1.mem_iff.mp hx))
    have go : ∀ ys : List Rpt, ys.Pairwise (fun a b => a.1 < b.1) → (∀ x ∈ ys, x.1 ≠ a.1) → ∃ zs : List Rpt, zs.Perm (a :: ys) ∧ zs.Pairwise fun a b => a.1 < b.1 := by
      intro ys
      induction ys with
      | nil => intro _ _; exact ⟨[a], List.Perm.refl _, List.pairwise_singleton _ _⟩
      | cons b ys ih =>
        intro h n
        have nb := n b (by simp)
        by_cases e : a.1 < b.1
        · refine ⟨a :: b :: ys, List.Perm.refl _, List.pairwise_cons.mpr ⟨fun z hz => ?_, h⟩⟩
          rcases (List.mem_cons).1 hz with rfl | hz
          · exact e
          · have := (List.pairwise_cons.mp h).1 z hz; omega
        · obtain ⟨zs, p1, p2⟩ := ih (List.pairwise_cons.mp h).2 fun x hx => n x (List.mem_cons_of_mem _ hx)
          refine ⟨b :: zs, (p1.cons b).trans (List.Perm.swap _ _ _), List.pairwise_cons.mpr ⟨fun z hz => ?_, p2⟩⟩
          rcases (List.mem_cons).1 (p1.mem_iff.mp hz) with rfl | hz
          · omega
          · exact (List.pairwise_cons.mp h).1 z hz
    obtain ⟨zs, p1, p2⟩ := go ys h2 na
    exact ⟨zs, p1.trans (h1.cons a), p2⟩
theorem strOk_of (x : String) : PyData.strOk (x : Str) = true := by
  unfold PyData.strOk
  rw [Str.ofString_eq_toList]
  rw [List.all_toArray, List.all_eq_true]
  intro n hn
  obtain ⟨c, _, rfl⟩ := List.mem_map.mp hn
  have lt : c.toNat < 0x110000 := by
    rcases c.valid with z | z
    · exact Nat.lt_trans z (by decide)
    · exact z.2
  exact decide_eq_true lt
theorem law_ix {hs : List Nat} {f : Nat → Nat} (nd : hs.Nodup) {h : Nat} (hh : h ∈ hs) {x : Sl} {s : Store} {Q : DK} (hx : deref s x = .dK (dV (hs.map fun h => (((h : Nat) : Int), .ref (f h))))) (q : Q (.ref (f h)) s) : oIx x (.v (.int h)) s Q := by
  refine oIx_dVs hx (lookV_mem (p := ((h : Int), D.ref (f h))) ?_ (List.mem_map.mpr ⟨h, hh, rfl⟩)) q
  rw [List.map_map, List.nodup_iff_pairwise_ne, List.pairwise_map]
  exact nd.imp fun z e => z (by have e : ((_ : Nat) : Int) = ((_ : Nat) : Int) := e; omega)
/-! the law of a letter received -/
theorem settle_calm (c : ChS) : Calm c.settle := by
  intro y hy ha hb
  obtain ⟨_, _, _, e4, e5, e6⟩ := settle_same c
  rw [e5] at hy
  rw [e4, e6] at hb
  have e : c.settle = if isNonD c.agr = true ∧ halfB c.votes c.hs = true then { c with agr := y.2 } else c := by
    unfold ChS.settle
    rw [hy]
  rw [e] at ha ⊢
  by_cases z : isNonD c.agr = true ∧ halfB c.votes c.hs = true
  · rw [if_pos z]
  · rw [if_neg z] at ha
    exact absurd ⟨ha, hb⟩ z
theorem calm_settle {c : ChS} (h : Calm c) : c.settle = c := by
  unfold ChS.settle
  cases hy : c.yes with
  | none => rfl
  | some y =>
    dsimp only
    by_cases z : isNonD c.agr = true ∧ halfB c.votes c.hs = true
    · rw [if_pos z, ← h y hy z.1 z.2, ← hy]
    · rw [if_neg z]
theorem Calm.same {c c' : ChS} (h : Calm c) (e1 : c'.yes = c.yes) (e2 : c'.votes = c.votes) (e3 : c'.hs = c.hs) (e4 : c'.agr = c.agr) : Calm c' := fun y => by
  rw [e1, e2, e3, e4]
  exact h y
theorem settle_agr (c : ChS) : c.settle.agr = c.agr ∨ ∃ y, c.yes = some y ∧ c.settle.agr = y.2 := by
  unfold ChS.settle
  split
  · exact .inl rfl
  · rename_i y hy
    split
    · exact .inr ⟨y, hy, rfl⟩
    · exact .inl rfl
theorem Sub.or {hs : List Nat} {a b : Nat} (ha : Sub hs a) (hb : Sub hs b) : Sub hs (a ||| b) := fun i h => by
  rw [Nat.testBit_or, Bool.or_eq_true] at h
  exact h.elim (ha i) (hb i)
theorem Sub.one {hs : List Nat} {a : Nat} (h : a ∈ hs) : Sub hs (1 <<< a) := fun i e => by
  rw [bit1, decide_eq_true_eq] at e
  exact e ▸ h
theorem Sub.lt {hs : List Nat} {a : Nat} (h : Sub hs a) (H : Hs hs) : a < 2 ^ 63 := bits_lt fun i hi => by
  cases e : a.testBit i with
  | false => rfl
  | true => have := H.lt i (h i e); omega
theorem half_sub {hs : List Nat} {v : Nat} (H : Hs hs) (h : Sub hs v) : halfB v (grp hs) = decide (2 * pcw v > hs.length) := by
  have e1 : v &&& grp hs = v := by
    refine Nat.eq_of_testBit_eq fun i => ?_
    unfold grp
    rw [Nat.testBit_and, sum_bits H.nd]
    cases e : v.testBit i with
    | false => rfl
    | true => rw [Bool.true_and]; exact decide_eq_true (h i e)
  have e2 : pcw (grp hs) = hs.length := pcw_set H.nd H.lt fun i => sum_bits H.nd i
  unfold halfB
  rw [e1, e2]
theorem settleM_eq {hs : List Nat} {c : ChS} (H : Hs hs) (hg : c.hs = grp hs) (h : Sub hs c.votes) : c.settleM hs.length = c.settle := by
  unfold ChS.settleM ChS.settle
  rw [hg, half_sub H h]
  simp only [decide_eq_true_eq]
theorem ryes_step {c : ChS} (h : Calm c) (y : Yes) (v : Nat) : c.ryes y v = (c.step1 y v).settle := by
  cases y with
  | none => exact (calm_settle h).symm
  | some z => rfl
theorem step1_same (c : ChS) (y : Yes) (v : Nat) : (c.step1 y v).me = c.me ∧ (c.step1 y v).hs = c.hs ∧ (c.step1 y v).agr = c.agr ∧ (c.step1 y v).bal = c.bal := by
  unfold ChS.step1
  split
  · exact ⟨rfl, rfl, rfl, rfl⟩
  · split
    · exact ⟨rfl, rfl, rfl, rfl⟩
    · split <;> exact ⟨rfl, rfl, rfl, rfl⟩
theorem Fit.step1 {hs : List Nat} {c d : ChS} (a : Fit hs c) (b : Fit hs d) : Fit hs (c.step1 d.yes d.votes) := by
  obtain ⟨e1, _, e3, _⟩ := step1_same c d.yes d.votes
  have vy : Sub hs (c.step1 d.yes d.votes).votes ∧ ∀ y, (c.step1 d.yes d.votes).yes = some y → okE 36 y.2 = true := by
    unfold ChS.step1
    split
    · exact ⟨a.vt, a.oy⟩
    · rename_i z hz
      split
      · exact ⟨b.vt.or (.one a.me), fun y e => by cases e; exact b.oy z hz⟩
      · split
        · exact ⟨a.vt.or b.vt, a.oy⟩
        · exact ⟨a.vt, a.oy⟩
  exact ⟨by rw [e1]; exact a.me, vy.1, vy.2, by rw [e3]; exact a.oa⟩
theorem Fit.settle {hs : List Nat} {c : ChS} (a : Fit hs c) : Fit hs c.settle := by
  obtain ⟨_, e2, _, _, e5, e6⟩ := settle_same c
  refine ⟨by rw [e2]; exact a.me, by rw [e6]; exact a.vt, by rw [e5]; exact a.oy, ?_⟩
  rcases settle_agr c with e | ⟨y, hy, e⟩
  · rw [e]; exact a.oa
  · rw [e]; exact a.oy y hy
/-- a deed of h leaves what holds -/
theorem Iv.deed {hs : List Nat} {V : Nat → ChS} {R : Nat → List Rpt} {h : Nat} {c' : ChS} {R' : List Rpt} (I : Iv hs V R) (me : c'.me = h) (gr : c'.hs = grp hs) (ft : Fit hs c') (st : Calm c') (gR : Good hs R') : Iv hs (upF V h c') (upF R h R') := by
  have tw : ∀ (P : Nat → ChS → List Rpt → Prop), P h c' R' → (∀ i ∈ hs, i ≠ h → P i (V i) (R i)) → ∀ i ∈ hs, P i (upF V h c' i) (upF R h R' i) := by
    intro P p q i hi
    by_cases z : i = h
    · subst z
      rw [upF_eq, upF_eq]
      exact p
    · rw [upF_ne _ _ z, upF_ne _ _ z]
      exact q i hi z
  exact ⟨tw (fun i c _ => c.me = i) me fun i hi _ => I.me i hi, tw (fun i c _ => c.hs = grp hs) gr fun i hi _ => I.gr i hi, tw (fun _ c _ => Fit hs c) ft fun i hi _ => I.ft i hi, tw (fun _ c _ => Calm c) st fun i hi _ => I.st i hi, tw (fun _ _ R => Good hs R) gR fun i hi _ => I.gR i hi⟩
theorem recv_deed {hs : List Nat} {V : Nat → ChS} {R : Nat → List Rpt} {h : Nat} {d : ChS} {r : D} (I : Iv hs V R) (H : Hs hs) (hh : h ∈ hs) (rr : (V h).reps = (R h).map rptD) (ok : Fit hs d) :
    ∃ R' c', c' = (V h).recv d.me d.bal d.yes d.votes r ∧ c'.reps = R'.map rptD ∧ Iv hs (upF V h c') (upF R h R') ∧ c'.seen = ((V h).dueS hs.length d.bal d.yes d.votes).seen := by
  obtain ⟨c0, ec⟩ : ∃ c0, c0 = (V h).up1 d.bal := ⟨_, rfl⟩
  have s0 : c0.me = (V h).me ∧ c0.hs = (V h).hs ∧ c0.yes = (V h).yes ∧ c0.votes = (V h).votes ∧ c0.agr = (V h).agr ∧ ∃ R0, Good hs R0 ∧ c0.reps = R0.map rptD := by
    rw [ec]
    unfold ChS.up1
    split
    · exact ⟨rfl, rfl, rfl, rfl, rfl, [], .nil hs, rfl⟩
    · exact ⟨rfl, rfl, rfl, rfl, rfl, R h, I.gR h hh, rr⟩
  obtain ⟨s1, s2, s3, s4, s5, R0, gR, eR⟩ := s0
  have me := I.me h hh
  have f := I.ft h hh
  have f0 : Fit hs c0 := ⟨by rw [s1]; exact f.me, by rw [s4]; exact f.vt, by rw [s3]; exact f.oy, by rw [s5]; exact f.oa⟩
  have k0 : Calm c0 := (I.st h hh).same s3 s4 s2 s5
  obtain ⟨c1, e1⟩ : ∃ c1, c1 = c0.ryes d.yes d.votes := ⟨_, rfl⟩
  have es : c1 = (c0.step1 d.yes d.votes).settle := by rw [e1, ryes_step k0]
  have f2 := f0.step1 ok
  obtain ⟨t1, t2, _, _⟩ := step1_same c0 d.yes d.votes
  have due : (V h).dueS hs.length d.bal d.yes d.votes = c1 := by
    unfold ChS.dueS
    rw [← ec, es]
    exact settleM_eq H (by rw [t2, s2]; exact I.gr h hh) f2.vt
  obtain ⟨r1, r2, r3, r4⟩ := ryes_reps c0 d.yes d.votes
  rw [← e1] at r1 r2 r3 r4
  have f1 : Fit hs c1 := by rw [es]; exact f2.settle
  have k1 : Calm c1 := by rw [es]; exact settle_calm _
  have er : (V h).recv d.me d.bal d.yes d.votes r = if d.bal ≠ none ∧ d.bal = c1.bal ∧ c1.unpl = true then { c1 with reps := putV c1.reps d.me (.tup [r, yesD d.yes]) } else c1 := by
    rw [e1, ec]
    rfl
  have m1 : c1.me = h := by rw [r2, s1]; exact me
  have g1 : c1.hs = grp hs := by rw [r4, s2]; exact I.gr h hh
  by_cases z : d.bal ≠ none ∧ d.bal = c1.bal ∧ c1.unpl = true
  · rw [if_pos z] at er
    refine ⟨putR R0 ((d.me : Int), r, d.yes), _, er.symm, ?_, I.deed m1 g1 ⟨f1.me, f1.vt, f1.oy, f1.oa⟩ (k1.same rfl rfl rfl rfl) (gR.put ok.me ok.oy), ?_⟩
    · show putV c1.reps d.me (.tup [r, yesD d.yes]) = _
      rw [r1, eR]
      exact putV_rpt R0 ((d.me : Int), r, d.yes)
    · rw [due]
      rfl
  · rw [if_neg z] at er
    exact ⟨R0, c1, er.symm, by rw [r1, eR], I.deed m1 g1 f1 k1 gR, by rw [due]⟩
theorem begin_deed {hs : List Nat} {V : Nat → ChS} {R : Nat → List Rpt} {h : Nat} {more : Int} {r : D} (I : Iv hs V R) (hh : h ∈ hs) :
    ((V h).begin more r).reps = ([((h : Int), r, (V h).yes)] : List Rpt).map rptD ∧ Iv hs (upF V h ((V h).begin more r)) (upF R h [((h : Int), r, (V h).yes)]) := by
  have me := I.me h hh
  have f := I.ft h hh
  refine ⟨?_, I.deed me (I.gr h hh) ⟨f.me, f.vt, f.oy, f.oa⟩ ((I.st h hh).same rfl rfl rfl rfl) ⟨by simp, fun x hx => ?_, fun x hx y e => ?_⟩⟩
  · show [(((V h).me : Int), _)] = _
    rw [me]
    rfl
  · rw [List.mem_singleton.mp hx]
    exact ⟨h, hh, rfl⟩
  · rw [List.mem_singleton.mp hx] at e
    exact f.oy y e
theorem prop_deed {hs : List Nat} {V : Nat → ChS} {R : Nat → List Rpt} {h : Nat} {pl : D} (I : Iv hs V R) (hh : h ∈ hs) (hp : okE 36 pl = true) : Iv hs (upF V h ((V h).prop pl)) R := by
  have me := I.me h hh
  have f := I.ft h hh
  obtain ⟨p1, p2, p3, p4, p5⟩ := prop_same (V h) pl
  have ft : Fit hs ((V h).prop pl) := by
    refine Fit.settle ⟨f.me, ?_, fun y e => ?_, f.oa⟩
    · exact .one f.me
    · have e : (V h).bal.map (fun b => (b, pl)) = some y := e
      cases hb : (V h).bal with
      | none => rw [hb] at e; cases e
      | some b => rw [hb] at e; cases e; exact hp
  have t := I.deed (c' := (V h).prop pl) (R' := R h) (p2.trans me) (p4.trans (I.gr h hh)) ft (settle_calm _) (I.gR h hh)
  rw [upF_self] at t
  exact t
/-! the cells -/
theorem Fm.lt {hs : List Nat} {s : Store} {n rep : Nat → Nat} {V : Nat → ChS} {R : Nat → List Rpt} {dc : Nat} (F : Fm hs s n rep V R dc) {i : Nat} (hi : i ∈ hs) : n i < s.length ∧ rep i < s.length := by
  obtain ⟨a, b, _⟩ := F.at_ i hi
  exact ⟨(List.getElem?_eq_some_iff.mp a).1, (List.getElem?_eq_some_iff.mp b).1⟩
theorem Fm.deed {hs : List Nat} {s s' : Store} {n rep : Nat → Nat} {V : Nat → ChS} {R : Nat → List Rpt} {dc A r' : Nat} {c' : ChS} {R' : List Rpt} (F : Fm hs s n rep V R dc) (hA : A ∈ hs) (T : ChTo s s' (n A) (rep A) r' c') (er : c'.reps = R'.map rptD) : Fm hs s' n (upF rep A r') (upF V A c') (upF R A R') dc := by
  obtain ⟨T1, T2, T3⟩ := T
  have l : ∀ i, i ∈ hs → n i < s.length ∧ rep i < s.length := fun i hi => F.lt hi
  have ld := (List.getElem?_eq_some_iff.mp F.hdc).1
  have nr : ∀ x, x < s.length → x ≠ rep A → x ≠ r' := fun x a b => by
    rcases T2 with ⟨z, _⟩ | ⟨z, _⟩
    · rw [z]; exact b
    · omega
  refine ⟨fun i hi => ?_, fun i hi => ?_, fun i j hi hj => ?_, F.jn, fun i j hi hj e => ?_, ?_, fun i hi => ?_⟩
  · obtain ⟨a1, a2, a3⟩ := F.at_ i hi
    by_cases e : i = A
    · subst e
      rw [upF_eq, upF_eq]
      exact T1
    · rw [upF_ne _ _ e, upF_ne _ _ e]
      refine ⟨?_, ?_, a3⟩
      · rw [T3 _ (fun z => e (F.jn i A hi hA z)) (F.ne i A hi hA) (l i hi).1]; exact a1
      · rw [T3 _ (F.ne A i hA hi).symm (fun z => e (F.jr i A hi hA z)) (l i hi).2]; exact a2
  · by_cases e : i = A
    · subst e
      rw [upF_eq, upF_eq]
      exact er
    · rw [upF_ne _ _ e, upF_ne _ _ e]
      exact F.rr i hi
  · by_cases e : j = A
    · subst e
      rw [upF_eq]
      exact nr _ (l i hi).1 (F.ne i j hi hj)
    · rw [upF_ne _ _ e]
      exact F.ne i j hi hj
  · by_cases e1 : i = A
    · by_cases e2 : j = A
      · rw [e1, e2]
      · exfalso
        rw [e1, upF_eq, upF_ne _ _ e2] at e
        exact nr _ (l j hj).2 (fun z => e2 (F.jr j A hj hA z)) e.symm
    · by_cases e2 : j = A
      · exfalso
        rw [e2, upF_eq, upF_ne _ _ e1] at e
        exact nr _ (l i hi).2 (fun z => e1 (F.jr i A hi hA z)) e
      · rw [upF_ne _ _ e1, upF_ne _ _ e2] at e
        exact F.jr i j hi hj e
  · obtain ⟨p1, p2⟩ := F.off A hA
    rw [T3 _ p1.symm p2.symm ld]
    exact F.hdc
  · obtain ⟨p1, p2⟩ := F.off i hi
    by_cases e : i = A
    · subst e
      rw [upF_eq]
      exact ⟨p1, (nr _ ld p2.symm).symm⟩
    · rw [upF_ne _ _ e]
      exact ⟨p1, p2⟩
theorem Fm.more {l : List Nat} {s s' : Store} {n rep : Nat → Nat} {V : Nat → ChS} {R : Nat → List Rpt} {dc h : Nat} (F : Fm l s n rep V R dc) (nh : h ∉ l) (p1 : ∀ m, m < s.length → m ≠ dc → s'[m]? = s[m]?) (p2 : ChAt s' s.length (s.length + 1) (V h)) (rr : (V h).reps = (R h).map rptD)
    (p4 : s'[dc]? = some (.dK (dV ((l.map fun h => (((h : Nat) : Int), .ref (n h))) ++ [((h : Int), .ref s.length)])))) : Fm (l ++ [h]) s' (upF n h s.length) (upF rep h (s.length + 1)) V R dc := by
  have ld := (List.getElem?_eq_some_iff.mp F.hdc).1
  have tw : ∀ i, i ∈ l ++ [h] → (i ∈ l ∧ i ≠ h ∧ upF n h s.length i = n i ∧ upF rep h (s.length + 1) i = rep i ∧ n i < s.length ∧ rep i < s.length) ∨ (i = h ∧ upF n h s.length i = s.length ∧ upF rep h (s.length + 1) i = s.length + 1) := fun i hi => by
    rcases (List.mem_append).1 hi with z | z
    · have ne : i ≠ h := fun e => nh (e ▸ z)
      obtain ⟨a, b⟩ := F.lt z
      exact .inl ⟨z, ne, upF_ne _ _ ne, upF_ne _ _ ne, a, b⟩
    · obtain rfl := List.mem_singleton.mp z
      exact .inr ⟨rfl, upF_eq .., upF_eq ..⟩
  have em : ((l ++ [h]).map fun i => (((i : Nat) : Int), D.ref (upF n h s.length i))) = (l.map fun i => (((i : Nat) : Int), D.ref (n i))) ++ [((h : Int), .ref s.length)] := by
    rw [List.map_append]
    congr 1
    · refine List.map_congr_left (fun i hi => ?_)
      have ne : i ≠ h := fun e => nh (e ▸ hi)
      rw [upF_ne _ _ ne]
    · show [((h : Int), D.ref (upF n h s.length h))] = _
      rw [upF_eq]
  refine ⟨fun i hi => ?_, fun i hi => ?_, fun i j hi hj => ?_, fun i j hi hj e => ?_, fun i j hi hj e => ?_, ?_, fun i hi => ?_⟩
  · rcases tw i hi with ⟨z, _, e1, e2, l1, l2⟩ | ⟨rfl, e1, e2⟩
    · rw [e1, e2]
      obtain ⟨a, b, c⟩ := F.at_ i z
      obtain ⟨o1, o2⟩ := F.off i z
      exact ⟨by rw [p1 _ l1 o1]; exact a, by rw [p1 _ l2 o2]; exact b, c⟩
    · rw [e1, e2]
      exact p2
  · rcases tw i hi with ⟨z, _⟩ | ⟨rfl, _⟩
    · exact F.rr i z
    · exact rr
  · rcases tw i hi with ⟨z, _, e1, e2, l1, l2⟩ | ⟨_, e1, e2⟩ <;> rcases tw j hj with ⟨w, _, f1, f2, m1, m2⟩ | ⟨_, f1, f2⟩ <;> rw [e1, f2]
    · exact F.ne i j z w
    all_goals omega
  · rcases tw i hi with ⟨z, _, e1, e2, l1, l2⟩ | ⟨_, e1, e2⟩ <;> rcases tw j hj with ⟨w, _, f1, f2, m1, m2⟩ | ⟨_, f1, f2⟩ <;> rw [e1, f1] at e
    · exact F.jn i j z w e
    all_goals omega
  · rcases tw i hi with ⟨z, _, e1, e2, l1, l2⟩ | ⟨_, e1, e2⟩ <;> rcases tw j hj with ⟨w, _, f1, f2, m1, m2⟩ | ⟨_, f1, f2⟩ <;> rw [e2, f2] at e
    · exact F.jr i j z w e
    all_goals omega
  · rw [em]
    exact p4
  · rcases tw i hi with ⟨z, _, e1, e2, _⟩ | ⟨rfl, e1, e2⟩ <;> rw [e1, e2]
    · exact F.off i z
    · omega
theorem b__law_make___law_make_here : ∀ caps ds s Q W, sp__law_make___law_make_here caps ds s Q W → t__law_make___law_make_here (fun x _ s => W x s) (dEnd Q) (startDN N__law_make___law_make_here.length ds caps) s := by
  rintro caps ds s Q W ⟨plan, d, rfl, rfl, q⟩
  simp only [t__law_make___law_make_here, N__law_make___law_make_here]
  walk_at "ev"
  exact q
theorem b__law_hands : ∀ ds s Q W, sp__law_hands ds s Q W → t__law_hands (fun x _ s => W x s) (dEnd Q) (startD N__law_hands.length ds) s := by
  rintro ds s Q W ⟨c, rfl, q⟩
  have big : (1001 : Nat) < lim := by decide
  simp only [t__law_hands, N__law_hands, l1__law_hands]
  refine seqI fun N h => ?_
  walk_at "ev"
  obtain ⟨m, em, m1, m2⟩ : ∃ m : Nat, 1 + c / 3 % 5 = (m : Int) ∧ 1 ≤ m ∧ m ≤ 5 := ⟨(1 + c / 3 % 5).toNat, by omega, by omega, by omega⟩
  by_cases z : c % 3 = 0
  · simp only [z, decide_true, Bool.false_xor, if_true]
    refine ⟨cdiv (by decide) (by decide), ?_⟩
    rw [em]
    refine ⟨⟨by decide, by decide, by omega, by omega, by omega⟩, ?_⟩
    have er : rgD 0 (m : Int) = nl (List.range m) := by
      unfold rgD nl
      simp
    rw [er]
    refine q _ ⟨List.pairwise_lt_range, fun h hh => ?_, ?_, fun z => ?_⟩
    · have := List.mem_range.mp hh; omega
    · rw [List.length_range]; exact m2
    · have := congrArg List.length z
      rw [List.length_range] at this
      have : m = 0 := this
      omega
  · simp only [z, decide_false, Bool.false_xor, Bool.false_eq_true, if_false]
    subst h
    walk_at "ev"
    refine ⟨by decide, cdiv (by decide) (by decide), ?_⟩
    rw [em]
    refine ⟨c, m, rfl, by omega, by omega, fun xs hx hb => ?_⟩
    walk_at "ev"
    refine ⟨fun i σ s' => s' = s ∧ ∃ (hs : List Nat) (y : Option Sl), σ = [some (.v (.int c)), some (.o (.lst (nl hs))), y] ∧ hs.Nodup ∧ (∀ h ∈ hs, h < 63) ∧ hs.length ≤ i ∧ (0 < i → hs ≠ []), ⟨rfl, [], none, rfl, List.nodup_nil, nofun, Nat.le_refl _, fun z => absurd z (by omega)⟩, ?_, ?_⟩
    · rintro i d σ s' ed ⟨rfl, hs, y, rfl, h1, h2, h3, h4⟩
      obtain ⟨x, e1, rfl⟩ := map_get ed
      have hi : i < xs.length := (List.getElem?_eq_some_iff.mp e1).1
      obtain ⟨X, ex⟩ : ∃ X : Nat, x % 63 = (X : Int) := ⟨(x % 63).toNat, by omega⟩
      refine ⟨trivial, ?_⟩
      walk_at "ev"
      rw [ex]
      refine oIn_natsO (xs := hs) ?_
      walk_at "ev"
      by_cases m : X ∈ hs
      · simp only [m, decide_true, Bool.not_true, Bool.false_eq_true, if_false]
        exact ⟨hs, _, rfl, h1, h2, by omega, fun _ z => by rw [z] at m; cases m⟩
      · simp only [m, decide_false, Bool.not_false, if_true]
        refine ⟨by simp only [List.length_map]; omega, hs ++ [X], some (.v (.int x)), ?_, ?_, fun h hh => ?_, by simp; omega, fun _ z => by simp at z⟩
        · simp [nl]
        · rw [List.nodup_append]
          exact ⟨h1, by simp, fun p hp q hq => by rw [List.mem_singleton.mp hq]; exact fun z => m (z ▸ hp)⟩
        · rcases (List.mem_append).1 hh with hh | hh
          · exact h2 h hh
          · have := List.mem_singleton.mp hh; omega
    · rintro σ s' ⟨rfl, hs, y, rfl, h1, h2, h3, h4⟩
      rw [List.length_map] at h3 h4
      refine ⟨trivial, ?_⟩
      walk_at "ev"
      refine oSorted_nats fun ys p1 p2 => ?_
      have nd := p1.nodup_iff.mpr h1
      refine q ys ⟨?_, fun h hh => h2 h (p1.mem_iff.mp hh), by rw [p1.length_eq]; omega, fun z => ?_⟩
      · refine (List.pairwise_and_iff.mpr ⟨p2, nd⟩).imp fun z => by have := z.1; have := z.2; omega
      · rw [z] at p1
        exact h4 (by omega) p1.symm.eq_nil
theorem b__law_under : ∀ ds s Q W, sp__law_under ds s Q W → t__law_under (fun x _ s => W x s) (dEnd Q) (startD N__law_under.length ds) s := by
  rintro ds s Q W ⟨a, b, rfl, q⟩
  simp only [t__law_under, N__law_under]
  cases a with
  | none => cases b <;> exact q
  | some a =>
    cases b with
    | none => exact q
    | some b =>
      simp only [balD, blD]
      walk_at "ev"
      have e : underB (some a) (some b) = lessB a b := rfl
      rw [e] at q
      unfold lessB at q
      by_cases h : a.1 < b.1
      · simpa [h] using q
      · by_cases h2 : a.1 = b.1
        · simpa [h, h2] using q
        · simpa [h, h2] using q
theorem b__law_ballot : ∀ ds s Q W, sp__law_ballot ds s Q W → t__law_ballot (fun x _ s => W x s) (dEnd Q) (startD N__law_ballot.length ds) s := by
  rintro ds s Q W ⟨y, rfl, q⟩
  simp only [t__law_ballot, N__law_ballot]
  cases y with
  | none => exact q
  | some y =>
    simp only [yesD]
    walk_at "ev"
    exact q
theorem b__law_many : ∀ ds s Q W, sp__law_many ds s Q W → t__law_many (fun x _ s => W x s) (dEnd Q) (startD N__law_many.length ds) s := by
  rintro ds s Q W ⟨v, rfl, q⟩
  simp only [t__law_many, N__law_many]
  walk_at "ev"
  refine lc_filterTo (s := s) (src := fun _ => True) (fun i : Nat => D.int i) (fun i => v.testBit i) (fun i => D.int i) trivial (List.range 63) rfl (by decide) ?_ ?_
  · intro i hi Ky Kn k1 k2
    walk_at "ev"
    refine ⟨by omega, ?_⟩
    have e2 : (decide (Builtin.bitAnd ((v : Int) / 2 ^ (i : Int).toNat) 1 = 1)) = v.testBit i := by
      rw [shrN, bandN1]
      rw [Nat.testBit, Nat.and_comm 1]
      have h2 : v >>> i &&& 1 = (v >>> i) % 2 := Nat.and_one_is_mod _
      rw [h2]
      rcases Nat.mod_two_eq_zero_or_one (v >>> i) with w | w <;> rw [w] <;> rfl
    rw [e2]
    cases w : v.testBit i with
    | true => exact k1 w
    | false => exact k2 w
  · have e : pcw v = (List.filter (fun i => v.testBit i) (List.range 63)).length := by
      rw [pcw_eq, pc_bits]
      rfl
    rw [e] at q
    walk_at "ev"
    rw [List.length_map]
    exact q
theorem b__law_seen : ∀ ds s Q W, sp__law_seen ds s Q W → t__law_seen (fun x _ s => W x s) (dEnd Q) (startD N__law_seen.length ds) s := by
  rintro ds s Q W ⟨n, rep, c, rfl, ⟨h1, h2, h3⟩, q⟩
  have h1' := h1
  unfold ChS.d at h1'
  simp only [t__law_seen, N__law_seen]
  walk_at "ev"
  simp only [h1']
  walk_at "ev"
  try simp only [h1']
  refine ⟨n, rep, c, rfl, ⟨h1, h2, h3⟩, ?_⟩
  walk_at "ev"
  exact ⟨by decide, q⟩
theorem b__law_due : ∀ ds s Q W, sp__law_due ds s Q W → t__law_due (fun x _ s => W x s) (dEnd Q) (startD N__law_due.length ds) s := by
  rintro ds s Q W ⟨c, m, b, y, v, a, rfl, hm, q⟩
  simp only [t__law_due, N__law_due]
  unfold ChS.seen at *
  refine seqI fun N h => ?_
  walk_at "ev"
  walk_at "sq"
  walk_at "ev"
  refine ⟨c.bal, b, rfl, ?_⟩
  walk_at "ev"
  generalize eo : D.tup [balD c.bal, yesD c.yes, .int c.votes, c.agr] = own
  have mid : ∀ c1 : ChS, c1.me = c.me → c1 = (c.up1 b).step1 y v → N [some (.v (.int c1.me)), some (.v (.int m)), some (.v own), some (.v (.tup [balD b, yesD y, .int v, a])), some (.v (balD (c.up1 b).bal)), some (.v (yesD (c.up1 b).yes)), some (.v (.int (c.up1 b).votes)), some (.v (c.up1 b).agr)] s := by
    intro c1 m1 e1
    have q1 : Q (.v (c1.settleM m).seen) s := by rw [e1]; exact q
    unfold ChS.seen at q1
    have mc : (c.up1 b).me = c1.me := by
      rw [m1]
      unfold ChS.up1
      split <;> rfl
    have hm1 : c1.me < 63 := by rw [m1]; exact hm
    clear q m1 hm
    generalize c.up1 b = c0 at e1 mc
    walk_at "sq"
    have fin : N [some (.v (.int c1.me)), some (.v (.int m)), some (.v own), some (.v (.tup [balD b, yesD y, .int v, a])), some (.v (balD c1.bal)), some (.v (yesD c1.yes)), some (.v (.int c1.votes)), some (.v c1.agr)] s := by
      walk_at "sq"
      have skip : c1.settleM m = c1 → N [some (.v (.int c1.me)), some (.v (.int m)), some (.v own), some (.v (.tup [balD b, yesD y, .int v, a])), some (.v (balD c1.bal)), some (.v (yesD c1.yes)), some (.v (.int c1.votes)), some (.v c1.agr)] s := fun e => by
        rw [e] at q1
        subst h
        walk_at "ev"
        exact ⟨by decide, q1⟩
      have no : isNonD c1.agr = false → c1.settleM m = c1 := fun e => by
        unfold ChS.settleM
        split
        · rfl
        · exact if_neg fun z => by rw [e] at z; exact absurd z.1 (by decide)
      obtain ⟨me, hs, bal, yes, votes, reps, agr⟩ := c1
      dsimp only at *
      walk_at "ev"
      cases agr with
      | non =>
        walk_at "ev"
        cases yes with
        | none => exact skip rfl
        | some z =>
          have ez : yesD (some z) = .tup [blD z.1, z.2] := rfl
          rw [ez]
          walk_at "ev"
          refine ⟨votes, rfl, ?_⟩
          walk_at "ev"
          refine ⟨cmuL (by decide) (by decide), ?_⟩
          have es : ChS.settleM ⟨me, hs, bal, some z, votes, reps, .non⟩ m = if 2 * pcw votes > m then ⟨me, hs, bal, some z, votes, reps, z.2⟩ else ⟨me, hs, bal, some z, votes, reps, .non⟩ := by
            unfold ChS.settleM
            simp [isNonD]
          by_cases w : 2 * pcw votes > m
          · have w2 : (m : Int) < 2 * (pcw votes : Int) := by omega
            rw [if_pos w] at es
            rw [es] at q1
            simp only [w2, decide_true, if_true]
            subst h
            walk_at "ev"
            exact ⟨by decide, q1⟩
          · have w2 : ¬ (m : Int) < 2 * (pcw votes : Int) := by omega
            rw [if_neg w] at es
            simp only [w2, decide_false, Bool.false_eq_true, if_false]
            exact skip es
      | _ => exact skip (no rfl)
    have s1 := step1_same c0 y v
    rw [← e1] at s1
    obtain ⟨t1, t2, t3, t4⟩ := s1
    cases y with
    | none =>
      have e2 : c1 = c0 := e1
      subst e2
      walk_at "ev"
      exact fin
    | some z =>
      have ez : yesD (some z) = .tup [blD z.1, z.2] := rfl
      have es : c1 = if c0.bal = some z.1 ∧ underB (yBal c0.yes) (some z.1) = true then { c0 with yes := some z, votes := v ||| 1 <<< c0.me } else if yBal c0.yes = some z.1 then { c0 with votes := c0.votes ||| v } else c0 := e1
      clear e1
      rw [ez] at fin ⊢
      generalize eq3 : D.tup [balD b, .tup [blD z.1, z.2], .int v, a] = told at fin
      have ix1 : ∀ P : DK, P (.tup [blD z.1, z.2]) s → oIx (.v told) (.v (.int 1)) s P := fun P p => by rw [← eq3]; exact p
      have ix2 : ∀ P : DK, P (.int v) s → oIx (.v told) (.v (.int 2)) s P := fun P p => by rw [← eq3]; exact p
      have els : ¬ (c0.bal = some z.1 ∧ underB (yBal c0.yes) (some z.1) = true) → N [some (.v (.int c1.me)), some (.v (.int m)), some (.v own), some (.v told), some (.v (balD c0.bal)), some (.v (yesD c0.yes)), some (.v (.int (if yBal c0.yes = some z.1 then c0.votes ||| v else c0.votes : Nat))), some (.v c0.agr)] s := fun ne => by
        rw [if_neg ne] at es
        by_cases w : yBal c0.yes = some z.1
        · rw [if_pos w] at es ⊢
          rw [es] at fin ⊢
          exact fin
        · rw [if_neg w] at es ⊢
          rw [es] at fin ⊢
          exact fin
      have eqc : yBal c0.yes = some z.1 → (some z.1 = yBal c0.yes) = True := fun e => by rw [e]; simp
      have eqn : ¬ yBal c0.yes = some z.1 → (some z.1 = yBal c0.yes) = False := fun e => by simp only [eq_iff_iff, iff_false]; exact fun z => e z.symm
      walk_at "ev"
      refine ix1 _ ?_
      walk_at "ev"
      refine ix1 _ ?_
      walk_at "ev"
      refine oEq_bal (a := some z.1) (b := c0.bal) (neg := false) ?_
      walk_at "ev"
      by_cases u : some z.1 = c0.bal
      · simp only [u, decide_true, if_true]
        refine ⟨c0.yes, rfl, ?_⟩
        walk_at "ev"
        refine ⟨yBal c0.yes, c0.bal, rfl, ?_⟩
        walk_at "ev"
        by_cases u2 : underB (yBal c0.yes) c0.bal = true
        · simp only [u2, if_true]
          rw [if_pos ⟨u.symm, by rw [u]; exact u2⟩] at es
          rw [es] at fin ⊢
          refine ix1 _ ?_
          walk_at "ev"
          refine ix2 _ ?_
          walk_at "ev"
          refine ⟨cpow1 (by rw [mc]; omega), ?_⟩
          rw [shlN1, borN]
          exact fin
        · simp only [u2, Bool.false_eq_true, if_false]
          refine ix1 _ ?_
          walk_at "ev"
          refine ix1 _ ?_
          walk_at "ev"
          refine ⟨c0.yes, rfl, ?_⟩
          walk_at "ev"
          refine oEq_bal (a := some z.1) (b := yBal c0.yes) (neg := false) ?_
          walk_at "ev"
          have f := els fun w => u2 (by rw [← u]; exact w.2)
          by_cases w : yBal c0.yes = some z.1
          · simp only [eqc w, decide_true, if_true]
            rw [if_pos w] at f
            refine ix2 _ ?_
            walk_at "ev"
            rw [borN]
            exact f
          · simp only [eqn w, decide_false, Bool.false_eq_true, if_false]
            rw [if_neg w] at f
            exact f
      · simp only [u, decide_false, Bool.false_eq_true, if_false]
        refine ix1 _ ?_
        walk_at "ev"
        refine ix1 _ ?_
        walk_at "ev"
        refine ⟨c0.yes, rfl, ?_⟩
        walk_at "ev"
        refine oEq_bal (a := some z.1) (b := yBal c0.yes) (neg := false) ?_
        walk_at "ev"
        have f := els fun w => u w.1.symm
        by_cases w : yBal c0.yes = some z.1
        · simp only [eqc w, decide_true, if_true]
          rw [if_pos w] at f
          refine ix2 _ ?_
          walk_at "ev"
          rw [borN]
          exact f
        · simp only [eqn w, decide_false, Bool.false_eq_true, if_false]
          rw [if_neg w] at f
          exact f
  have m1 : ((c.up1 b).step1 y v).me = c.me := by
    rw [(step1_same _ _ _).1]
    unfold ChS.up1
    split <;> rfl
  have md := mid _ m1 rfl
  rw [m1] at md
  unfold ChS.up1 at md
  by_cases u : underB c.bal b = true
  · rw [if_pos u] at md
    rw [if_pos u]
    exact md
  · rw [if_neg u] at md
    rw [if_neg u]
    exact md
theorem best_mem {l : List Rpt} {y : Bl × D} (h : bestY l = some y) : ∃ x ∈ l, x.2.2 = some y := by
  have go : ∀ (l : List Rpt) (b : Yes), l.foldl overY b = some y → b = some y ∨ ∃ x ∈ l, x.2.2 = some y := by
    intro l
    induction l with
    | nil => intro b e; exact .inl e
    | cons x l ih =>
      intro b e
      rcases ih _ e with z | ⟨x', hx, z⟩
      · unfold overY at z
        split at z
        · exact .inr ⟨x, by simp, z⟩
        · exact .inl z
      · exact .inr ⟨x', List.mem_cons_of_mem _ hx, z⟩
  rcases go l none h with z | z
  · cases z
  · exact z
theorem seen_ok {hs : List Nat} {c : ChS} (f : Fit hs c) : okE 40 c.seen = true :=
  okE_cc (okE_bal 38 c.bal) (okE_cc (okE_up 38 _ (okE_up 37 _ (okE_yes (n := 35) f.oy))) (okE_cc rfl (okE_cc (okE_up 38 _ (okE_up 37 _ (okE_up 36 _ f.oa))) rfl)))
theorem b__law_receive : ∀ ds s Q W, sp__law_receive ds s Q W → t__law_receive (fun x _ s => W x s) (dEnd Q) (startD N__law_receive.length ds) s := by
  rintro ds s Q W ⟨hs, n, rep, V, R, dc, hd, L, rfl, F, I, H, hh, ok, q⟩
  have big : (1001 : Nat) < lim := by decide
  simp only [t__law_receive, N__law_receive]
  refine seqI fun N h => ?_
  unfold Lt.d
  walk_at "ev"
  walk_at "sq"
  walk_at "ev"
  by_cases g : ((L.c.me : Nat) : Int) = hd
  · simp only [g, decide_true, if_true]
    exact q s rep V R F I
  simp only [g, decide_false, Bool.false_eq_true, if_false]
  obtain ⟨a1, a2, a3⟩ := F.at_ hd hh
  have me := I.me hd hh
  have f := I.ft hd hh
  have five : (R hd).length ≤ 5 := by
    rw [(I.gR hd hh).len H]
    have := List.length_filter_le (fun g => hasR (R hd) g) hs
    have := H.few
    omega
  walk_at "sq"
  walk_at "ev"
  simp only [F.hdc]
  walk_at "ev"
  have el : (dV (hs.map fun h => (((h : Nat) : Int), D.ref (n h)))).length = hs.length := by
    unfold dV
    rw [List.length_map]
    rw [List.length_map]
  rw [el]
  refine law_ix H.nd hh (deref_get F.hdc) ?_
  refine ⟨n hd, rep hd, V hd, rfl, ⟨a1, a2, a3⟩, ?_⟩
  walk_at "ev"
  refine ⟨V hd, hs.length, L.c.bal, L.c.yes, L.c.votes, L.c.agr, by rw [me]; rfl, by rw [me]; exact H.lt hd hh, ?_⟩
  obtain ⟨R', c', ec, er, I2, es⟩ := recv_deed (r := .int L.r) I H hh (F.rr hd hh) ok
  rw [← es]
  walk_at "sq"
  walk_at "ev"
  refine law_ix H.nd hh (deref_get F.hdc) ?_
  have a1' := a1
  unfold ChS.d at a1'
  simp only [deref_get a1']
  refine ⟨trivial, n hd, rep hd, V hd, L.c.me, L.c.bal, L.c.yes, L.c.votes, .int L.r, rfl, ⟨a1, a2, a3⟩, f.vt.lt H, by rw [I.gr hd hh]; exact sum_lt H.nd H.lt, ok.vt.lt H, by rw [me]; exact H.lt hd hh, by rw [F.rr hd hh, List.length_map]; omega, fun s1 r1 T => ?_⟩
  rw [← ec] at T
  have F2 := F.deed hh T er
  obtain ⟨b1, b2, b3⟩ := F2.at_ hd hh
  have f2 := I2.ft hd hh
  rw [upF_eq] at f2
  rw [upF_eq, upF_eq] at b1 b2
  rw [upF_eq] at b3
  have ok2 := seen_ok f2
  walk_at "ev"
  walk_at "sq"
  walk_at "ev"
  refine law_ix H.nd hh (deref_get F2.hdc) ?_
  refine ⟨n hd, r1, c', rfl, ⟨b1, b2, b3⟩, ?_⟩
  walk_at "ev"
  walk_at "sq"
  have ix2 : ∀ P : DK, P (.int c'.votes) s1 → oIx (.v c'.seen) (.v (.int 2)) s1 P := fun P p => p
  walk_at "ev"
  have dz : ∀ x : Int, deref s1 (.v (.int x)) = .int x := fun _ => rfl
  refine ix2 _ ?_
  simp only [dz]
  refine ⟨by decide, ?_⟩
  rw [if_neg (by decide)]
  refine ix2 _ ?_
  simp only [dz]
  refine ⟨by decide, ?_⟩
  rw [if_neg (by decide)]
  subst h
  walk_at "ev"
  show okE 40 c'.seen = true ∧ okE 40 c'.seen = true ∧ Q (.v (.bl (false ^^ eqD c'.seen c'.seen))) s1
  rw [eqD_refl ok2]
  exact ⟨ok2, ok2, q s1 _ _ _ F2 I2⟩
theorem oSorted_hs {x : Sl} {s : Store} {Q : DK} {hs : List Nat} {f : Nat → D} (hx : deref s x = .dK (dV (hs.map fun h => (((h : Nat) : Int), f h)))) (H : Hs hs) (q : Q (.lst (nl hs)) s) : oSorted [x] s Q := by
  unfold oSorted
  dsimp only
  rw [hx, unlk_dK]
  dsimp only
  rw [keysI_dV]
  have em : (hs.map fun h => (((h : Nat) : Int), f h)).map (·.1) = hs.map fun h : Nat => (h : Int) := by rw [List.map_map]; rfl
  rw [em]
  have h5 := H.few
  refine ⟨by rw [List.length_map]; omega, fun ys h1 h2 => ?_⟩
  have e : ys = hs.map fun h : Nat => (h : Int) := srt_uniq h1 h2 (List.pairwise_map.mpr (H.up.imp fun z => by omega))
  rw [e, List.map_map]
  exact q
theorem b__law_propose : ∀ ds s Q W, sp__law_propose ds s Q W → t__law_propose (fun x _ s => W x s) (dEnd Q) (startD N__law_propose.length ds) s := by
  rintro ds s Q W ⟨hs, n, rep, V, R, dc, hd, xs, cell, rfl, hx, hb, F, I, H, hh, q⟩
  have big : (1001 : Nat) < lim := by decide
  have ix := xs_ix hx hb
  simp only [t__law_propose, N__law_propose, l1__law_propose]
  refine seqI fun N h => ?_
  walk_at "ev"
  walk_at "sq"
  walk_at "ev"
  simp only [F.hdc]
  walk_at "ev"
  have el : (dV (hs.map fun h => (((h : Nat) : Int), D.ref (n h)))).length = hs.length := by
    unfold dV
    rw [List.length_map]
    rw [List.length_map]
  have h5 := H.few
  rw [el]
  have five : (R hd).length ≤ 5 := by
    rw [(I.gR hd hh).len H]
    have := List.length_filter_le (fun g => hasR (R hd) g) hs
    omega
  refine ⟨by omega, by omega, fun i σ s' => s' = s ∧ ∃ (d : Nat) (y : Option Sl), σ = [some (.v (.ref dc)), some (.v (.int hd)), some (.v (.lst (xs.map .int))), some (.v (.int cell)), some (.v (.int d)), y, none], ⟨rfl, 0, none, rfl⟩, ?_, ?_⟩
  · rintro i dd σ s' e ⟨rfl, d, y, rfl⟩
    obtain ⟨hi, rfl⟩ := rg_get e
    have hi : i < hs.length := by omega
    have e2 : Builtin.bitOr (d : Int) (1 * 2 ^ ((hs[i] : Nat) : Int).toNat) = ((d ||| 1 <<< hs[i] : Nat) : Int) := by rw [shlN1, borN]
    have h63 := H.lt _ (List.getElem_mem hi)
    refine ⟨trivial, ?_⟩
    walk_at "ev"
    refine ix 2 _ _ (by decide) fun x2 _ _ => ?_
    walk_at "ev"
    refine ⟨cmuL (by decide) (by decide), cdiv (by omega) (by omega), ?_⟩
    by_cases z2 : x2 / (1 + 7 * (i : Int)) % 3 = 0
    · simp only [z2, decide_true, Bool.false_xor, if_true]
      refine oSorted_hs (deref_get F.hdc) H ?_
      refine oIx_lst (k := i) (d := .int (hs[i] : Nat)) (by unfold nl; rw [List.getElem?_map, List.getElem?_eq_getElem hi]; rfl) ?_
      walk_at "ev"
      refine ⟨cpow1 (by omega), d ||| 1 <<< hs[i], some (.v (.int i)), ?_⟩
      rw [e2]
    · simp only [z2, decide_false, Bool.false_xor, Bool.false_eq_true, if_false]
      exact ⟨d, _, rfl⟩
  · rintro σ s' ⟨rfl, d, y, rfl⟩
    refine ⟨trivial, ?_⟩
    dsimp only
    walk_at "sq"
    have go : ∀ plan : D, okE 36 plan = true → N [some (.v (.ref dc)), some (.v (.int hd)), some (.v (.lst (xs.map .int))), some (.v (.int cell)), some (.v (.int d)), y, some (.v plan)] s' := by
      intro plan okp
      subst h
      obtain ⟨a1, a2, a3⟩ := F.at_ hd hh
      have a1' := a1
      unfold ChS.d at a1'
      have me := I.me hd hh
      obtain ⟨so, hso, pso⟩ := srt_rex (R hd) (I.gR hd hh).nd
      have lso : so.length ≤ 5 := by rw [hso.length_eq]; exact five
      unfold dMeM aLen
      walk_at "ev"
      refine law_ix H.nd hh (deref_get F.hdc) ?_
      simp only [deref_get a1']
      have fin : ∀ (pl : D) (s2 : Store), okE 36 pl = true → ChTo s' s2 (n hd) (rep hd) (rep hd) ((V hd).prop pl) → Q (.v .non) s2 := fun pl s2 okl T => by
        have F2 := F.deed (R' := R hd) hh T ((prop_same (V hd) pl).1.trans (F.rr hd hh))
        rw [upF_self, upF_self] at F2
        exact q s2 rep _ R F2 (prop_deed I hh okl)
      refine ⟨trivial, n hd, rep hd, V hd, d, R hd, so, rfl, ⟨a1, a2, a3⟩, by rw [I.gr hd hh]; exact sum_lt H.nd H.lt, by rw [me]; exact H.lt hd hh, F.rr hd hh, hso, pso, by omega, fun _ => q s' rep V R F I, fun _ y hy s2 T => ?_, fun _ hn Q' k' => ?_⟩
      · refine fin y.2 s2 ?_ T
        obtain ⟨x, hx, e⟩ := best_mem hy
        exact (I.gR hd hh).yok x (hso.mem_iff.mp hx) y e
      · exact ⟨plan, _, rfl, rfl, k' _ _ ⟨a1, a2, a3⟩ fun s2 T => fin plan s2 okp T⟩
    walk_at "ev"
    refine ⟨by decide, by decide, ?_, by decide, ix 4 _ _ (by decide) fun x4 _ _ => ?_⟩
    · have := H.lt hd hh
      rw [Int.natAbs_natCast]
      exact Nat.lt_of_le_of_lt (Nat.log2_le_self _) (by omega)
    walk_at "ev"
    refine oIx_in (by omega) (by show x4 % 5 < 5; omega) fun d hd4 => go d ?_
    simp only [List.mem_cons, or_false, List.not_mem_nil] at hd4
    rcases hd4 with rfl | rfl | rfl | rfl | rfl
    · exact okE_int 36 cell
    · exact okE_str 36 (strOk_of _)
    · rfl
    · rfl
    · exact okE_str 36 (strOk_of _)
theorem oIx_back {ml : List Lt} {i : Int} {s : Store} {Q : DK} (h0 : 0 ≤ i) (h1 : i < ml.length) (q : ∀ L ∈ ml, Q (Lt.d L) s) : oIx (.o (.lst (ml.map Lt.d))) (.v (.int (-1 - i))) s Q := by
  have k : ((-1 - i) + ml.length).toNat < ml.length := by omega
  have e : atI (ml.map Lt.d) (-1 - i) = some (ml[((-1 - i) + ml.length).toNat]).d := by
    rw [atI_lit, List.length_map]
    rw [if_neg (by omega), if_pos (by omega), List.getElem?_map, List.getElem?_eq_getElem k]
    rfl
  show optK (atI (ml.map Lt.d) (-1 - i)) Q s
  rw [e]
  exact q _ (List.getElem_mem k)
theorem msg_ok {c : ChS} (r : Int) (h1 : okE 36 c.agr = true) (h2 : ∀ y, c.yes = some y → okE 36 y.2 = true) : okE 39 (Lt.d ⟨c, r⟩) = true := by
  have oy : okE 37 (yesD c.yes) = true := okE_yes (n := 35) h2
  have o1 : okE 38 (c.msg (.int r)) = true := okE_cc rfl (okE_cc (okE_bal 36 c.bal) (okE_cc oy (okE_cc rfl (okE_cc rfl rfl))))
  have o2 : okE 38 c.seen = true := okE_cc (okE_bal 36 c.bal) (okE_cc oy (okE_cc rfl (okE_cc (okE_up 36 _ h1) rfl)))
  exact okE_cc rfl (okE_cc o1 (okE_cc o2 rfl))
theorem b_law : ∀ ds s Q, sp_law ds s Q (fun _ _ => False) → t_law (fun _ _ _ => False) (dEnd Q) (startD N_law.length ds) s := by
  rintro ds s Q ⟨ns, rfl, hl, rfl, q⟩
  have big : (1001 : Nat) < lim := by decide
  simp only [t_law, N_law]
  refine seqI fun N h => ?_
  walk_at "ev"
  refine ⟨ns, 0, rfl, by decide, fun c0 => ?_⟩
  walk_at "ev"
  refine ⟨c0, rfl, fun hs H => ?_⟩
  walk_at "ev"
  have h5 := H.few
  walk_at "sq"
  walk_at "ev"
  refine lc_mapTo (s := []) (src := fun _ => True) (fun n : Nat => D.int n) (fun n => D.int ((2 ^ n : Nat) : Int)) trivial hs rfl (by omega) ?_ ?_
  · intro a ha K k
    walk_at "ev"
    refine ⟨cpow1 (by have := H.lt a ha; omega), ?_⟩
    rw [shl_int]
    exact k
  have es : (hs.map fun n : Nat => D.int ((2 ^ n : Nat) : Int)) = (hs.map fun n : Nat => ((2 ^ n : Nat) : Int)).map D.int := by rw [List.map_map]; rfl
  rw [es]
  refine oSum_mk ?_
  rw [sum_int]
  have eg : (hs.map fun n => 2 ^ n).sum = grp hs := rfl
  rw [eg]
  walk_at "sq"
  walk_at "ev"
  walk_at "sq"
  walk_at "ev"
  refine ⟨fun i σ s => i ≤ hs.length ∧ ∃ (n rep : Nat → Nat) (y : Option Sl), σ = [some (.v (.ro (ns.map .int))), some (.v (.lst (nl hs))), some (.v (.int (grp hs))), y, some (.v (.ref 0)), none, none, none, none, none, none] ∧ Fm (hs.take i) s n rep (fun h => ⟨h, grp hs, none, none, 0, [], .non⟩) (fun _ => []) 0, ⟨by omega, fun _ => 0, fun _ => 0, none, rfl, ?_⟩, ?_, ?_⟩
  · exact ⟨nofun, nofun, nofun, nofun, nofun, rfl, nofun⟩
  · rintro i d σ s ed ⟨hi, n, rep, y, rfl, F⟩
    obtain ⟨x, e1, rfl⟩ := map_get ed
    have hi : i < hs.length := (List.getElem?_eq_some_iff.mp e1).1
    refine ⟨trivial, ?_⟩
    simp only [l1_law]
    walk_at "ev"
    have l0 := (List.getElem?_eq_some_iff.mp F.hdc).1
    have ltk : ((hs.take i).map fun h => (((h : Nat) : Int), D.ref (n h))).length < lim := by
      rw [List.length_map, List.length_take]
      omega
    have nx : x ∉ hs.take i := fun z => by
      have nd := H.nd
      have e := List.take_append_drop i hs
      have e2 := List.drop_eq_getElem_cons hi
      rw [(List.getElem?_eq_some_iff.mp e1).2] at e2
      rw [← e, e2, List.nodup_append] at nd
      exact nd.2.2 x z x (by simp) rfl
    have nk : ∀ p ∈ ((hs.take i).map fun h => (((h : Nat) : Int), D.ref (n h))), p.1 ≠ ((x : Nat) : Int) := fun p hp e => by
      obtain ⟨g, hg, rfl⟩ := List.mem_map.mp hp
      have e : ((g : Nat) : Int) = x := e
      exact nx ((show g = x by omega) ▸ hg)
    refine ⟨s.length, x, grp hs, rfl, getc _ _, rfl, ?_⟩
    obtain ⟨c, ec⟩ : ∃ c : ChS, c = ⟨x, grp hs, none, none, 0, [], .non⟩ := ⟨_, rfl⟩
    rw [← ec]
    have ll : (s ++ [D.ins 0 []] ++ [D.dK (dV [])]).length = s.length + 2 := by simp
    have zo : ∀ m, m < s.length → ((s ++ [D.ins 0 []] ++ [D.dK (dV [])]).set s.length (c.d (s ++ [D.ins 0 []]).length))[m]? = s[m]? := fun m hm => by
      rw [List.getElem?_set_ne (by omega), List.append_assoc, List.getElem?_append_left hm]
    have zn : ((s ++ [D.ins 0 []] ++ [D.dK (dV [])]).set s.length (c.d (s ++ [D.ins 0 []]).length))[s.length]? = some (c.d (s.length + 1)) := by
      rw [List.getElem?_set_self (by omega)]
      simp
    have zr : ((s ++ [D.ins 0 []] ++ [D.dK (dV [])]).set s.length (c.d (s ++ [D.ins 0 []]).length))[s.length + 1]? = some (.dK (dV [])) := by
      rw [List.getElem?_set_ne (by omega)]
      have := getc (s ++ [D.ins 0 []]) (D.dK (dV []))
      rw [List.length_append] at this
      exact this
    have zl : ((s ++ [D.ins 0 []] ++ [D.dK (dV [])]).set s.length (c.d (s ++ [D.ins 0 []]).length)).length = s.length + 2 := by rw [List.length_set, ll]
    generalize ((s ++ [D.ins 0 []] ++ [D.dK (dV [])]).set s.length (c.d (s ++ [D.ins 0 []]).length)) = s3 at zo zn zr zl ⊢
    have z0 := (zo 0 l0).trans F.hdc
    rw [z0]
    dsimp only
    rw [setIt_dV ltk, put_new nk]
    refine ⟨hi, upF n x s.length, upF rep x (s.length + 1), some (.v (.int x)), rfl, ?_⟩
    rw [take_app e1]
    refine F.more nx (fun m h1 h2 => ?_) ⟨?_, ?_, by omega⟩ rfl (List.getElem?_set_self (by omega))
    · rw [List.getElem?_set_ne (by omega), zo m h1]
    · rw [List.getElem?_set_ne (by omega), zn, ec]
    · rw [List.getElem?_set_ne (by omega), zr]
  · rintro σ s ⟨hi, n, rep, y, rfl, F⟩
    unfold nl at F
    rw [List.length_map, List.take_length] at F
    refine ⟨trivial, ?_⟩
    have I : Iv hs (fun h => ⟨h, grp hs, none, none, 0, [], .non⟩) (fun _ => []) := ⟨fun _ _ => rfl, fun _ _ => rfl, fun h hh => ⟨hh, fun i e => absurd (show (0 : Nat).testBit i = true from e) (by rw [Nat.zero_testBit]; exact Bool.false_ne_true), fun _ e => (nomatch e), rfl⟩, fun _ _ _ e => (nomatch e), fun _ _ => .nil hs⟩
    generalize (fun h => (⟨h, grp hs, none, none, 0, [], .non⟩ : ChS)) = V at F I
    generalize (fun _ : Nat => ([] : List Rpt)) = R at F I
    clear hi
    show N _ s
    walk_at "sq"
    walk_at "ev"
    refine ⟨by decide, ?_⟩
    walk_at "sq"
    walk_at "ev"
    simp only [oSlA, deref, cut_map]
    have cl : (cut ns (some 1) (some 51)).length ≤ 63 := Nat.le_trans (cut_len ..) hl
    refine ⟨fun i σ s => i ≤ 63 ∧ ∃ (rep : Nat → Nat) (V : Nat → ChS) (R : Nat → List Rpt) (ml : List Lt) (y3 y6 y7 y8 y9 y10 : Option Sl), σ = [some (.v (.ro (ns.map .int))), some (.v (.lst (nl hs))), some (.v (.int (grp hs))), y3, some (.v (.ref 0)), some (.o (.lst (ml.map Lt.d))), y6, y7, y8, y9, y10] ∧ Fm hs s n rep V R 0 ∧ Iv hs V R ∧ (∀ L ∈ ml, Fit hs L.c) ∧ ml.length ≤ i, ⟨by omega, rep, V, R, [], _, _, _, _, _, _, rfl, F, I, nofun, Nat.le_refl _⟩, ?_, ?_⟩
    · clear F I R V rep y s
      rintro i d σ s ed ⟨hi, rep, V, R, ml, y3, y6, y7, y8, y9, y10, rfl, F, I, M, lm⟩
      obtain ⟨cell, e1, rfl⟩ := map_get ed
      have hi : i < 63 := Nat.lt_of_lt_of_le (List.getElem?_eq_some_iff.mp e1).1 cl
      refine ⟨trivial, ?_⟩
      simp only [l2_law, l3_law]
      refine seqI fun N h => ?_
      walk_at "ev"
      refine ⟨cell, 6, rfl, by decide, by decide, fun xs hx hb => ?_⟩
      have ix := xs_ix hx hb
      walk_at "ev"
      walk_at "sq"
      walk_at "ev"
      refine ix 0 _ _ (by decide) fun x0 _ _ => ?_
      walk_at "ev"
      have hln : (nl hs).length = hs.length := by unfold nl; rw [List.length_map]
      have hpos : 0 < hs.length := List.length_pos_iff.mpr H.some
      rw [hln]
      refine ⟨by omega, oIx_in (Int.emod_nonneg _ (by omega)) (by rw [hln]; exact Int.emod_lt_of_pos _ (by omega)) fun d hdm => ?_⟩
      obtain ⟨hd, hh, rfl⟩ : ∃ g ∈ hs, d = .int (g : Nat) := by
        obtain ⟨g, hg, e⟩ := List.mem_map.mp (show d ∈ hs.map fun n : Nat => D.int n from hdm)
        exact ⟨g, hg, e.symm⟩
      walk_at "sq"
      walk_at "ev"
      refine ix 1 _ _ (by decide) fun x1 _ _ => ?_
      walk_at "ev"
      have me := I.me hd hh
      obtain ⟨a1, a2, a3⟩ := F.at_ hd hh
      have a1' := a1
      unfold ChS.d at a1'
      subst h
      refine ifI fun T U hT hU => ?_
      walk_at "ev"
      by_cases z0 : x1 % 10 = 0
      · simp only [z0, decide_true, if_true]
        subst hT
        walk_at "ev"
        refine law_ix H.nd hh (deref_get F.hdc) ?_
        simp only [deref_get a1']
        refine ⟨trivial, ix 2 _ _ (by decide) fun x2 _ _ => ?_⟩
        walk_at "ev"
        refine ⟨⟨by decide, by decide, by decide⟩, by decide, ix 3 _ _ (by decide) fun x3 _ _ => ?_⟩
        walk_at "ev"
        refine oIx_in (by omega) (by show x3 % 3 < 3; omega) fun d hd3 => ?_
        obtain ⟨m, hm, rfl⟩ : ∃ m : Int, 0 < m ∧ d = .int m := by
          simp only [List.mem_cons, or_false, List.not_mem_nil] at hd3
          rcases hd3 with rfl | rfl | rfl
          all_goals exact ⟨_, by decide, rfl⟩
        refine ⟨hm, n hd, rep hd, V hd, 1 + x2 % m, .int cell, rfl, ⟨a1, a2, a3⟩, fun s' r' T => ?_⟩
        obtain ⟨er, I2⟩ := begin_deed (more := 1 + x2 % m) (r := .int cell) I hh
        exact ⟨hi, _, _, _, ml, _, _, _, _, _, _, rfl, F.deed hh T er, I2, M, by omega⟩
      simp only [z0, decide_false, Bool.false_eq_true, if_false]
      subst hU
      refine ifI fun T U hT hU => ?_
      walk_at "ev"
      by_cases z1 : x1 % 10 < 3
      · simp only [z1, decide_true, if_true]
        subst hT
        walk_at "ev"
        refine ⟨hs, n, rep, V, R, 0, hd, xs, cell, rfl, hx, hb, F, I, H, hh, fun s' rep' V' R' F' I' => ?_⟩
        exact ⟨hi, rep', V', R', ml, _, _, _, _, _, _, rfl, F', I', M, by omega⟩
      simp only [z1, decide_false, Bool.false_eq_true, if_false]
      subst hU
      have okm : okE 40 (.lst (ml.map Lt.d)) = true := okEs_map fun L hL => msg_ok L.r (M L hL).oa (M L hL).oy
      have eL : D.tup [.int hd, (V hd).msg (.int cell), (V hd).seen] = Lt.d ⟨V hd, cell⟩ := by
        unfold Lt.d
        rw [me]
      have f := I.ft hd hh
      refine ifI fun T U hT hU => ?_
      walk_at "ev"
      have tells : ∀ D0 : DEnds, (∀ (s' : Store), s' = s → D0.nx [some (.v (.ro (ns.map .int))), some (.v (.lst (nl hs))), some (.v (.int (grp hs))), some (.v (.int hd)), some (.v (.ref 0)), some (.o (.lst ((ml ++ [(⟨V hd, cell⟩ : Lt)]).map Lt.d))), some (.v (.int cell)), some (.v (.lst (xs.map .int))), some (.v (.int (x1 % 10))), y9, y10] s') → T D0 [some (.v (.ro (ns.map .int))), some (.v (.lst (nl hs))), some (.v (.int (grp hs))), some (.v (.int hd)), some (.v (.ref 0)), some (.o (.lst (ml.map Lt.d))), some (.v (.int cell)), some (.v (.lst (xs.map .int))), some (.v (.int (x1 % 10))), y9, y10] s := by
        intro D0 k
        subst hT
        walk_at "ev"
        refine law_ix H.nd hh (deref_get F.hdc) ?_
        simp only [deref_get a1']
        refine ⟨trivial, n hd, rep hd, V hd, .int cell, rfl, ⟨a1, a2, a3⟩, ?_⟩
        walk_at "ev"
        refine law_ix H.nd hh (deref_get F.hdc) ?_
        refine ⟨n hd, rep hd, V hd, rfl, ⟨a1, a2, a3⟩, ?_⟩
        walk_at "ev"
        refine ⟨by decide, by rw [List.length_map]; omega, ?_⟩
        have em : ml.map Lt.d ++ [D.tup [.int hd, (V hd).msg (.int cell), (V hd).seen]] = (ml ++ [(⟨V hd, cell⟩ : Lt)]).map Lt.d := by
          rw [eL, List.map_append]
          rfl
        rw [em]
        exact k s rfl
      have fin : ∀ s', s' = s → i + 1 ≤ 63 ∧ ∃ (rep : Nat → Nat) (V' : Nat → ChS) (R : Nat → List Rpt) (ml' : List Lt) (y3 y6 y7 y8 y9' y10' : Option Sl), [some (.v (.ro (ns.map .int))), some (.v (.lst (nl hs))), some (.v (.int (grp hs))), some (.v (.int hd)), some (.v (.ref 0)), some (.o (.lst ((ml ++ [(⟨V hd, cell⟩ : Lt)]).map Lt.d))), some (.v (.int cell)), some (.v (.lst (xs.map .int))), some (.v (.int (x1 % 10))), y9, y10] = [some (.v (.ro (ns.map .int))), some (.v (.lst (nl hs))), some (.v (.int (grp hs))), y3, some (.v (.ref 0)), some (.o (.lst (ml'.map Lt.d))), y6, y7, y8, y9', y10'] ∧ Fm hs s' n rep V' R 0 ∧ Iv hs V' R ∧ (∀ L ∈ ml', Fit hs L.c) ∧ ml'.length ≤ i + 1 := fun s' e => by
        subst e
        refine ⟨hi, rep, V, R, _, _, _, _, _, _, _, rfl, F, I, fun x hx => ?_, by rw [List.length_append]; exact Nat.succ_le_succ lm⟩
        rcases (List.mem_append).1 hx with z | z
        · exact M x z
        · rw [List.mem_singleton.mp z]; exact f
      by_cases z2 : x1 % 10 < 5
      · simp only [z2, decide_true, if_true]
        exact tells _ fin
      simp only [z2, decide_false, Bool.false_eq_true, if_false]
      refine ⟨by decide, okm, by decide, ?_⟩
      rw [eqD_nilR0]
      by_cases z3 : ml = []
      · have z4 : (ml.map Lt.d).isEmpty = true := by rw [z3]; rfl
        rw [z4]
        simp only [if_true]
        exact tells _ fin
      have z4 : (ml.map Lt.d).isEmpty = false := by simpa using z3
      rw [z4]
      simp only [if_false, Bool.false_eq_true]
      clear tells fin
      subst hU
      refine ifI fun T U hT hU => ?_
      walk_at "ev"
      by_cases z5 : x1 % 10 < 8
      · simp only [z5, decide_true, if_true]
        subst hT
        walk_at "ev"
        refine ix 2 _ _ (by decide) fun x2 _ _ => ?_
        walk_at "ev"
        have ml0 : 0 < ml.length := List.length_pos_iff.mpr z3
        have mll : (ml.map Lt.d).length = ml.length := List.length_map ..
        rw [mll]
        refine ⟨by omega, oIx_back (Int.emod_nonneg _ (by omega)) (Int.emod_lt_of_pos _ (by omega)) fun L hL => ?_⟩
        refine ⟨hs, n, rep, V, R, 0, hd, L, rfl, F, I, H, hh, M L hL, fun s' rep' V' R' F' I' => ?_⟩
        walk_at "ev"
        exact ⟨hi, rep', V', R', ml, _, _, _, _, _, _, rfl, F', I', M, by omega⟩
      simp only [z5, decide_false, Bool.false_eq_true, if_false]
      subst hU
      refine seqI fun N2 h2 => ?_
      walk_at "ev"
      refine law_ix H.nd hh (deref_get F.hdc) ?_
      simp only [deref_get a1']
      refine ⟨trivial, n hd, rep hd, V hd, .int cell, rfl, ⟨a1, a2, a3⟩, ?_⟩
      walk_at "ev"
      refine law_ix H.nd hh (deref_get F.hdc) ?_
      refine ⟨n hd, rep hd, V hd, rfl, ⟨a1, a2, a3⟩, ?_⟩
      walk_at "ev"
      refine ⟨by decide, ?_⟩
      rw [eL]
      have fL : Fit hs (Lt.c ⟨V hd, cell⟩) := f
      generalize (⟨V hd, cell⟩ : Lt) = L at fL
      subst h2
      walk_at "ev"
      refine ⟨fun j σ s => ∃ (rep' : Nat → Nat) (V' : Nat → ChS) (R' : Nat → List Rpt) (y10 : Option Sl), σ = [some (.v (.ro (ns.map .int))), some (.v (.lst (nl hs))), some (.v (.int (grp hs))), some (.v (.int hd)), some (.v (.ref 0)), some (.o (.lst (ml.map Lt.d))), some (.v (.int cell)), some (.v (.lst (xs.map .int))), some (.v (.int (x1 % 10))), some (.v L.d), y10] ∧ Fm hs s n rep' V' R' 0 ∧ Iv hs V' R', ⟨rep, V, R, y10, rfl, F, I⟩, ?_, ?_⟩
      · clear F I a1 a1' a2 a3 me f
        rintro j d σ s ed ⟨rep, V, R, y10, rfl, F, I⟩
        obtain ⟨ot, e1, rfl⟩ := map_get ed
        have ho : ot ∈ hs := List.mem_of_getElem? e1
        refine ⟨trivial, ?_⟩
        walk_at "ev"
        refine ⟨hs, n, rep, V, R, 0, ot, L, rfl, F, I, H, ho, fL, fun s' rep' V' R' F' I' => ?_⟩
        walk_at "ev"
        exact ⟨rep', V', R', _, rfl, F', I'⟩
      · rintro σ s ⟨rep, V, R, y10, rfl, F, I⟩
        exact ⟨trivial, hi, rep, V, R, ml, _, _, _, _, _, _, rfl, F, I, M, by omega⟩
    · rintro σ s ⟨_, rep, V, R, ml, y3, y6, y7, y8, y9, y10, rfl, _⟩
      refine ⟨trivial, ?_⟩
      subst h
      walk_at "ev"
      exact q s
theorem law_noexc {ds s Q W} (h : sp_law ds s Q W) : sp_law ds s Q fun _ _ => False := h
theorem start_law {ns : List Int} (h : ns.length ≤ 63) : sp_law [.ro (ns.map .int)] [] (fun r _ => r = .v (.bl true)) fun _ _ => False := ⟨ns, rfl, h, rfl, fun _ => rfl⟩
end Law
/-! generated by gen.py: facts, derivations -/
namespace Law
open PySem L2 G
structure Fds where
  (fd_has fd_hands_of fd_many fd_more_than_half fd_under fd_ballot_of fd_Change_init fd_Change_begin fd_Change_message fd_Change_receive fd_Change_receive_yes fd_Change_unplanned fd_Change_settle fd_Change_enough fd_Change_propose fd_Change_settled fd__law_cell_at fd__law_stream fd__law_hands fd__law_under fd__law_ballot fd__law_many fd__law_due fd__law_seen fd__law_receive fd__law_make fd__law_propose fd_law : FuncData)
structure Facts (K : PySem.W.Frag) (mg : Str → Option Value) (F : Fds) : Prop where
  d_has : FunD K "has" "has" (defArgs s_has) (defBody s_has) (defScope s_has) [] [] (He.fAd K ("has", none)) F.fd_has
  m_has : mg "has" = some (.ref (He.fAd K ("has", none)))
  d_hands_of : FunD K "hands_of" "hands_of" (defArgs s_hands_of) (defBody s_hands_of) (defScope s_hands_of) [] [] (He.fAd K ("hands_of", none)) F.fd_hands_of
  m_hands_of : mg "hands_of" = some (.ref (He.fAd K ("hands_of", none)))
  d_many : FunD K "many" "many" (defArgs s_many) (defBody s_many) (defScope s_many) [] [] (He.fAd K ("many", none)) F.fd_many
  m_many : mg "many" = some (.ref (He.fAd K ("many", none)))
  d_more_than_half : FunD K "more_than_half" "more_than_half" (defArgs s_more_than_half) (defBody s_more_than_half) (defScope s_more_than_half) [] [] (He.fAd K ("more_than_half", none)) F.fd_more_than_half
  m_more_than_half : mg "more_than_half" = some (.ref (He.fAd K ("more_than_half", none)))
  d_under : FunD K "under" "under" (defArgs s_under) (defBody s_under) (defScope s_under) [] [] (He.fAd K ("under", none)) F.fd_under
  m_under : mg "under" = some (.ref (He.fAd K ("under", none)))
  d_ballot_of : FunD K "ballot_of" "ballot_of" (defArgs s_ballot_of) (defBody s_ballot_of) (defScope s_ballot_of) [] [] (He.fAd K ("ballot_of", none)) F.fd_ballot_of
  m_ballot_of : mg "ballot_of" = some (.ref (He.fAd K ("ballot_of", none)))
  d_Change_init : FunD K "__init__" "Change.__init__" (defArgs s_Change_init) (defBody s_Change_init) (defScope s_Change_init) [] [] (He.fAd K ("Change", some "__init__")) F.fd_Change_init
  d_Change_begin : FunD K "begin" "Change.begin" (defArgs s_Change_begin) (defBody s_Change_begin) (defScope s_Change_begin) [] [] (He.fAd K ("Change", some "begin")) F.fd_Change_begin
  d_Change_message : FunD K "message" "Change.message" (defArgs s_Change_message) (defBody s_Change_message) (defScope s_Change_message) [] [] (He.fAd K ("Change", some "message")) F.fd_Change_message
  d_Change_receive : FunD K "receive" "Change.receive" (defArgs s_Change_receive) (defBody s_Change_receive) (defScope s_Change_receive) [] [] (He.fAd K ("Change", some "receive")) F.fd_Change_receive
  d_Change_receive_yes : FunD K "receive_yes" "Change.receive_yes" (defArgs s_Change_receive_yes) (defBody s_Change_receive_yes) (defScope s_Change_receive_yes) [] [] (He.fAd K ("Change", some "receive_yes")) F.fd_Change_receive_yes
  d_Change_unplanned : FunD K "unplanned" "Change.unplanned" (defArgs s_Change_unplanned) (defBody s_Change_unplanned) (defScope s_Change_unplanned) [] [] (He.fAd K ("Change", some "unplanned")) F.fd_Change_unplanned
  d_Change_settle : FunD K "settle" "Change.settle" (defArgs s_Change_settle) (defBody s_Change_settle) (defScope s_Change_settle) [] [] (He.fAd K ("Change", some "settle")) F.fd_Change_settle
  d_Change_enough : FunD K "enough" "Change.enough" (defArgs s_Change_enough) (defBody s_Change_enough) (defScope s_Change_enough) [] [] (He.fAd K ("Change", some "enough")) F.fd_Change_enough
  d_Change_propose : FunD K "propose" "Change.propose" (defArgs s_Change_propose) (defBody s_Change_propose) (defScope s_Change_propose) [] [] (He.fAd K ("Change", some "propose")) F.fd_Change_propose
  d_Change_settled : FunD K "settled" "Change.settled" (defArgs s_Change_settled) (defBody s_Change_settled) (defScope s_Change_settled) [] [] (He.fAd K ("Change", some "settled")) F.fd_Change_settled
  d__law_cell_at : FunD K "_law_cell_at" "_law_cell_at" (defArgs s__law_cell_at) (defBody s__law_cell_at) (defScope s__law_cell_at) [] [] (He.fAd K ("_law_cell_at", none)) F.fd__law_cell_at
  m__law_cell_at : mg "_law_cell_at" = some (.ref (He.fAd K ("_law_cell_at", none)))
  d__law_stream : FunD K "_law_stream" "_law_stream" (defArgs s__law_stream) (defBody s__law_stream) (defScope s__law_stream) [] [] (He.fAd K ("_law_stream", none)) F.fd__law_stream
  m__law_stream : mg "_law_stream" = some (.ref (He.fAd K ("_law_stream", none)))
  d__law_hands : FunD K "_law_hands" "_law_hands" (defArgs s__law_hands) (defBody s__law_hands) (defScope s__law_hands) [] [] (He.fAd K ("_law_hands", none)) F.fd__law_hands
  m__law_hands : mg "_law_hands" = some (.ref (He.fAd K ("_law_hands", none)))
  d__law_under : FunD K "_law_under" "_law_under" (defArgs s__law_under) (defBody s__law_under) (defScope s__law_under) [] [] (He.fAd K ("_law_under", none)) F.fd__law_under
  m__law_under : mg "_law_under" = some (.ref (He.fAd K ("_law_under", none)))
  d__law_ballot : FunD K "_law_ballot" "_law_ballot" (defArgs s__law_ballot) (defBody s__law_ballot) (defScope s__law_ballot) [] [] (He.fAd K ("_law_ballot", none)) F.fd__law_ballot
  m__law_ballot : mg "_law_ballot" = some (.ref (He.fAd K ("_law_ballot", none)))
  d__law_many : FunD K "_law_many" "_law_many" (defArgs s__law_many) (defBody s__law_many) (defScope s__law_many) [] [] (He.fAd K ("_law_many", none)) F.fd__law_many
  m__law_many : mg "_law_many" = some (.ref (He.fAd K ("_law_many", none)))
  d__law_due : FunD K "_law_due" "_law_due" (defArgs s__law_due) (defBody s__law_due) (defScope s__law_due) [] [] (He.fAd K ("_law_due", none)) F.fd__law_due
  m__law_due : mg "_law_due" = some (.ref (He.fAd K ("_law_due", none)))
  d__law_seen : FunD K "_law_seen" "_law_seen" (defArgs s__law_seen) (defBody s__law_seen) (defScope s__law_seen) [] [] (He.fAd K ("_law_seen", none)) F.fd__law_seen
  m__law_seen : mg "_law_seen" = some (.ref (He.fAd K ("_law_seen", none)))
  d__law_receive : FunD K "_law_receive" "_law_receive" (defArgs s__law_receive) (defBody s__law_receive) (defScope s__law_receive) [] [] (He.fAd K ("_law_receive", none)) F.fd__law_receive
  m__law_receive : mg "_law_receive" = some (.ref (He.fAd K ("_law_receive", none)))
  d__law_make : FunD K "_law_make" "_law_make" (defArgs s__law_make) (defBody s__law_make) (defScope s__law_make) [] [] (He.fAd K ("_law_make", none)) F.fd__law_make
  m__law_make : mg "_law_make" = some (.ref (He.fAd K ("_law_make", none)))
  d__law_propose : FunD K "_law_propose" "_law_propose" (defArgs s__law_propose) (defBody s__law_propose) (defScope s__law_propose) [] [] (He.fAd K ("_law_propose", none)) F.fd__law_propose
  m__law_propose : mg "_law_propose" = some (.ref (He.fAd K ("_law_propose", none)))
  d_law : FunD K "law" "law" (defArgs s_law) (defBody s_law) (defScope s_law) [] [] (He.fAd K ("law", none)) F.fd_law
  f_bool : mg "bool" = none
  f_int : mg "int" = none
  f_isinstance : mg "isinstance" = none
  f_len : mg "len" = none
  f_list : mg "list" = none
  f_range : mg "range" = none
  f_sorted : mg "sorted" = none
  f_str : mg "str" = none
  f_sum : mg "sum" = none
  g_Change : mg "Change" = some (.ref (He.ga K "Change"))
  cl_Change : Cls K (He.ga K "Change")
  na_Change_me : NoAttr K (He.ga K "Change") "me"
  na_Change_hands : NoAttr K (He.ga K "Change") "hands"
  na_Change_ballot : NoAttr K (He.ga K "Change") "ballot"
  na_Change_yes : NoAttr K (He.ga K "Change") "yes"
  na_Change_votes : NoAttr K (He.ga K "Change") "votes"
  na_Change_reports : NoAttr K (He.ga K "Change") "reports"
  na_Change_agreed : NoAttr K (He.ga K "Change") "agreed"
  me_Change_begin : Meth K (He.ga K "Change") "begin" (He.ma K (He.ga K "Change") "begin")
  me_Change_enough : Meth K (He.ga K "Change") "enough" (He.ma K (He.ga K "Change") "enough")
  me_Change_message : Meth K (He.ga K "Change") "message" (He.ma K (He.ga K "Change") "message")
  me_Change_propose : Meth K (He.ga K "Change") "propose" (He.ma K (He.ga K "Change") "propose")
  me_Change_receive : Meth K (He.ga K "Change") "receive" (He.ma K (He.ga K "Change") "receive")
  me_Change_receive_yes : Meth K (He.ga K "Change") "receive_yes" (He.ma K (He.ga K "Change") "receive_yes")
  me_Change_settle : Meth K (He.ga K "Change") "settle" (He.ma K (He.ga K "Change") "settle")
  me_Change_settled : Meth K (He.ga K "Change") "settled" (He.ma K (He.ga K "Change") "settled")
  me_Change_unplanned : Meth K (He.ga K "Change") "unplanned" (He.ma K (He.ga K "Change") "unplanned")
  mk_Change : Mk K (He.ga K "Change") (He.ma K (He.ga K "Change") "__init__")
section
variable {P : Program} {w : World} {K : PySem.W.Frag} {mg : Str → Option Value} {base : Heap} {F : Fds} (T : Facts K mg F)
def fls (c : Nat) : List Str := match c with | 0 => ["me", "hands", "ballot", "yes", "votes", "reports", "agreed"] | _ => []
def tf : List He.Defn := [("_law_make", none)]
def nm__law_make (l _ : Nat) : Str := if l = 157 then q__law_make___law_make_here else ""
abbrev Cc (K : PySem.W.Frag) : Tbl := { ad := fun c => match c with | 0 => He.ga K "Change" | _ => 0, fl := fls , tb := [((He.cT K ("_law_make", none)).2, nm__law_make)], nf := fun j => match j with | 0 => s__law_make___law_make_here | _ => .Pass ⟨0, 0, 0, 0⟩, nq := fun j => match j with | 0 => ("_law_make_here", q__law_make___law_make_here) | _ => ("", ""), fr := fun j => match j with | 0 => ["_law_plan"] | _ => [] }
theorem fo_me_0 (T : Facts K mg F) : ∀ p ∈ [(0, 0)], FldOk K (Cc K) "me" p.1 p.2 := fun p hp => by
  simp only [List.mem_cons, List.not_mem_nil, or_false] at hp
  rcases hp with rfl
  · exact ⟨T.cl_Change, T.na_Change_me, (show (fls 0).Nodup by decide +kernel), rfl, (show (fls 0).length < 1000 by decide)⟩
theorem fo_hands_1 (T : Facts K mg F) : ∀ p ∈ [(0, 1)], FldOk K (Cc K) "hands" p.1 p.2 := fun p hp => by
  simp only [List.mem_cons, List.not_mem_nil, or_false] at hp
  rcases hp with rfl
  · exact ⟨T.cl_Change, T.na_Change_hands, (show (fls 0).Nodup by decide +kernel), rfl, (show (fls 0).length < 1000 by decide)⟩
theorem fo_ballot_2 (T : Facts K mg F) : ∀ p ∈ [(0, 2)], FldOk K (Cc K) "ballot" p.1 p.2 := fun p hp => by
  simp only [List.mem_cons, List.not_mem_nil, or_false] at hp
  rcases hp with rfl
  · exact ⟨T.cl_Change, T.na_Change_ballot, (show (fls 0).Nodup by decide +kernel), rfl, (show (fls 0).length < 1000 by decide)⟩
theorem fo_yes_3 (T : Facts K mg F) : ∀ p ∈ [(0, 3)], FldOk K (Cc K) "yes" p.1 p.2 := fun p hp => by
  simp only [List.mem_cons, List.not_mem_nil, or_false] at hp
  rcases hp with rfl
  · exact ⟨T.cl_Change, T.na_Change_yes, (show (fls 0).Nodup by decide +kernel), rfl, (show (fls 0).length < 1000 by decide)⟩
theorem fo_votes_4 (T : Facts K mg F) : ∀ p ∈ [(0, 4)], FldOk K (Cc K) "votes" p.1 p.2 := fun p hp => by
  simp only [List.mem_cons, List.not_mem_nil, or_false] at hp
  rcases hp with rfl
  · exact ⟨T.cl_Change, T.na_Change_votes, (show (fls 0).Nodup by decide +kernel), rfl, (show (fls 0).length < 1000 by decide)⟩
theorem fo_reports_5 (T : Facts K mg F) : ∀ p ∈ [(0, 5)], FldOk K (Cc K) "reports" p.1 p.2 := fun p hp => by
  simp only [List.mem_cons, List.not_mem_nil, or_false] at hp
  rcases hp with rfl
  · exact ⟨T.cl_Change, T.na_Change_reports, (show (fls 0).Nodup by decide +kernel), rfl, (show (fls 0).length < 1000 by decide)⟩
theorem fo_agreed_6 (T : Facts K mg F) : ∀ p ∈ [(0, 6)], FldOk K (Cc K) "agreed" p.1 p.2 := fun p hp => by
  simp only [List.mem_cons, List.not_mem_nil, or_false] at hp
  rcases hp with rfl
  · exact ⟨T.cl_Change, T.na_Change_agreed, (show (fls 0).Nodup by decide +kernel), rfl, (show (fls 0).length < 1000 by decide)⟩
variable (TB : ∀ p ∈ tf, LamX.TabB base mg (He.cT K p).1 (He.cT K p).2)
theorem tb_uniq (K : PySem.W.Frag) (p0 : He.Defn) : ∀ p ∈ (Cc K).tb, p.1 = (He.cT K p0).2 → p.2 = nm__law_make := fun p hp _ => by
  have hp : p ∈ [((He.cT K ("_law_make", none)).2, nm__law_make)] := hp
  rw [List.mem_singleton.mp hp]
theorem sc_has : FnScope N_has ["hands", "hand"] (defScope s_has) := ⟨rfl, rfl, rfl, by decide +kernel, rfl, by decide +kernel, by decide +kernel⟩
theorem bn_has (T : Facts K mg F) : Binds K F.fd_has ["hands", "hand"] [] := T.d_has.bindsN fun _ _ _ _ _ _ us hl => match us, hl with | [_, _], _ => rfl
theorem ok_has (T : Facts K mg F) (TB : ∀ p ∈ tf, LamX.TabB base mg (He.cT K p).1 (He.cT K p).2) : FnOk P w K mg base (L2.CX P w) 1 (He.fAd K ("has", none)) F.fd_has ["hands", "hand"] (LF K (Cc K) sp_has) := by
    refine g_fn (t := t_has) T.d_has sc_has (fun _ _ _ _ h => len_has h) (fun X cdv A outer s H E g W hX hr tk hp => ?_) b_has
    subst hX
    have nd := sc_has.nd
    have tk0 : ∀ {Y : Cx} {g : Gw} {L : Lk}, Takes Y (LW K (Cc K) g L W0) := takes0.imp fun _ _ _ _ ⟨_, _, _, _, _, _, _, _, z⟩ => z
    exact gs_one (gs_ret (g_cmp (op_eqA hr) og_eq (g_up (g_op op_and og_and (g_up (g_op op_shr og_shr (g_up (g_var 0 (pv 0))) (g_up (g_var 1 (pv 1))))) (g_up (g_int)))) (g_up (g_int)) (nomark _)))
theorem sc_many : FnScope N_many ["hands"] (defScope s_many) := ⟨rfl, rfl, rfl, by decide +kernel, rfl, by decide +kernel, by decide +kernel⟩
theorem bn_many (T : Facts K mg F) : Binds K F.fd_many ["hands"] [] := T.d_many.bindsN fun _ _ _ _ _ _ us hl => match us, hl with | [_], _ => rfl
theorem ok_many (T : Facts K mg F) (TB : ∀ p ∈ tf, LamX.TabB base mg (He.cT K p).1 (He.cT K p).2) : FnOk P w K mg base (L2.CX P w) 1 (He.fAd K ("many", none)) F.fd_many ["hands"] (LF K (Cc K) sp_many) := by
    refine g_fn (t := t_many) T.d_many sc_many (fun _ _ _ _ h => len_many h) (fun X cdv A outer s H E g W hX hr tk hp => ?_) b_many
    subst hX
    have nd := sc_many.nd
    have tk0 : ∀ {Y : Cx} {g : Gw} {L : Lk}, Takes Y (LW K (Cc K) g L W0) := takes0.imp fun _ _ _ _ ⟨_, _, _, _, _, _, _, _, z⟩ => z
    exact gs_cons (gs_set (ps_set (i := 1) nd rfl (by first | exact Or.inl rfl | exact Or.inr rfl) (g_int))) (gs_cons (gs_while hp (g_tcmp op_gt og_gt (g_up (g_var 0 (pv 0))) (g_up (g_int)) (nomark _)) (gs_cons (gs_set (ps_set (i := 0) nd rfl (by first | exact Or.inl rfl | exact Or.inr rfl) (g_op op_and og_and (g_up (g_var 0 (pv 0))) (g_up (g_op op_sub og_sub (g_up (g_var 0 (pv 0))) (g_up (g_int))))))) (gs_one (gs_set (ps_set (i := 1) nd rfl (by first | exact Or.inl rfl | exact Or.inr rfl) (g_op op_addL og_addL (g_up (g_var 1 (pv 1))) (g_up (g_int)))))))) (gs_one (gs_ret (g_var 1 (pv 1)))))
theorem sc_under : FnScope N_under ["one", "other"] (defScope s_under) := ⟨rfl, rfl, rfl, by decide +kernel, rfl, by decide +kernel, by decide +kernel⟩
theorem bn_under (T : Facts K mg F) : Binds K F.fd_under ["one", "other"] [] := T.d_under.bindsN fun _ _ _ _ _ _ us hl => match us, hl with | [_, _], _ => rfl
theorem ok_under (T : Facts K mg F) (TB : ∀ p ∈ tf, LamX.TabB base mg (He.cT K p).1 (He.cT K p).2) : FnOk P w K mg base (L2.CX P w) 1 (He.fAd K ("under", none)) F.fd_under ["one", "other"] (LF K (Cc K) sp_under) := by
    refine g_fn (t := t_under) T.d_under sc_under (fun _ _ _ _ h => len_under h) (fun X cdv A outer s H E g W hX hr tk hp => ?_) b_under
    subst hX
    have nd := sc_under.nd
    have tk0 : ∀ {Y : Cx} {g : Gw} {L : Lk}, Takes Y (LW K (Cc K) g L W0) := takes0.imp fun _ _ _ _ ⟨_, _, _, _, _, _, _, _, z⟩ => z
    exact gs_cons (gs_if (g_tcmp op_isN og_isN (g_up (g_var 1 (pv 1))) (g_up (g_non)) (nomark _)) (gs_one (gs_ret (g_bl))) (gs_nil)) (gs_cons (gs_if (g_tcmp op_isN og_isN (g_up (g_var 0 (pv 0))) (g_up (g_non)) (nomark _)) (gs_one (gs_ret (g_bl))) (gs_nil)) (gs_one (gs_ret (g_orV (g_cmp op_lt og_lt (g_up (g_ix hr (g_up (g_var 0 (pv 0))) (g_up (g_int)) (fun _ _ => rfl))) (g_up (g_ix hr (g_up (g_var 1 (pv 1))) (g_up (g_int)) (fun _ _ => rfl))) (nomark _)) (g_oneV (g_andV (g_cmp (op_eqA hr) og_eq (g_up (g_ix hr (g_up (g_var 0 (pv 0))) (g_up (g_int)) (fun _ _ => rfl))) (g_up (g_ix hr (g_up (g_var 1 (pv 1))) (g_up (g_int)) (fun _ _ => rfl))) (nomark _)) (g_oneV (g_cmp op_lt og_lt (g_up (g_ix hr (g_up (g_var 0 (pv 0))) (g_up (g_int)) (fun _ _ => rfl))) (g_up (g_ix hr (g_up (g_var 1 (pv 1))) (g_up (g_int)) (fun _ _ => rfl))) (nomark _)))))))))
theorem sc_ballot_of : FnScope N_ballot_of ["yes"] (defScope s_ballot_of) := ⟨rfl, rfl, rfl, by decide +kernel, rfl, by decide +kernel, by decide +kernel⟩
theorem bn_ballot_of (T : Facts K mg F) : Binds K F.fd_ballot_of ["yes"] [] := T.d_ballot_of.bindsN fun _ _ _ _ _ _ us hl => match us, hl with | [_], _ => rfl
theorem ok_ballot_of (T : Facts K mg F) (TB : ∀ p ∈ tf, LamX.TabB base mg (He.cT K p).1 (He.cT K p).2) : FnOk P w K mg base (L2.CX P w) 1 (He.fAd K ("ballot_of", none)) F.fd_ballot_of ["yes"] (LF K (Cc K) sp_ballot_of) := by
    refine g_fn (t := t_ballot_of) T.d_ballot_of sc_ballot_of (fun _ _ _ _ h => len_ballot_of h) (fun X cdv A outer s H E g W hX hr tk hp => ?_) b_ballot_of
    subst hX
    have nd := sc_ballot_of.nd
    have tk0 : ∀ {Y : Cx} {g : Gw} {L : Lk}, Takes Y (LW K (Cc K) g L W0) := takes0.imp fun _ _ _ _ ⟨_, _, _, _, _, _, _, _, z⟩ => z
    exact gs_cons (gs_if (g_tcmp op_isN og_isN (g_up (g_var 0 (pv 0))) (g_up (g_non)) (nomark _)) (gs_one (gs_ret (g_non))) (gs_nil)) (gs_one (gs_ret (g_ix hr (g_up (g_var 0 (pv 0))) (g_up (g_int)) (fun _ _ => rfl))))
theorem sc_Change_init : FnScope N_Change_init ["self", "me", "hands"] (defScope s_Change_init) := ⟨rfl, rfl, rfl, by decide +kernel, rfl, by decide +kernel, by decide +kernel⟩
theorem bn_Change_init (T : Facts K mg F) : Binds K F.fd_Change_init ["self", "me", "hands"] [] := T.d_Change_init.bindsN fun _ _ _ _ _ _ us hl => match us, hl with | [_, _, _], _ => rfl
theorem ok_Change_init (T : Facts K mg F) (TB : ∀ p ∈ tf, LamX.TabB base mg (He.cT K p).1 (He.cT K p).2) : FnOk P w K mg base (L2.CX P w) 1 (He.fAd K ("Change", some "__init__")) F.fd_Change_init ["self", "me", "hands"] (LF K (Cc K) sp_Change_init) := by
    refine g_fn (t := t_Change_init) T.d_Change_init sc_Change_init (fun _ _ _ _ h => len_Change_init h) (fun X cdv A outer s H E g W hX hr tk hp => ?_) b_Change_init
    subst hX
    have nd := sc_Change_init.nd
    have tk0 : ∀ {Y : Cx} {g : Gw} {L : Lk}, Takes Y (LW K (Cc K) g L W0) := takes0.imp fun _ _ _ _ ⟨_, _, _, _, _, _, _, _, z⟩ => z
    exact gs_cons (gs_fld (fo_me_0 T) (g_var 0 (pv 0)) (g_var 1 (pv 1)) rfl) (gs_cons (gs_fld (fo_hands_1 T) (g_var 0 (pv 0)) (g_var 2 (pv 2)) rfl) (gs_cons (gs_fld (fo_ballot_2 T) (g_var 0 (pv 0)) (g_non) rfl) (gs_cons (gs_fld (fo_yes_3 T) (g_var 0 (pv 0)) (g_non) rfl) (gs_cons (gs_fld (fo_votes_4 T) (g_var 0 (pv 0)) (g_int) rfl) (gs_cons (gs_fld (fo_reports_5 T) (g_var 0 (pv 0)) (g_new (g_newK)) rfl) (gs_one (gs_fld (fo_agreed_6 T) (g_var 0 (pv 0)) (g_non) rfl)))))))
theorem sc_Change_begin : FnScope N_Change_begin ["self", "more", "report"] (defScope s_Change_begin) := ⟨rfl, rfl, rfl, by decide +kernel, rfl, by decide +kernel, by decide +kernel⟩
theorem bn_Change_begin (T : Facts K mg F) : Binds K F.fd_Change_begin ["self", "more", "report"] [] := T.d_Change_begin.bindsN fun _ _ _ _ _ _ us hl => match us, hl with | [_, _, _], _ => rfl
theorem ok_Change_begin (T : Facts K mg F) (TB : ∀ p ∈ tf, LamX.TabB base mg (He.cT K p).1 (He.cT K p).2) : FnOk P w K mg base (L2.CX P w) 1 (He.fAd K ("Change", some "begin")) F.fd_Change_begin ["self", "more", "report"] (LF K (Cc K) sp_Change_begin) := by
    refine g_fn (t := t_Change_begin) T.d_Change_begin sc_Change_begin (fun _ _ _ _ h => len_Change_begin h) (fun X cdv A outer s H E g W hX hr tk hp => ?_) b_Change_begin
    subst hX
    have nd := sc_Change_begin.nd
    have tk0 : ∀ {Y : Cx} {g : Gw} {L : Lk}, Takes Y (LW K (Cc K) g L W0) := takes0.imp fun _ _ _ _ ⟨_, _, _, _, _, _, _, _, z⟩ => z
    exact gs_cons (gs_set (ps_set (i := 3) nd rfl (by first | exact Or.inl rfl | exact Or.inr rfl) (g_int))) (gs_cons (gs_if (g_tcmp op_notN og_notN (g_up (g_fld (fo_ballot_2 T) (g_var 0 (pv 0)))) (g_up (g_non)) (nomark _)) (gs_one (gs_set (ps_set (i := 3) nd rfl (by first | exact Or.inl rfl | exact Or.inr rfl) (g_ix hr (g_up (g_fld (fo_ballot_2 T) (g_var 0 (pv 0)))) (g_up (g_int)) (fun _ _ => rfl))))) (gs_nil)) (gs_cons (gs_fld (fo_ballot_2 T) (g_var 0 (pv 0)) (g_tup (ga_cons (g_op op_addL og_addL (g_up (g_var 3 (pv 3))) (g_up (g_var 1 (pv 1)))) (ga_cons (g_fld (fo_me_0 T) (g_var 0 (pv 0))) (ga_nil)))) rfl) (gs_one (gs_fld (fo_reports_5 T) (g_var 0 (pv 0)) (g_new (g_disp1 (g_fld (fo_me_0 T) (g_var 0 (pv 0))) (g_tup (ga_cons (g_var 2 (pv 2)) (ga_cons (g_fld (fo_yes_3 T) (g_var 0 (pv 0))) (ga_nil)))))) rfl))))
theorem sc_Change_message : FnScope N_Change_message ["self", "report"] (defScope s_Change_message) := ⟨rfl, rfl, rfl, by decide +kernel, rfl, by decide +kernel, by decide +kernel⟩
theorem bn_Change_message (T : Facts K mg F) : Binds K F.fd_Change_message ["self", "report"] [] := T.d_Change_message.bindsN fun _ _ _ _ _ _ us hl => match us, hl with | [_, _], _ => rfl
theorem ok_Change_message (T : Facts K mg F) (TB : ∀ p ∈ tf, LamX.TabB base mg (He.cT K p).1 (He.cT K p).2) : FnOk P w K mg base (L2.CX P w) 1 (He.fAd K ("Change", some "message")) F.fd_Change_message ["self", "report"] (LF K (Cc K) sp_Change_message) := by
    refine g_fn (t := t_Change_message) T.d_Change_message sc_Change_message (fun _ _ _ _ h => len_Change_message h) (fun X cdv A outer s H E g W hX hr tk hp => ?_) b_Change_message
    subst hX
    have nd := sc_Change_message.nd
    have tk0 : ∀ {Y : Cx} {g : Gw} {L : Lk}, Takes Y (LW K (Cc K) g L W0) := takes0.imp fun _ _ _ _ ⟨_, _, _, _, _, _, _, _, z⟩ => z
    exact gs_one (gs_ret (g_tup (ga_cons (g_fld (fo_me_0 T) (g_var 0 (pv 0))) (ga_cons (g_fld (fo_ballot_2 T) (g_var 0 (pv 0))) (ga_cons (g_fld (fo_yes_3 T) (g_var 0 (pv 0))) (ga_cons (g_fld (fo_votes_4 T) (g_var 0 (pv 0))) (ga_cons (g_var 1 (pv 1)) (ga_nil))))))))
theorem sc_Change_settled : FnScope N_Change_settled ["self"] (defScope s_Change_settled) := ⟨rfl, rfl, rfl, by decide +kernel, rfl, by decide +kernel, by decide +kernel⟩
theorem bn_Change_settled (T : Facts K mg F) : Binds K F.fd_Change_settled ["self"] [] := T.d_Change_settled.bindsN fun _ _ _ _ _ _ us hl => match us, hl with | [_], _ => rfl
theorem ok_Change_settled (T : Facts K mg F) (TB : ∀ p ∈ tf, LamX.TabB base mg (He.cT K p).1 (He.cT K p).2) : FnOk P w K mg base (L2.CX P w) 1 (He.fAd K ("Change", some "settled")) F.fd_Change_settled ["self"] (LF K (Cc K) sp_Change_settled) := by
    refine g_fn (t := t_Change_settled) T.d_Change_settled sc_Change_settled (fun _ _ _ _ h => len_Change_settled h) (fun X cdv A outer s H E g W hX hr tk hp => ?_) b_Change_settled
    subst hX
    have nd := sc_Change_settled.nd
    have tk0 : ∀ {Y : Cx} {g : Gw} {L : Lk}, Takes Y (LW K (Cc K) g L W0) := takes0.imp fun _ _ _ _ ⟨_, _, _, _, _, _, _, _, z⟩ => z
    exact gs_one (gs_ret (g_fld (fo_agreed_6 T) (g_var 0 (pv 0))))
theorem sc__law_cell_at : FnScope N__law_cell_at ["_law_script", "_law_k"] (defScope s__law_cell_at) := ⟨rfl, rfl, rfl, by decide +kernel, rfl, by decide +kernel, by decide +kernel⟩
theorem bn__law_cell_at (T : Facts K mg F) : Binds K F.fd__law_cell_at ["_law_script", "_law_k"] [] := T.d__law_cell_at.bindsN fun _ _ _ _ _ _ us hl => match us, hl with | [_, _], _ => rfl
theorem ok__law_cell_at (T : Facts K mg F) (TB : ∀ p ∈ tf, LamX.TabB base mg (He.cT K p).1 (He.cT K p).2) : FnOk P w K mg base (L2.CX P w) 1 (He.fAd K ("_law_cell_at", none)) F.fd__law_cell_at ["_law_script", "_law_k"] (LF K (Cc K) sp__law_cell_at) := by
    refine g_fn (t := t__law_cell_at) T.d__law_cell_at sc__law_cell_at (fun _ _ _ _ h => len__law_cell_at h) (fun X cdv A outer s H E g W hX hr tk hp => ?_) b__law_cell_at
    subst hX
    have nd := sc__law_cell_at.nd
    have tk0 : ∀ {Y : Cx} {g : Gw} {L : Lk}, Takes Y (LW K (Cc K) g L W0) := takes0.imp fun _ _ _ _ ⟨_, _, _, _, _, _, _, _, z⟩ => z
    exact gs_cons (gs_if (g_tcmp op_lt og_lt (g_up (g_var 1 (pv 1))) (g_up (g_bi call_lenA oc_len rfl T.f_len (by decide +kernel) (gp_cons (g_up (g_var 0 (pv 0))) (gp_nil)))) (nomark _)) (gs_one (gs_ret (g_ix hr (g_up (g_var 0 (pv 0))) (g_up (g_var 1 (pv 1))) (fun _ _ => rfl)))) (gs_nil)) (gs_one (gs_ret (g_int)))
theorem sc__law_stream : FnScope N__law_stream ["_law_cell", "_law_amount"] (defScope s__law_stream) := ⟨rfl, rfl, rfl, by decide +kernel, rfl, by decide +kernel, by decide +kernel⟩
theorem bn__law_stream (T : Facts K mg F) : Binds K F.fd__law_stream ["_law_cell", "_law_amount"] [] := T.d__law_stream.bindsN fun _ _ _ _ _ _ us hl => match us, hl with | [_, _], _ => rfl
theorem ok__law_stream (T : Facts K mg F) (TB : ∀ p ∈ tf, LamX.TabB base mg (He.cT K p).1 (He.cT K p).2) : FnOk P w K mg base (L2.CX P w) 1 (He.fAd K ("_law_stream", none)) F.fd__law_stream ["_law_cell", "_law_amount"] (LF K (Cc K) sp__law_stream) := by
    refine g_fn (t := t__law_stream) T.d__law_stream sc__law_stream (fun _ _ _ _ h => len__law_stream h) (fun X cdv A outer s H E g W hX hr tk hp => ?_) b__law_stream
    subst hX
    have nd := sc__law_stream.nd
    have tk0 : ∀ {Y : Cx} {g : Gw} {L : Lk}, Takes Y (LW K (Cc K) g L W0) := takes0.imp fun _ _ _ _ ⟨_, _, _, _, _, _, _, _, z⟩ => z
    exact gs_cons (gs_setO (ps_set (i := 2) nd rfl (by first | exact Or.inl rfl | exact Or.inr rfl) (g_lst (ga_nil)))) (gs_cons (gs_set (ps_set (i := 3) nd rfl (by first | exact Or.inl rfl | exact Or.inr rfl) (g_op op_addL og_addL (g_up (g_op op_mod og_mod (g_up (g_var 0 (pv 0))) (g_up (g_int)))) (g_up (g_int))))) (gs_cons (gs_for hp rfl (gi_rg1 rfl T.f_range (ga_cons (g_op op_addL og_addL (g_up (g_var 1 (pv 1))) (g_up (g_int))) (ga_nil))) (pg_name (i := 4) nd rfl (by first | exact Or.inl rfl | exact Or.inr rfl)) (tg_n 4) (gs_cons (gs_set (ps_set (i := 3) nd rfl (by first | exact Or.inl rfl | exact Or.inr rfl) (g_op op_mod og_mod (g_up (g_op op_addL og_addL (g_up (g_op op_addL og_addL (g_up (g_op op_mulA og_mulA (g_up (g_var 3 (pv 3))) (g_up (g_var 3 (pv 3))))) (g_up (g_op op_mulA og_mulA (g_up (g_int)) (g_up (g_var 3 (pv 3))))))) (g_up (g_var 4 (pv 4))))) (g_up (g_int))))) (gs_one (gs_muO mu_app (ps_expr (pe_bm PySem.F.plainAttrs_list PySem.F.slot_list_append PySem.F.type_list_append mt_append (pv 2) (ga_cons (g_var 3 (pv 3)) (ga_nil)))))))) (gs_one (gs_ret (g_slA (g_pk 2 (pv 2)) (gpt_e (g_int)) (gpt_no))))))
theorem sc__law_under : FnScope N__law_under ["_law_one", "_law_other"] (defScope s__law_under) := ⟨rfl, rfl, rfl, by decide +kernel, rfl, by decide +kernel, by decide +kernel⟩
theorem bn__law_under (T : Facts K mg F) : Binds K F.fd__law_under ["_law_one", "_law_other"] [] := T.d__law_under.bindsN fun _ _ _ _ _ _ us hl => match us, hl with | [_, _], _ => rfl
theorem ok__law_under (T : Facts K mg F) (TB : ∀ p ∈ tf, LamX.TabB base mg (He.cT K p).1 (He.cT K p).2) : FnOk P w K mg base (L2.CX P w) 1 (He.fAd K ("_law_under", none)) F.fd__law_under ["_law_one", "_law_other"] (LF K (Cc K) sp__law_under) := by
    refine g_fn (t := t__law_under) T.d__law_under sc__law_under (fun _ _ _ _ h => len__law_under h) (fun X cdv A outer s H E g W hX hr tk hp => ?_) b__law_under
    subst hX
    have nd := sc__law_under.nd
    have tk0 : ∀ {Y : Cx} {g : Gw} {L : Lk}, Takes Y (LW K (Cc K) g L W0) := takes0.imp fun _ _ _ _ ⟨_, _, _, _, _, _, _, _, z⟩ => z
    exact gs_cons (gs_if (PW.pt (g_or (g_tcmp op_isN og_isN (g_up (g_var 0 (pv 0))) (g_up (g_non)) (nomark _)) (g_or1 (g_tcmp op_isN og_isN (g_up (g_var 1 (pv 1))) (g_up (g_non)) (nomark _))))) (gs_one (gs_ret (g_andV (g_cmp op_isN og_isN (g_up (g_var 0 (pv 0))) (g_up (g_non)) (nomark _)) (g_oneV (g_cmp op_notN og_notN (g_up (g_var 1 (pv 1))) (g_up (g_non)) (nomark _)))))) (gs_nil)) (gs_one (gs_ret (g_orV (g_cmp op_lt og_lt (g_up (g_ix hr (g_up (g_var 0 (pv 0))) (g_up (g_int)) (fun _ _ => rfl))) (g_up (g_ix hr (g_up (g_var 1 (pv 1))) (g_up (g_int)) (fun _ _ => rfl))) (nomark _)) (g_oneV (g_andV (g_cmp (op_eqA hr) og_eq (g_up (g_ix hr (g_up (g_var 0 (pv 0))) (g_up (g_int)) (fun _ _ => rfl))) (g_up (g_ix hr (g_up (g_var 1 (pv 1))) (g_up (g_int)) (fun _ _ => rfl))) (nomark _)) (g_oneV (g_cmp op_lt og_lt (g_up (g_ix hr (g_up (g_var 0 (pv 0))) (g_up (g_int)) (fun _ _ => rfl))) (g_up (g_ix hr (g_up (g_var 1 (pv 1))) (g_up (g_int)) (fun _ _ => rfl))) (nomark _))))))))
theorem sc__law_ballot : FnScope N__law_ballot ["_law_yes"] (defScope s__law_ballot) := ⟨rfl, rfl, rfl, by decide +kernel, rfl, by decide +kernel, by decide +kernel⟩
theorem bn__law_ballot (T : Facts K mg F) : Binds K F.fd__law_ballot ["_law_yes"] [] := T.d__law_ballot.bindsN fun _ _ _ _ _ _ us hl => match us, hl with | [_], _ => rfl
theorem ok__law_ballot (T : Facts K mg F) (TB : ∀ p ∈ tf, LamX.TabB base mg (He.cT K p).1 (He.cT K p).2) : FnOk P w K mg base (L2.CX P w) 1 (He.fAd K ("_law_ballot", none)) F.fd__law_ballot ["_law_yes"] (LF K (Cc K) sp__law_ballot) := by
    refine g_fn (t := t__law_ballot) T.d__law_ballot sc__law_ballot (fun _ _ _ _ h => len__law_ballot h) (fun X cdv A outer s H E g W hX hr tk hp => ?_) b__law_ballot
    subst hX
    have nd := sc__law_ballot.nd
    have tk0 : ∀ {Y : Cx} {g : Gw} {L : Lk}, Takes Y (LW K (Cc K) g L W0) := takes0.imp fun _ _ _ _ ⟨_, _, _, _, _, _, _, _, z⟩ => z
    exact gs_cons (gs_if (g_tcmp op_isN og_isN (g_up (g_var 0 (pv 0))) (g_up (g_non)) (nomark _)) (gs_one (gs_ret (g_non))) (gs_nil)) (gs_one (gs_ret (g_ix hr (g_up (g_var 0 (pv 0))) (g_up (g_int)) (fun _ _ => rfl))))
theorem sc__law_many : FnScope N__law_many ["_law_votes"] (defScope s__law_many) := ⟨rfl, rfl, rfl, by decide +kernel, rfl, by decide +kernel, by decide +kernel⟩
theorem bn__law_many (T : Facts K mg F) : Binds K F.fd__law_many ["_law_votes"] [] := T.d__law_many.bindsN fun _ _ _ _ _ _ us hl => match us, hl with | [_], _ => rfl
theorem ok__law_many (T : Facts K mg F) (TB : ∀ p ∈ tf, LamX.TabB base mg (He.cT K p).1 (He.cT K p).2) : FnOk P w K mg base (L2.CX P w) 1 (He.fAd K ("_law_many", none)) F.fd__law_many ["_law_votes"] (LF K (Cc K) sp__law_many) := by
    refine g_fn (t := t__law_many) T.d__law_many sc__law_many (fun _ _ _ _ h => len__law_many h) (fun X cdv A outer s H E g W hX hr tk hp => ?_) b__law_many
    subst hX
    have nd := sc__law_many.nd
    have tk0 : ∀ {Y : Cx} {g : Gw} {L : Lk}, Takes Y (LW K (Cc K) g L W0) := takes0.imp fun _ _ _ _ ⟨_, _, _, _, _, _, _, _, z⟩ => z
    exact gs_one (gs_ret (g_bi call_lenA oc_len rfl T.f_len (by decide +kernel) (gp_cons (g_up (g_frz (g_lc (own := [("_law_hand", 1)]) rfl nd (gi_rg1 rfl T.f_range (ga_cons (g_int) (ga_nil))) (blkOk_by (N := N__law_many) (sc := defScope s__law_many) (by decide +kernel)) (fun _ _ _ _ _ => pg_name (i := 1) nd rfl (by first | exact Or.inl rfl | exact Or.inr rfl)) (tg_n 1) (tw_n 1) (gm_n 1) (by decide) (fun _ _ _ _ _ => gt_one (g_tcmp (op_eqA hr) og_eq (g_up (g_op op_and og_and (g_up (g_op op_shr og_shr (g_up (g_var 0 (pv 0))) (g_up (g_var 1 (pv 1))))) (g_up (g_int)))) (g_up (g_int)) (nomark _))) (fun _ _ _ _ _ => g_var 1 (pv 1))))) (gp_nil))))
theorem sc__law_make : FnScope N__law_make ["_law_plan"] (defScope s__law_make) := ⟨rfl, rfl, rfl, by decide +kernel, rfl, by decide +kernel, by decide +kernel⟩
theorem bn__law_make (T : Facts K mg F) : Binds K F.fd__law_make ["_law_plan"] [] := T.d__law_make.bindsN fun _ _ _ _ _ _ us hl => match us, hl with | [_], _ => rfl
theorem ok__law_make (T : Facts K mg F) (TB : ∀ p ∈ tf, LamX.TabB base mg (He.cT K p).1 (He.cT K p).2) : FnOk P w K mg base (L2.CX P w) 1 (He.fAd K ("_law_make", none)) F.fd__law_make ["_law_plan"] (spMk (Cc K).tb (fun cl c => (Cc K).mkF 0 cl c) ((Cc K).fr 0) [0] 1) := by
    have nd := sc__law_make.nd
    refine FunD.okM (p := ("_law_make", none)) (st := s__law_make___law_make_here) (nm := "_law_make_here") (i := 1) T.d__law_make rfl sc__law_make rfl (by first | exact Or.inl rfl | exact Or.inr (Or.inl rfl)) (by decide) (by decide) (fun X A outer s H E hX => ?_)
    subst hX
    exact ⟨_, ps_ndXS (st := s__law_make___law_make_here) (T := (Cc K).tb) (nm := nm__law_make) (P := (He.cT K ("_law_make", none)).2) (cd := (He.cT K ("_law_make", none)).1) rfl (TB _ (by simp [tf])) rfl (by simp [Cc]) rfl (tb_uniq K ("_law_make", none)) (NdefX.ndef_free (show NdefX.ndefB (defScope s__law_make) (C8.fnScope s__law_make___law_make_here) ["_law_plan"] = true by decide +kernel)) rfl rfl rfl nd rfl (by first | exact Or.inl rfl | exact Or.inr rfl) (Or.inl rfl), fun ok => NdefX.Caps.made ok (NdefX.ndef_free (show NdefX.ndefB (defScope s__law_make) (C8.fnScope s__law_make___law_make_here) ["_law_plan"] = true by decide +kernel)) (NdefX.ndef_fr (show NdefX.ndefB (defScope s__law_make) (C8.fnScope s__law_make___law_make_here) ["_law_plan"] = true by decide +kernel)) rfl⟩
theorem nsc__law_make___law_make_here : NdefX.NScope N__law_make___law_make_here ["_law_reports"] ["_law_plan"] (C8.fnScope s__law_make___law_make_here) := NdefX.nscope_by (by decide +kernel)
theorem ok__law_make___law_make_here (T : Facts K mg F) (TB : ∀ p ∈ tf, LamX.TabB base mg (He.cT K p).1 (He.cT K p).2) : ∀ cl c f, NdefX.NOk P w K mg base (L2.CX P w) 1 f ((Cc K).mkF 0 cl c) ["_law_reports"] ["_law_plan"] (LFN K (Cc K) nsp 0) := fun cl c f => by
    refine g_nfn (C := Cc K) (t := t__law_make___law_make_here) nsc__law_make___law_make_here (fun _ _ _ us hl => match us, hl with | [_], _ => rfl) (fun _ _ _ _ W h => len__law_make___law_make_here (W := W) h) (fun X A outer s H E g W hX hr tk hp => ?_) b__law_make___law_make_here
    subst hX
    have nd := nsc__law_make___law_make_here.nd
    exact gs_one (gs_ret (g_var 1 (pv 1)))
theorem nall (T : Facts K mg F) (TB : ∀ p ∈ tf, LamX.TabB base mg (He.cT K p).1 (He.cT K p).2) : ∀ j cl c f, NdefX.NOk P w K mg base (L2.CX P w) 1 f ((Cc K).mkF j cl c) (nps j) ((Cc K).fr j) (LFN K (Cc K) nsp j)
  | 0, cl, c, f => (ok__law_make___law_make_here T TB cl c f).mono (by decide)
  | n + 1, cl, c, f => g_nfn_none (fun _ _ _ _ _ h => h)
theorem sc_hands_of : FnScope N_hands_of ["hands"] (defScope s_hands_of) := ⟨rfl, rfl, rfl, by decide +kernel, rfl, by decide +kernel, by decide +kernel⟩
theorem bn_hands_of (T : Facts K mg F) : Binds K F.fd_hands_of ["hands"] [] := T.d_hands_of.bindsN fun _ _ _ _ _ _ us hl => match us, hl with | [_], _ => rfl
theorem ok_hands_of (T : Facts K mg F) (TB : ∀ p ∈ tf, LamX.TabB base mg (He.cT K p).1 (He.cT K p).2) : FnOk P w K mg base (L2.CX P w) 2 (He.fAd K ("hands_of", none)) F.fd_hands_of ["hands"] (LF K (Cc K) sp_hands_of) := by
    have ok_has := ok_has T TB (P := P) (w := w) (base := base)
    refine g_fn (t := t_hands_of) T.d_hands_of sc_hands_of (fun _ _ _ _ h => len_hands_of h) (fun X cdv A outer s H E g W hX hr tk hp => ?_) b_hands_of
    subst hX
    have nd := sc_hands_of.nd
    have tk0 : ∀ {Y : Cx} {g : Gw} {L : Lk}, Takes Y (LW K (Cc K) g L W0) := takes0.imp fun _ _ _ _ ⟨_, _, _, _, _, _, _, _, z⟩ => z
    exact gs_one (gs_retL (g_lc (own := [("hand", 1)]) rfl nd (gi_rg1 rfl T.f_range (ga_cons (g_int) (ga_nil))) (blkOk_by (N := N_hands_of) (sc := defScope s_hands_of) (by decide +kernel)) (fun _ _ _ _ _ => pg_name (i := 1) nd rfl (by first | exact Or.inl rfl | exact Or.inr rfl)) (tg_n 1) (tw_n 1) (gm_n 1) (by decide) (fun _ _ _ _ _ => gt_one (g_test (g_call ok_has (hr.mono (by decide)) rfl T.m_has T.d_has.kp (bn_has T) .nil (fun _ => .nil) tk0 (ga_cons (g_var 0 (pv 0)) (ga_cons (g_var 1 (pv 1)) (ga_nil)))) (by intro _; rfl))) (fun _ _ _ _ _ => g_var 1 (pv 1))))
theorem sc_more_than_half : FnScope N_more_than_half ["some", "hands"] (defScope s_more_than_half) := ⟨rfl, rfl, rfl, by decide +kernel, rfl, by decide +kernel, by decide +kernel⟩
theorem bn_more_than_half (T : Facts K mg F) : Binds K F.fd_more_than_half ["some", "hands"] [] := T.d_more_than_half.bindsN fun _ _ _ _ _ _ us hl => match us, hl with | [_, _], _ => rfl
theorem ok_more_than_half (T : Facts K mg F) (TB : ∀ p ∈ tf, LamX.TabB base mg (He.cT K p).1 (He.cT K p).2) : FnOk P w K mg base (L2.CX P w) 2 (He.fAd K ("more_than_half", none)) F.fd_more_than_half ["some", "hands"] (LF K (Cc K) sp_more_than_half) := by
    have ok_many := ok_many T TB (P := P) (w := w) (base := base)
    refine g_fn (t := t_more_than_half) T.d_more_than_half sc_more_than_half (fun _ _ _ _ h => len_more_than_half h) (fun X cdv A outer s H E g W hX hr tk hp => ?_) b_more_than_half
    subst hX
    have nd := sc_more_than_half.nd
    have tk0 : ∀ {Y : Cx} {g : Gw} {L : Lk}, Takes Y (LW K (Cc K) g L W0) := takes0.imp fun _ _ _ _ ⟨_, _, _, _, _, _, _, _, z⟩ => z
    exact gs_one (gs_ret (g_cmp op_gt og_gt (g_up (g_op op_mulA og_mulA (g_up (g_int)) (g_up (g_call ok_many (hr.mono (by decide)) rfl T.m_many T.d_many.kp (bn_many T) .nil (fun _ => .nil) tk (ga_cons (g_op op_and og_and (g_up (g_var 0 (pv 0))) (g_up (g_var 1 (pv 1)))) (ga_nil)))))) (g_up (g_call ok_many (hr.mono (by decide)) rfl T.m_many T.d_many.kp (bn_many T) .nil (fun _ => .nil) tk (ga_cons (g_var 1 (pv 1)) (ga_nil)))) (nomark _)))
theorem sc_Change_unplanned : FnScope N_Change_unplanned ["self"] (defScope s_Change_unplanned) := ⟨rfl, rfl, rfl, by decide +kernel, rfl, by decide +kernel, by decide +kernel⟩
theorem bn_Change_unplanned (T : Facts K mg F) : Binds K F.fd_Change_unplanned ["self"] [] := T.d_Change_unplanned.bindsN fun _ _ _ _ _ _ us hl => match us, hl with | [_], _ => rfl
theorem ok_Change_unplanned (T : Facts K mg F) (TB : ∀ p ∈ tf, LamX.TabB base mg (He.cT K p).1 (He.cT K p).2) : FnOk P w K mg base (L2.CX P w) 2 (He.fAd K ("Change", some "unplanned")) F.fd_Change_unplanned ["self"] (LF K (Cc K) sp_Change_unplanned) := by
    have ok_ballot_of := ok_ballot_of T TB (P := P) (w := w) (base := base)
    refine g_fn (t := t_Change_unplanned) T.d_Change_unplanned sc_Change_unplanned (fun _ _ _ _ h => len_Change_unplanned h) (fun X cdv A outer s H E g W hX hr tk hp => ?_) b_Change_unplanned
    subst hX
    have nd := sc_Change_unplanned.nd
    have tk0 : ∀ {Y : Cx} {g : Gw} {L : Lk}, Takes Y (LW K (Cc K) g L W0) := takes0.imp fun _ _ _ _ ⟨_, _, _, _, _, _, _, _, z⟩ => z
    exact gs_cons (gs_if (PW.pt (g_or (g_tcmp op_isN og_isN (g_up (g_fld (fo_ballot_2 T) (g_var 0 (pv 0)))) (g_up (g_non)) (nomark _)) (g_or1 (g_tcmp (op_neA hr) og_ne (g_up (g_ix hr (g_up (g_fld (fo_ballot_2 T) (g_var 0 (pv 0)))) (g_up (g_int)) (fun _ _ => rfl))) (g_up (g_fld (fo_me_0 T) (g_var 0 (pv 0)))) (nomark _))))) (gs_one (gs_ret (g_bl))) (gs_nil)) (gs_one (gs_ret (g_cmp (op_neA hr) og_ne (g_up (g_call ok_ballot_of (hr.mono (by decide)) rfl T.m_ballot_of T.d_ballot_of.kp (bn_ballot_of T) .nil (fun _ => .nil) tk (ga_cons (g_fld (fo_yes_3 T) (g_var 0 (pv 0))) (ga_nil)))) (g_up (g_fld (fo_ballot_2 T) (g_var 0 (pv 0)))) (nomark _))))
theorem sc__law_hands : FnScope N__law_hands ["_law_cell"] (defScope s__law_hands) := ⟨rfl, rfl, rfl, by decide +kernel, rfl, by decide +kernel, by decide +kernel⟩
theorem bn__law_hands (T : Facts K mg F) : Binds K F.fd__law_hands ["_law_cell"] [] := T.d__law_hands.bindsN fun _ _ _ _ _ _ us hl => match us, hl with | [_], _ => rfl
theorem ok__law_hands (T : Facts K mg F) (TB : ∀ p ∈ tf, LamX.TabB base mg (He.cT K p).1 (He.cT K p).2) : FnOk P w K mg base (L2.CX P w) 2 (He.fAd K ("_law_hands", none)) F.fd__law_hands ["_law_cell"] (LF K (Cc K) sp__law_hands) := by
    have ok__law_stream := ok__law_stream T TB (P := P) (w := w) (base := base)
    refine g_fn (t := t__law_hands) T.d__law_hands sc__law_hands (fun _ _ _ _ h => len__law_hands h) (fun X cdv A outer s H E g W hX hr tk hp => ?_) b__law_hands
    subst hX
    have nd := sc__law_hands.nd
    have tk0 : ∀ {Y : Cx} {g : Gw} {L : Lk}, Takes Y (LW K (Cc K) g L W0) := takes0.imp fun _ _ _ _ ⟨_, _, _, _, _, _, _, _, z⟩ => z
    exact gs_cons (gs_if (g_tcmp (op_eqA hr) og_eq (g_up (g_op op_mod og_mod (g_up (g_var 0 (pv 0))) (g_up (g_int)))) (g_up (g_int)) (nomark _)) (gs_one (gs_ret (g_frz (g_listR1 rfl rfl T.f_list rfl T.f_range (g_op op_addL og_addL (g_up (g_int)) (g_up (g_op op_mod og_mod (g_up (g_op op_fdivW og_div (g_up (g_var 0 (pv 0))) (g_up (g_int)))) (g_up (g_int))))))))) (gs_nil)) (gs_cons (gs_setO (ps_set (i := 1) nd rfl (by first | exact Or.inl rfl | exact Or.inr rfl) (g_lst (ga_nil)))) (gs_cons (gs_for hp rfl (gi_seq (g_call ok__law_stream (hr.mono (by decide)) rfl T.m__law_stream T.d__law_stream.kp (bn__law_stream T) .nil (fun _ => .nil) tk (ga_cons (g_var 0 (pv 0)) (ga_cons (g_op op_addL og_addL (g_up (g_int)) (g_up (g_op op_mod og_mod (g_up (g_op op_fdivW og_div (g_up (g_var 0 (pv 0))) (g_up (g_int)))) (g_up (g_int))))) (ga_nil))))) (pg_name (i := 2) nd rfl (by first | exact Or.inl rfl | exact Or.inr rfl)) (tg_n 2) (gs_one (gs_if (g_tcmp (op_notInA hr) (og_in true) (g_up (g_op op_mod og_mod (g_up (g_var 2 (pv 2))) (g_up (g_int)))) (g_pk 1 (pv 1)) (by rfl)) (gs_one (gs_muO mu_app (ps_expr (pe_bm PySem.F.plainAttrs_list PySem.F.slot_list_append PySem.F.type_list_append mt_append (pv 1) (ga_cons (g_op op_mod og_mod (g_up (g_var 2 (pv 2))) (g_up (g_int))) (ga_nil)))))) (gs_nil)))) (gs_one (gs_ret (g_frz (g_biN (call_sortA rfl) oc_sorted rfl T.f_sorted (by decide +kernel) (gp_cons (g_pk 1 (pv 1)) (gp_nil))))))))
theorem sc__law_due : FnScope N__law_due ["_law_hand", "_law_size", "_law_own", "_law_told"] (defScope s__law_due) := ⟨rfl, rfl, rfl, by decide +kernel, rfl, by decide +kernel, by decide +kernel⟩
theorem bn__law_due (T : Facts K mg F) : Binds K F.fd__law_due ["_law_hand", "_law_size", "_law_own", "_law_told"] [] := T.d__law_due.bindsN fun _ _ _ _ _ _ us hl => match us, hl with | [_, _, _, _], _ => rfl
theorem ok__law_due (T : Facts K mg F) (TB : ∀ p ∈ tf, LamX.TabB base mg (He.cT K p).1 (He.cT K p).2) : FnOk P w K mg base (L2.CX P w) 2 (He.fAd K ("_law_due", none)) F.fd__law_due ["_law_hand", "_law_size", "_law_own", "_law_told"] (LF K (Cc K) sp__law_due) := by
    have ok__law_ballot := ok__law_ballot T TB (P := P) (w := w) (base := base)
    have ok__law_many := ok__law_many T TB (P := P) (w := w) (base := base)
    have ok__law_under := ok__law_under T TB (P := P) (w := w) (base := base)
    refine g_fn (t := t__law_due) T.d__law_due sc__law_due (fun _ _ _ _ h => len__law_due h) (fun X cdv A outer s H E g W hX hr tk hp => ?_) b__law_due
    subst hX
    have nd := sc__law_due.nd
    have tk0 : ∀ {Y : Cx} {g : Gw} {L : Lk}, Takes Y (LW K (Cc K) g L W0) := takes0.imp fun _ _ _ _ ⟨_, _, _, _, _, _, _, _, z⟩ => z
    exact gs_cons (gs_asg (tg_ns [4, 5, 6, 7]) (ps_asg (g_var 2 (pv 2)) (pg_tup rfl (pgs_cons (pg_name (i := 4) nd rfl (by first | exact Or.inl rfl | exact Or.inr rfl)) (pgs_cons (pg_name (i := 5) nd rfl (by first | exact Or.inl rfl | exact Or.inr rfl)) (pgs_cons (pg_name (i := 6) nd rfl (by first | exact Or.inl rfl | exact Or.inr rfl)) (pgs_cons (pg_name (i := 7) nd rfl (by first | exact Or.inl rfl | exact Or.inr rfl)) (pgs_nil)))))))) (gs_cons (gs_if (g_test (g_call ok__law_under (hr.mono (by decide)) rfl T.m__law_under T.d__law_under.kp (bn__law_under T) .nil (fun _ => .nil) tk (ga_cons (g_var 4 (pv 4)) (ga_cons (g_ix hr (g_up (g_var 3 (pv 3))) (g_up (g_int)) (fun _ _ => rfl)) (ga_nil)))) (by intro _; rfl)) (gs_one (gs_set (ps_set (i := 4) nd rfl (by first | exact Or.inl rfl | exact Or.inr rfl) (g_ix hr (g_up (g_var 3 (pv 3))) (g_up (g_int)) (fun _ _ => rfl))))) (gs_nil)) (gs_cons (gs_if (PW.pt (g_and (g_tcmp op_notN og_notN (g_up (g_ix hr (g_up (g_var 3 (pv 3))) (g_up (g_int)) (fun _ _ => rfl))) (g_up (g_non)) (nomark _)) (g_and (g_tcmp (op_eqA hr) og_eq (g_up (g_ix hr (g_up (g_ix hr (g_up (g_var 3 (pv 3))) (g_up (g_int)) (fun _ _ => rfl))) (g_up (g_int)) (fun _ _ => rfl))) (g_up (g_var 4 (pv 4))) (nomark _)) (g_and1 (g_test (g_call ok__law_under (hr.mono (by decide)) rfl T.m__law_under T.d__law_under.kp (bn__law_under T) .nil (fun _ => .nil) tk (ga_cons (g_call ok__law_ballot (hr.mono (by decide)) rfl T.m__law_ballot T.d__law_ballot.kp (bn__law_ballot T) .nil (fun _ => .nil) tk (ga_cons (g_var 5 (pv 5)) (ga_nil))) (ga_cons (g_var 4 (pv 4)) (ga_nil)))) (by intro _; rfl)))))) (gs_cons (gs_set (ps_set (i := 5) nd rfl (by first | exact Or.inl rfl | exact Or.inr rfl) (g_ix hr (g_up (g_var 3 (pv 3))) (g_up (g_int)) (fun _ _ => rfl)))) (gs_one (gs_set (ps_set (i := 6) nd rfl (by first | exact Or.inl rfl | exact Or.inr rfl) (g_op op_or og_or (g_up (g_ix hr (g_up (g_var 3 (pv 3))) (g_up (g_int)) (fun _ _ => rfl))) (g_up (g_op op_shl og_shl (g_up (g_int)) (g_up (g_var 0 (pv 0)))))))))) (gs_one (gs_if (PW.pt (g_and (g_tcmp op_notN og_notN (g_up (g_ix hr (g_up (g_var 3 (pv 3))) (g_up (g_int)) (fun _ _ => rfl))) (g_up (g_non)) (nomark _)) (g_and1 (g_tcmp (op_eqA hr) og_eq (g_up (g_ix hr (g_up (g_ix hr (g_up (g_var 3 (pv 3))) (g_up (g_int)) (fun _ _ => rfl))) (g_up (g_int)) (fun _ _ => rfl))) (g_up (g_call ok__law_ballot (hr.mono (by decide)) rfl T.m__law_ballot T.d__law_ballot.kp (bn__law_ballot T) .nil (fun _ => .nil) tk (ga_cons (g_var 5 (pv 5)) (ga_nil)))) (nomark _))))) (gs_one (gs_set (ps_set (i := 6) nd rfl (by first | exact Or.inl rfl | exact Or.inr rfl) (g_op op_or og_or (g_up (g_var 6 (pv 6))) (g_up (g_ix hr (g_up (g_var 3 (pv 3))) (g_up (g_int)) (fun _ _ => rfl))))))) (gs_nil)))) (gs_cons (gs_if (PW.pt (g_and (g_tcmp op_isN og_isN (g_up (g_var 7 (pv 7))) (g_up (g_non)) (nomark _)) (g_and (g_tcmp op_notN og_notN (g_up (g_var 5 (pv 5))) (g_up (g_non)) (nomark _)) (g_and1 (g_tcmp op_gt og_gt (g_up (g_op op_mulA og_mulA (g_up (g_int)) (g_up (g_call ok__law_many (hr.mono (by decide)) rfl T.m__law_many T.d__law_many.kp (bn__law_many T) .nil (fun _ => .nil) tk (ga_cons (g_var 6 (pv 6)) (ga_nil)))))) (g_up (g_var 1 (pv 1))) (nomark _)))))) (gs_one (gs_set (ps_set (i := 7) nd rfl (by first | exact Or.inl rfl | exact Or.inr rfl) (g_ix hr (g_up (g_var 5 (pv 5))) (g_up (g_int)) (fun _ _ => rfl))))) (gs_nil)) (gs_one (gs_ret (g_tup (ga_cons (g_var 4 (pv 4)) (ga_cons (g_var 5 (pv 5)) (ga_cons (g_var 6 (pv 6)) (ga_cons (g_var 7 (pv 7)) (ga_nil)))))))))))
theorem sc__law_seen : FnScope N__law_seen ["_law_change"] (defScope s__law_seen) := ⟨rfl, rfl, rfl, by decide +kernel, rfl, by decide +kernel, by decide +kernel⟩
theorem bn__law_seen (T : Facts K mg F) : Binds K F.fd__law_seen ["_law_change"] [] := T.d__law_seen.bindsN fun _ _ _ _ _ _ us hl => match us, hl with | [_], _ => rfl
theorem ok__law_seen (T : Facts K mg F) (TB : ∀ p ∈ tf, LamX.TabB base mg (He.cT K p).1 (He.cT K p).2) : FnOk P w K mg base (L2.CX P w) 2 (He.fAd K ("_law_seen", none)) F.fd__law_seen ["_law_change"] (LF K (Cc K) sp__law_seen) := by
    have ok_Change_settled := ok_Change_settled T TB (P := P) (w := w) (base := base)
    refine g_fn (t := t__law_seen) T.d__law_seen sc__law_seen (fun _ _ _ _ h => len__law_seen h) (fun X cdv A outer s H E g W hX hr tk hp => ?_) b__law_seen
    subst hX
    have nd := sc__law_seen.nd
    have tk0 : ∀ {Y : Cx} {g : Gw} {L : Lk}, Takes Y (LW K (Cc K) g L W0) := takes0.imp fun _ _ _ _ ⟨_, _, _, _, _, _, _, _, z⟩ => z
    exact gs_one (gs_ret (g_tup (ga_cons (g_fld (fo_ballot_2 T) (g_var 0 (pv 0))) (ga_cons (g_fld (fo_yes_3 T) (g_var 0 (pv 0))) (ga_cons (g_fld (fo_votes_4 T) (g_var 0 (pv 0))) (ga_cons (g_me0 (c := 0) (C := Cc _) (g_var 0 (pv 0)) T.cl_Change T.me_Change_settled (show ("settled" : Str) ∉ fls 0 by decide +kernel) ok_Change_settled (hr.mono (by decide)) (bn_Change_settled T) .nil (fun _ => .nil) tk) (ga_nil)))))))
theorem sc_Change_settle : FnScope N_Change_settle ["self"] (defScope s_Change_settle) := ⟨rfl, rfl, rfl, by decide +kernel, rfl, by decide +kernel, by decide +kernel⟩
theorem bn_Change_settle (T : Facts K mg F) : Binds K F.fd_Change_settle ["self"] [] := T.d_Change_settle.bindsN fun _ _ _ _ _ _ us hl => match us, hl with | [_], _ => rfl
theorem ok_Change_settle (T : Facts K mg F) (TB : ∀ p ∈ tf, LamX.TabB base mg (He.cT K p).1 (He.cT K p).2) : FnOk P w K mg base (L2.CX P w) 3 (He.fAd K ("Change", some "settle")) F.fd_Change_settle ["self"] (LF K (Cc K) sp_Change_settle) := by
    have ok_more_than_half := ok_more_than_half T TB (P := P) (w := w) (base := base)
    refine g_fn (t := t_Change_settle) T.d_Change_settle sc_Change_settle (fun _ _ _ _ h => len_Change_settle h) (fun X cdv A outer s H E g W hX hr tk hp => ?_) b_Change_settle
    subst hX
    have nd := sc_Change_settle.nd
    have tk0 : ∀ {Y : Cx} {g : Gw} {L : Lk}, Takes Y (LW K (Cc K) g L W0) := takes0.imp fun _ _ _ _ ⟨_, _, _, _, _, _, _, _, z⟩ => z
    exact gs_one (gs_if (PW.pt (g_and (g_tcmp op_isN og_isN (g_up (g_fld (fo_agreed_6 T) (g_var 0 (pv 0)))) (g_up (g_non)) (nomark _)) (g_and (g_tcmp op_notN og_notN (g_up (g_fld (fo_yes_3 T) (g_var 0 (pv 0)))) (g_up (g_non)) (nomark _)) (g_and1 (g_test (g_call ok_more_than_half (hr.mono (by decide)) rfl T.m_more_than_half T.d_more_than_half.kp (bn_more_than_half T) .nil (fun _ => .nil) tk (ga_cons (g_fld (fo_votes_4 T) (g_var 0 (pv 0))) (ga_cons (g_fld (fo_hands_1 T) (g_var 0 (pv 0))) (ga_nil)))) (by intro _; rfl)))))) (gs_one (gs_fld (fo_agreed_6 T) (g_var 0 (pv 0)) (g_ix hr (g_up (g_fld (fo_yes_3 T) (g_var 0 (pv 0)))) (g_up (g_int)) (fun _ _ => rfl)) rfl)) (gs_nil))
theorem sc_Change_enough : FnScope N_Change_enough ["self", "doubts"] (defScope s_Change_enough) := ⟨rfl, rfl, rfl, by decide +kernel, rfl, by decide +kernel, by decide +kernel⟩
theorem bn_Change_enough (T : Facts K mg F) : Binds K F.fd_Change_enough ["self", "doubts"] [] := T.d_Change_enough.bindsN fun _ _ _ _ _ _ us hl => match us, hl with | [_, _], _ => rfl
theorem ok_Change_enough (T : Facts K mg F) (TB : ∀ p ∈ tf, LamX.TabB base mg (He.cT K p).1 (He.cT K p).2) : FnOk P w K mg base (L2.CX P w) 3 (He.fAd K ("Change", some "enough")) F.fd_Change_enough ["self", "doubts"] (LF K (Cc K) sp_Change_enough) := by
    have ok_hands_of := ok_hands_of T TB (P := P) (w := w) (base := base)
    have ok_has := ok_has T TB (P := P) (w := w) (base := base)
    have ok_more_than_half := ok_more_than_half T TB (P := P) (w := w) (base := base)
    refine g_fn (t := t_Change_enough) T.d_Change_enough sc_Change_enough (fun _ _ _ _ h => len_Change_enough h) (fun X cdv A outer s H E g W hX hr tk hp => ?_) b_Change_enough
    subst hX
    have nd := sc_Change_enough.nd
    have tk0 : ∀ {Y : Cx} {g : Gw} {L : Lk}, Takes Y (LW K (Cc K) g L W0) := takes0.imp fun _ _ _ _ ⟨_, _, _, _, _, _, _, _, z⟩ => z
    exact gs_cons (gs_set (ps_set (i := 2) nd rfl (by first | exact Or.inl rfl | exact Or.inr rfl) (g_int))) (gs_cons (gs_for hp rfl (gi_seq (g_frz (g_callO ok_hands_of (hr.mono (by decide)) rfl T.m_hands_of T.d_hands_of.kp (bn_hands_of T) .nil (fun _ => .nil) tk (ga_cons (g_fld (fo_hands_1 T) (g_var 0 (pv 0))) (ga_nil))))) (pg_name (i := 3) nd rfl (by first | exact Or.inl rfl | exact Or.inr rfl)) (tg_n 3) (gs_one (gs_if (g_tcmp (op_inA hr) (og_in false) (g_up (g_var 3 (pv 3))) (g_up (g_fld (fo_reports_5 T) (g_var 0 (pv 0)))) (by rfl)) (gs_one (gs_set (ps_set (i := 2) nd rfl (by first | exact Or.inl rfl | exact Or.inr rfl) (g_op op_or og_or (g_up (g_var 2 (pv 2))) (g_up (g_op op_shl og_shl (g_up (g_int)) (g_up (g_var 3 (pv 3))))))))) (gs_one (gs_if (g_not (g_test (g_call ok_has (hr.mono (by decide)) rfl T.m_has T.d_has.kp (bn_has T) .nil (fun _ => .nil) tk (ga_cons (g_var 1 (pv 1)) (ga_cons (g_var 3 (pv 3)) (ga_nil)))) (by intro _; rfl))) (gs_one (gs_ret (g_bl))) (gs_nil)))))) (gs_one (gs_ret (g_call ok_more_than_half (hr.mono (by decide)) rfl T.m_more_than_half T.d_more_than_half.kp (bn_more_than_half T) .nil (fun _ => .nil) tk (ga_cons (g_var 2 (pv 2)) (ga_cons (g_fld (fo_hands_1 T) (g_var 0 (pv 0))) (ga_nil)))))))
theorem sc_Change_receive_yes : FnScope N_Change_receive_yes ["self", "yes", "votes"] (defScope s_Change_receive_yes) := ⟨rfl, rfl, rfl, by decide +kernel, rfl, by decide +kernel, by decide +kernel⟩
theorem bn_Change_receive_yes (T : Facts K mg F) : Binds K F.fd_Change_receive_yes ["self", "yes", "votes"] [] := T.d_Change_receive_yes.bindsN fun _ _ _ _ _ _ us hl => match us, hl with | [_, _, _], _ => rfl
theorem ok_Change_receive_yes (T : Facts K mg F) (TB : ∀ p ∈ tf, LamX.TabB base mg (He.cT K p).1 (He.cT K p).2) : FnOk P w K mg base (L2.CX P w) 4 (He.fAd K ("Change", some "receive_yes")) F.fd_Change_receive_yes ["self", "yes", "votes"] (LF K (Cc K) sp_Change_receive_yes) := by
    have ok_Change_settle := ok_Change_settle T TB (P := P) (w := w) (base := base)
    have ok_ballot_of := ok_ballot_of T TB (P := P) (w := w) (base := base)
    have ok_under := ok_under T TB (P := P) (w := w) (base := base)
    refine g_fn (t := t_Change_receive_yes) T.d_Change_receive_yes sc_Change_receive_yes (fun _ _ _ _ h => len_Change_receive_yes h) (fun X cdv A outer s H E g W hX hr tk hp => ?_) b_Change_receive_yes
    subst hX
    have nd := sc_Change_receive_yes.nd
    have tk0 : ∀ {Y : Cx} {g : Gw} {L : Lk}, Takes Y (LW K (Cc K) g L W0) := takes0.imp fun _ _ _ _ ⟨_, _, _, _, _, _, _, _, z⟩ => z
    exact gs_cons (gs_if (g_tcmp op_isN og_isN (g_up (g_var 1 (pv 1))) (g_up (g_non)) (nomark _)) (gs_one (gs_retN)) (gs_nil)) (gs_cons (gs_if (PW.pt (g_and (g_tcmp (op_eqA hr) og_eq (g_up (g_ix hr (g_up (g_var 1 (pv 1))) (g_up (g_int)) (fun _ _ => rfl))) (g_up (g_fld (fo_ballot_2 T) (g_var 0 (pv 0)))) (nomark _)) (g_and1 (g_test (g_call ok_under (hr.mono (by decide)) rfl T.m_under T.d_under.kp (bn_under T) .nil (fun _ => .nil) tk (ga_cons (g_call ok_ballot_of (hr.mono (by decide)) rfl T.m_ballot_of T.d_ballot_of.kp (bn_ballot_of T) .nil (fun _ => .nil) tk (ga_cons (g_fld (fo_yes_3 T) (g_var 0 (pv 0))) (ga_nil))) (ga_cons (g_ix hr (g_up (g_var 1 (pv 1))) (g_up (g_int)) (fun _ _ => rfl)) (ga_nil)))) (by intro _; rfl))))) (gs_cons (gs_fld (fo_yes_3 T) (g_var 0 (pv 0)) (g_var 1 (pv 1)) rfl) (gs_one (gs_fld (fo_votes_4 T) (g_var 0 (pv 0)) (g_op op_or og_or (g_up (g_var 2 (pv 2))) (g_up (g_op op_shl og_shl (g_up (g_int)) (g_up (g_fld (fo_me_0 T) (g_var 0 (pv 0))))))) rfl))) (gs_one (gs_if (g_tcmp (op_eqA hr) og_eq (g_up (g_ix hr (g_up (g_var 1 (pv 1))) (g_up (g_int)) (fun _ _ => rfl))) (g_up (g_call ok_ballot_of (hr.mono (by decide)) rfl T.m_ballot_of T.d_ballot_of.kp (bn_ballot_of T) .nil (fun _ => .nil) tk (ga_cons (g_fld (fo_yes_3 T) (g_var 0 (pv 0))) (ga_nil)))) (nomark _)) (gs_one (gs_fld (fo_votes_4 T) (g_var 0 (pv 0)) (g_op op_or og_or (g_up (g_fld (fo_votes_4 T) (g_var 0 (pv 0)))) (g_up (g_var 2 (pv 2)))) rfl)) (gs_nil)))) (gs_one (gs_drop (g_me0 (c := 0) (C := Cc _) (g_var 0 (pv 0)) T.cl_Change T.me_Change_settle (show ("settle" : Str) ∉ fls 0 by decide +kernel) ok_Change_settle (hr.mono (by decide)) (bn_Change_settle T) .nil (fun _ => .nil) tk) rfl)))
theorem sc_Change_propose : FnScope N_Change_propose ["self", "doubts", "make"] (defScope s_Change_propose) := ⟨rfl, rfl, rfl, by decide +kernel, rfl, by decide +kernel, by decide +kernel⟩
theorem bn_Change_propose (T : Facts K mg F) : Binds K F.fd_Change_propose ["self", "doubts", "make"] [] := T.d_Change_propose.bindsN fun _ _ _ _ _ _ us hl => match us, hl with | [_, _, _], _ => rfl
theorem ok_Change_propose (T : Facts K mg F) (TB : ∀ p ∈ tf, LamX.TabB base mg (He.cT K p).1 (He.cT K p).2) : FnOk P w K mg base (L2.CX P w) 4 (He.fAd K ("Change", some "propose")) F.fd_Change_propose ["self", "doubts", "make"] (LFF K (Cc K) sp_Change_propose) := by
    have ok_Change_enough := ok_Change_enough T TB (P := P) (w := w) (base := base)
    have ok_Change_settle := ok_Change_settle T TB (P := P) (w := w) (base := base)
    have ok_Change_unplanned := ok_Change_unplanned T TB (P := P) (w := w) (base := base)
    have ok_ballot_of := ok_ballot_of T TB (P := P) (w := w) (base := base)
    have ok_under := ok_under T TB (P := P) (w := w) (base := base)
    refine g_fnF (C := Cc K) (t := t_Change_propose) T.d_Change_propose sc_Change_propose (fun _ _ _ _ _ _ h => len_Change_propose h) (fun X cdv A outer s H E g W hX hr tk hp => ?_) b_Change_propose
    subst hX
    have nd := sc_Change_propose.nd
    have tk0 : ∀ {Y : Cx} {g : Gw} {L : Lk}, Takes Y (LW K (Cc K) g L W0) := takes0.imp fun _ _ _ _ ⟨_, _, _, _, _, _, _, _, z⟩ => z
    exact gs_cons (gs_if (PW.pt (g_or (g_not (g_test (g_me0 (c := 0) (C := Cc _) (g_var 0 (pv 0)) T.cl_Change T.me_Change_unplanned (show ("unplanned" : Str) ∉ fls 0 by decide +kernel) ok_Change_unplanned (hr.mono (by decide)) (bn_Change_unplanned T) .nil (fun _ => .nil) tk) (by intro _; rfl))) (g_or1 (g_not (g_test (g_me (c := 0) (C := Cc _) (g_var 0 (pv 0)) T.cl_Change T.me_Change_enough (show ("enough" : Str) ∉ fls 0 by decide +kernel) ok_Change_enough (hr.mono (by decide)) (bn_Change_enough T) .nil (fun _ => .nil) tk (ga_cons (g_var 1 (pv 1)) (ga_nil))) (by intro _; rfl)))))) (gs_one (gs_ret (g_bl))) (gs_nil)) (gs_cons (gs_set (ps_set (i := 3) nd rfl (by first | exact Or.inl rfl | exact Or.inr rfl) (g_non))) (gs_cons (gs_set (ps_set (i := 4) nd rfl (by first | exact Or.inl rfl | exact Or.inr rfl) (g_non))) (gs_cons (gs_for hp rfl (gi_seq (g_frz (g_biN (call_sortA rfl) oc_sorted rfl T.f_sorted (by decide +kernel) (gp_cons (g_up (g_fld (fo_reports_5 T) (g_var 0 (pv 0)))) (gp_nil))))) (pg_name (i := 5) nd rfl (by first | exact Or.inl rfl | exact Or.inr rfl)) (tg_n 5) (gs_cons (gs_set (ps_set (i := 6) nd rfl (by first | exact Or.inl rfl | exact Or.inr rfl) (g_ix hr (g_up (g_ix hr (g_up (g_fld (fo_reports_5 T) (g_var 0 (pv 0)))) (g_up (g_var 5 (pv 5))) (fun _ _ => rfl))) (g_up (g_int)) (fun _ _ => rfl)))) (gs_one (gs_if (g_test (g_call ok_under (hr.mono (by decide)) rfl T.m_under T.d_under.kp (bn_under T) .nil (fun _ => .nil) tk (ga_cons (g_var 3 (pv 3)) (ga_cons (g_call ok_ballot_of (hr.mono (by decide)) rfl T.m_ballot_of T.d_ballot_of.kp (bn_ballot_of T) .nil (fun _ => .nil) tk (ga_cons (g_var 6 (pv 6)) (ga_nil))) (ga_nil)))) (by intro _; rfl)) (gs_one (gs_asg (tg_ns [3, 4]) (ps_asg (g_var 6 (pv 6)) (pg_tup rfl (pgs_cons (pg_name (i := 3) nd rfl (by first | exact Or.inl rfl | exact Or.inr rfl)) (pgs_cons (pg_name (i := 4) nd rfl (by first | exact Or.inl rfl | exact Or.inr rfl)) (pgs_nil))))))) (gs_nil))))) (gs_cons (gs_if (g_tcmp op_isN og_isN (g_up (g_var 3 (pv 3))) (g_up (g_non)) (nomark _)) (gs_one (gs_set (ps_set (i := 4) nd rfl (by first | exact Or.inl rfl | exact Or.inr rfl) (g_callV (C := Cc _) (nsp := nsp) (nps := nps) (i := 2) (fun j cl c f => nall T TB j cl c f) hr (by decide) rfl (Or.inl rfl) (ga_cons (g_frz (g_lc (own := [("hand", 5)]) rfl nd (gi_seq (g_frz (g_biN (call_sortA rfl) oc_sorted rfl T.f_sorted (by decide +kernel) (gp_cons (g_up (g_fld (fo_reports_5 T) (g_var 0 (pv 0)))) (gp_nil))))) (blkOk_by (N := N_Change_propose) (sc := defScope s_Change_propose) (by decide +kernel)) (fun _ _ _ _ _ => pg_name (i := 5) nd rfl (by first | exact Or.inl rfl | exact Or.inr rfl)) (tg_n 5) (tw_n 5) (gm_n 5) (by decide) (fun _ _ _ _ _ => gt_yes) (fun _ _ _ _ _ => g_ix hr (g_up (g_ix hr (g_up (g_fld (fo_reports_5 T) (g_var 0 (pv 0)))) (g_up (g_var 5 (pv 5))) (fun _ _ => rfl))) (g_up (g_int)) (fun _ _ => rfl)))) (ga_nil)))))) (gs_nil)) (gs_cons (gs_fld (fo_yes_3 T) (g_var 0 (pv 0)) (g_tup (ga_cons (g_fld (fo_ballot_2 T) (g_var 0 (pv 0))) (ga_cons (g_var 4 (pv 4)) (ga_nil)))) rfl) (gs_cons (gs_fld (fo_votes_4 T) (g_var 0 (pv 0)) (g_op op_shl og_shl (g_up (g_int)) (g_up (g_fld (fo_me_0 T) (g_var 0 (pv 0))))) rfl) (gs_cons (gs_drop (g_me0 (c := 0) (C := Cc _) (g_var 0 (pv 0)) T.cl_Change T.me_Change_settle (show ("settle" : Str) ∉ fls 0 by decide +kernel) ok_Change_settle (hr.mono (by decide)) (bn_Change_settle T) .nil (fun _ => .nil) tk) rfl) (gs_one (gs_ret (g_bl))))))))))
theorem sc_Change_receive : FnScope N_Change_receive ["self", "message"] (defScope s_Change_receive) := ⟨rfl, rfl, rfl, by decide +kernel, rfl, by decide +kernel, by decide +kernel⟩
theorem bn_Change_receive (T : Facts K mg F) : Binds K F.fd_Change_receive ["self", "message"] [] := T.d_Change_receive.bindsN fun _ _ _ _ _ _ us hl => match us, hl with | [_, _], _ => rfl
theorem ok_Change_receive (T : Facts K mg F) (TB : ∀ p ∈ tf, LamX.TabB base mg (He.cT K p).1 (He.cT K p).2) : FnOk P w K mg base (L2.CX P w) 5 (He.fAd K ("Change", some "receive")) F.fd_Change_receive ["self", "message"] (LF K (Cc K) sp_Change_receive) := by
    have ok_Change_receive_yes := ok_Change_receive_yes T TB (P := P) (w := w) (base := base)
    have ok_Change_unplanned := ok_Change_unplanned T TB (P := P) (w := w) (base := base)
    have ok_under := ok_under T TB (P := P) (w := w) (base := base)
    refine g_fn (t := t_Change_receive) T.d_Change_receive sc_Change_receive (fun _ _ _ _ h => len_Change_receive h) (fun X cdv A outer s H E g W hX hr tk hp => ?_) b_Change_receive
    subst hX
    have nd := sc_Change_receive.nd
    have tk0 : ∀ {Y : Cx} {g : Gw} {L : Lk}, Takes Y (LW K (Cc K) g L W0) := takes0.imp fun _ _ _ _ ⟨_, _, _, _, _, _, _, _, z⟩ => z
    exact gs_cons (gs_asg (tg_ns [2, 3, 4, 5, 6]) (ps_asg (g_var 1 (pv 1)) (pg_tup rfl (pgs_cons (pg_name (i := 2) nd rfl (by first | exact Or.inl rfl | exact Or.inr rfl)) (pgs_cons (pg_name (i := 3) nd rfl (by first | exact Or.inl rfl | exact Or.inr rfl)) (pgs_cons (pg_name (i := 4) nd rfl (by first | exact Or.inl rfl | exact Or.inr rfl)) (pgs_cons (pg_name (i := 5) nd rfl (by first | exact Or.inl rfl | exact Or.inr rfl)) (pgs_cons (pg_name (i := 6) nd rfl (by first | exact Or.inl rfl | exact Or.inr rfl)) (pgs_nil))))))))) (gs_cons (gs_if (g_test (g_call ok_under (hr.mono (by decide)) rfl T.m_under T.d_under.kp (bn_under T) .nil (fun _ => .nil) tk (ga_cons (g_fld (fo_ballot_2 T) (g_var 0 (pv 0))) (ga_cons (g_var 3 (pv 3)) (ga_nil)))) (by intro _; rfl)) (gs_cons (gs_fld (fo_ballot_2 T) (g_var 0 (pv 0)) (g_var 3 (pv 3)) rfl) (gs_one (gs_fld (fo_reports_5 T) (g_var 0 (pv 0)) (g_new (g_newK)) rfl))) (gs_nil)) (gs_cons (gs_drop (g_me (c := 0) (C := Cc _) (g_var 0 (pv 0)) T.cl_Change T.me_Change_receive_yes (show ("receive_yes" : Str) ∉ fls 0 by decide +kernel) ok_Change_receive_yes (hr.mono (by decide)) (bn_Change_receive_yes T) .nil (fun _ => .nil) tk (ga_cons (g_var 4 (pv 4)) (ga_cons (g_var 5 (pv 5)) (ga_nil)))) rfl) (gs_one (gs_if (PW.pt (g_and (g_tcmp op_notN og_notN (g_up (g_var 3 (pv 3))) (g_up (g_non)) (nomark _)) (g_and (g_tcmp (op_eqA hr) og_eq (g_up (g_var 3 (pv 3))) (g_up (g_fld (fo_ballot_2 T) (g_var 0 (pv 0)))) (nomark _)) (g_and1 (g_test (g_me0 (c := 0) (C := Cc _) (g_var 0 (pv 0)) T.cl_Change T.me_Change_unplanned (show ("unplanned" : Str) ∉ fls 0 by decide +kernel) ok_Change_unplanned (hr.mono (by decide)) (bn_Change_unplanned T) .nil (fun _ => .nil) tk) (by intro _; rfl)))))) (gs_one (gs_stE (ps_asg (g_tup (ga_cons (g_var 6 (pv 6)) (ga_cons (g_var 4 (pv 4)) (ga_nil)))) (pg_sub (g_fld (fo_reports_5 T) (g_var 0 (pv 0))) (g_var 2 (pv 2)) (set_dict hr))))) (gs_nil)))))
theorem sc__law_propose : FnScope N__law_propose ["_law_changes", "_law_hand", "_law_xs", "_law_cell"] (defScope s__law_propose) := ⟨rfl, rfl, rfl, by decide +kernel, rfl, by decide +kernel, by decide +kernel⟩
theorem bn__law_propose (T : Facts K mg F) : Binds K F.fd__law_propose ["_law_changes", "_law_hand", "_law_xs", "_law_cell"] [] := T.d__law_propose.bindsN fun _ _ _ _ _ _ us hl => match us, hl with | [_, _, _, _], _ => rfl
theorem ok__law_propose (T : Facts K mg F) (TB : ∀ p ∈ tf, LamX.TabB base mg (He.cT K p).1 (He.cT K p).2) : FnOk P w K mg base (L2.CX P w) 5 (He.fAd K ("_law_propose", none)) F.fd__law_propose ["_law_changes", "_law_hand", "_law_xs", "_law_cell"] (LF K (Cc K) sp__law_propose) := by
    have ok_Change_propose := ok_Change_propose T TB (P := P) (w := w) (base := base)
    have ok__law_make := ok__law_make T TB (P := P) (w := w) (base := base)
    refine g_fn (t := t__law_propose) T.d__law_propose sc__law_propose (fun _ _ _ _ h => len__law_propose h) (fun X cdv A outer s H E g W hX hr tk hp => ?_) b__law_propose
    subst hX
    have nd := sc__law_propose.nd
    have tk0 : ∀ {Y : Cx} {g : Gw} {L : Lk}, Takes Y (LW K (Cc K) g L W0) := takes0.imp fun _ _ _ _ ⟨_, _, _, _, _, _, _, _, z⟩ => z
    exact gs_cons (gs_set (ps_set (i := 4) nd rfl (by first | exact Or.inl rfl | exact Or.inr rfl) (g_int))) (gs_cons (gs_for hp rfl (gi_rg1 rfl T.f_range (ga_cons (g_bi call_lenA oc_len rfl T.f_len (by decide +kernel) (gp_cons (g_up (g_var 0 (pv 0))) (gp_nil))) (ga_nil))) (pg_name (i := 5) nd rfl (by first | exact Or.inl rfl | exact Or.inr rfl)) (tg_n 5) (gs_one (gs_if (g_tcmp (op_eqA hr) og_eq (g_up (g_op op_mod og_mod (g_up (g_op op_fdivW og_div (g_up (g_ix hr (g_up (g_var 2 (pv 2))) (g_up (g_int)) (fun _ _ => rfl))) (g_up (g_op op_addL og_addL (g_up (g_int)) (g_up (g_op op_mulA og_mulA (g_up (g_int)) (g_up (g_var 5 (pv 5))))))))) (g_up (g_int)))) (g_up (g_int)) (nomark _)) (gs_one (gs_set (ps_set (i := 4) nd rfl (by first | exact Or.inl rfl | exact Or.inr rfl) (g_op op_or og_or (g_up (g_var 4 (pv 4))) (g_up (g_op op_shl og_shl (g_up (g_int)) (g_up (g_ix hr (g_up (g_frz (g_biN (call_sortA rfl) oc_sorted rfl T.f_sorted (by decide +kernel) (gp_cons (g_up (g_var 0 (pv 0))) (gp_nil))))) (g_up (g_var 5 (pv 5))) (fun _ _ => rfl))))))))) (gs_nil)))) (gs_cons (gs_set (ps_set (i := 6) nd rfl (by first | exact Or.inl rfl | exact Or.inr rfl) (g_ix hr (g_up (g_frz (g_lst (ga_cons (g_var 3 (pv 3)) (ga_cons (g_str) (ga_cons (g_tup (ga_nil)) (ga_cons (g_tup (ga_cons (g_var 1 (pv 1)) (ga_cons (g_var 3 (pv 3)) (ga_nil)))) (ga_cons (g_ty call_str_int oc_str rfl T.f_str (by decide +kernel) (gp_cons (g_up (g_var 1 (pv 1))) (gp_nil))) (ga_nil))))))))) (g_up (g_op op_mod og_mod (g_up (g_ix hr (g_up (g_var 2 (pv 2))) (g_up (g_int)) (fun _ _ => rfl))) (g_up (g_int)))) (fun _ _ => rfl)))) (gs_one (gs_drop (g_meM (c := 0) (C := Cc _) (j := 0) (js := [0]) (g_ix hr (g_up (g_var 0 (pv 0))) (g_up (g_var 1 (pv 1))) (fun _ _ => rfl)) T.cl_Change T.me_Change_propose (show ("propose" : Str) ∉ fls 0 by decide +kernel) ok_Change_propose (hr.mono (by decide)) (bn_Change_propose T) tk (gm_cons (g_var 4 (pv 4)) (gm_last (C := Cc _) (j := 0) (js := [0]) (n := 1) ok__law_make (hr.mono (by decide)) rfl T.m__law_make T.d__law_make.kp (bn__law_make T) (by decide) tk (ga_cons (g_var 6 (pv 6)) (ga_nil))))) rfl))))
theorem sc__law_receive : FnScope N__law_receive ["_law_changes", "_law_hand", "_law_kept"] (defScope s__law_receive) := ⟨rfl, rfl, rfl, by decide +kernel, rfl, by decide +kernel, by decide +kernel⟩
theorem bn__law_receive (T : Facts K mg F) : Binds K F.fd__law_receive ["_law_changes", "_law_hand", "_law_kept"] [] := T.d__law_receive.bindsN fun _ _ _ _ _ _ us hl => match us, hl with | [_, _, _], _ => rfl
theorem ok__law_receive (T : Facts K mg F) (TB : ∀ p ∈ tf, LamX.TabB base mg (He.cT K p).1 (He.cT K p).2) : FnOk P w K mg base (L2.CX P w) 6 (He.fAd K ("_law_receive", none)) F.fd__law_receive ["_law_changes", "_law_hand", "_law_kept"] (LF K (Cc K) sp__law_receive) := by
    have ok_Change_receive := ok_Change_receive T TB (P := P) (w := w) (base := base)
    have ok__law_due := ok__law_due T TB (P := P) (w := w) (base := base)
    have ok__law_seen := ok__law_seen T TB (P := P) (w := w) (base := base)
    refine g_fn (t := t__law_receive) T.d__law_receive sc__law_receive (fun _ _ _ _ h => len__law_receive h) (fun X cdv A outer s H E g W hX hr tk hp => ?_) b__law_receive
    subst hX
    have nd := sc__law_receive.nd
    have tk0 : ∀ {Y : Cx} {g : Gw} {L : Lk}, Takes Y (LW K (Cc K) g L W0) := takes0.imp fun _ _ _ _ ⟨_, _, _, _, _, _, _, _, z⟩ => z
    exact gs_cons (gs_asg (tg_ns [3, 4, 5]) (ps_asg (g_var 2 (pv 2)) (pg_tup rfl (pgs_cons (pg_name (i := 3) nd rfl (by first | exact Or.inl rfl | exact Or.inr rfl)) (pgs_cons (pg_name (i := 4) nd rfl (by first | exact Or.inl rfl | exact Or.inr rfl)) (pgs_cons (pg_name (i := 5) nd rfl (by first | exact Or.inl rfl | exact Or.inr rfl)) (pgs_nil))))))) (gs_cons (gs_if (g_tcmp (op_eqA hr) og_eq (g_up (g_var 3 (pv 3))) (g_up (g_var 1 (pv 1))) (nomark _)) (gs_one (gs_ret (g_bl))) (gs_nil)) (gs_cons (gs_set (ps_set (i := 6) nd rfl (by first | exact Or.inl rfl | exact Or.inr rfl) (g_call ok__law_due (hr.mono (by decide)) rfl T.m__law_due T.d__law_due.kp (bn__law_due T) .nil (fun _ => .nil) tk (ga_cons (g_var 1 (pv 1)) (ga_cons (g_bi call_lenA oc_len rfl T.f_len (by decide +kernel) (gp_cons (g_up (g_var 0 (pv 0))) (gp_nil))) (ga_cons (g_call ok__law_seen (hr.mono (by decide)) rfl T.m__law_seen T.d__law_seen.kp (bn__law_seen T) .nil (fun _ => .nil) tk (ga_cons (g_ix hr (g_up (g_var 0 (pv 0))) (g_up (g_var 1 (pv 1))) (fun _ _ => rfl)) (ga_nil))) (ga_cons (g_var 5 (pv 5)) (ga_nil)))))))) (gs_cons (gs_drop (g_me (c := 0) (C := Cc _) (g_ix hr (g_up (g_var 0 (pv 0))) (g_up (g_var 1 (pv 1))) (fun _ _ => rfl)) T.cl_Change T.me_Change_receive (show ("receive" : Str) ∉ fls 0 by decide +kernel) ok_Change_receive (hr.mono (by decide)) (bn_Change_receive T) .nil (fun _ => .nil) tk (ga_cons (g_var 4 (pv 4)) (ga_nil))) rfl) (gs_cons (gs_set (ps_set (i := 7) nd rfl (by first | exact Or.inl rfl | exact Or.inr rfl) (g_call ok__law_seen (hr.mono (by decide)) rfl T.m__law_seen T.d__law_seen.kp (bn__law_seen T) .nil (fun _ => .nil) tk (ga_cons (g_ix hr (g_up (g_var 0 (pv 0))) (g_up (g_var 1 (pv 1))) (fun _ _ => rfl)) (ga_nil))))) (gs_cons (gs_if (PW.pt (g_or (g_test (g_isi (T := "bool") (by decide) rfl T.f_isinstance (pe_bltn rfl T.f_bool (by decide +kernel) rfl) (g_up (g_ix hr (g_up (g_var 7 (pv 7))) (g_up (g_int)) (fun _ _ => rfl)))) (by intro _; rfl)) (g_or1 (g_not (g_test (g_isi (T := "int") (by decide) rfl T.f_isinstance (pe_bltn rfl T.f_int (by decide +kernel) rfl) (g_up (g_ix hr (g_up (g_var 7 (pv 7))) (g_up (g_int)) (fun _ _ => rfl)))) (by intro _; rfl)))))) (gs_one (gs_ret (g_bl))) (gs_nil)) (gs_one (gs_ret (g_cmp (op_eqA hr) og_eq (g_up (g_var 7 (pv 7))) (g_up (g_var 6 (pv 6))) (nomark _)))))))))
theorem sc_law : FnScope N_law ["_law_script"] (defScope s_law) := ⟨rfl, rfl, rfl, by decide +kernel, rfl, by decide +kernel, by decide +kernel⟩
theorem ok_law (T : Facts K mg F) (TB : ∀ p ∈ tf, LamX.TabB base mg (He.cT K p).1 (He.cT K p).2) : FnOk P w K mg base CX0 7 (He.fAd K ("law", none)) F.fd_law ["_law_script"] (LF K (Cc K) sp_law) := by
    have ok_Change_begin := ok_Change_begin T TB (P := P) (w := w) (base := base)
    have ok_Change_init := ok_Change_init T TB (P := P) (w := w) (base := base)
    have ok_Change_message := ok_Change_message T TB (P := P) (w := w) (base := base)
    have ok__law_cell_at := ok__law_cell_at T TB (P := P) (w := w) (base := base)
    have ok__law_hands := ok__law_hands T TB (P := P) (w := w) (base := base)
    have ok__law_propose := ok__law_propose T TB (P := P) (w := w) (base := base)
    have ok__law_receive := ok__law_receive T TB (P := P) (w := w) (base := base)
    have ok__law_seen := ok__law_seen T TB (P := P) (w := w) (base := base)
    have ok__law_stream := ok__law_stream T TB (P := P) (w := w) (base := base)
    refine g_law (t := t_law) T.d_law sc_law (fun _ _ _ _ h => len_law h) (fun X cdv A outer s H E g hX hr tk hp => ?_) (fun _ _ _ _ h => law_noexc h) b_law
    subst hX
    have nd := sc_law.nd
    have tk0 : ∀ {Y : Cx} {g : Gw} {L : Lk}, Takes Y (LW K (Cc K) g L W0) := takes0.imp fun _ _ _ _ ⟨_, _, _, _, _, _, _, _, z⟩ => z
    exact gs_cons (gs_set (ps_set (i := 1) nd rfl (by first | exact Or.inl rfl | exact Or.inr rfl) (g_call ok__law_hands (hr.mono (by decide)) rfl T.m__law_hands T.d__law_hands.kp (bn__law_hands T) .nil (fun _ => .nil) tk (ga_cons (g_call ok__law_cell_at (hr.mono (by decide)) rfl T.m__law_cell_at T.d__law_cell_at.kp (bn__law_cell_at T) .nil (fun _ => .nil) tk (ga_cons (g_var 0 (pv 0)) (ga_cons (g_int) (ga_nil)))) (ga_nil))))) (gs_cons (gs_set (ps_set (i := 2) nd rfl (by first | exact Or.inl rfl | exact Or.inr rfl) (g_bi (cr_sum rfl) oc_sum rfl T.f_sum (by decide +kernel) (gp_cons (g_up (g_frz (g_lc (own := [("_law_hand", 3)]) rfl nd (gi_seq (g_var 1 (pv 1))) (blkOk_by (N := N_law) (sc := defScope s_law) (by decide +kernel)) (fun _ _ _ _ _ => pg_name (i := 3) nd rfl (by first | exact Or.inl rfl | exact Or.inr rfl)) (tg_n 3) (tw_n 3) (gm_n 3) (by decide) (fun _ _ _ _ _ => gt_yes) (fun _ _ _ _ _ => g_op op_shl og_shl (g_up (g_int)) (g_up (g_var 3 (pv 3))))))) (gp_nil))))) (gs_cons (gs_set (ps_set (i := 4) nd rfl (by first | exact Or.inl rfl | exact Or.inr rfl) (g_new (g_newK)))) (gs_cons (gs_for hp rfl (gi_seq (g_var 1 (pv 1))) (pg_name (i := 3) nd rfl (by first | exact Or.inl rfl | exact Or.inr rfl)) (tg_n 3) (gs_one (gs_stE (ps_asg (g_mk (c := 0) (C := Cc _) T.mk_Change ok_Change_init (hr.mono (by decide)) rfl T.g_Change (bn_Change_init T) .nil (fun _ => .nil) tk (ga_cons (g_var 3 (pv 3)) (ga_cons (g_var 2 (pv 2)) (ga_nil)))) (pg_sub (g_var 4 (pv 4)) (g_var 3 (pv 3)) (set_dict hr)))))) (gs_cons (gs_setO (ps_set (i := 5) nd rfl (by first | exact Or.inl rfl | exact Or.inr rfl) (g_lst (ga_nil)))) (gs_cons (gs_for hp rfl (gi_seq (g_slA (g_up (g_var 0 (pv 0))) (gpt_e (g_int)) (gpt_e (g_int)))) (pg_name (i := 6) nd rfl (by first | exact Or.inl rfl | exact Or.inr rfl)) (tg_n 6) (gs_cons (gs_set (ps_set (i := 7) nd rfl (by first | exact Or.inl rfl | exact Or.inr rfl) (g_call ok__law_stream (hr.mono (by decide)) rfl T.m__law_stream T.d__law_stream.kp (bn__law_stream T) .nil (fun _ => .nil) tk (ga_cons (g_var 6 (pv 6)) (ga_cons (g_int) (ga_nil)))))) (gs_cons (gs_set (ps_set (i := 3) nd rfl (by first | exact Or.inl rfl | exact Or.inr rfl) (g_ix hr (g_up (g_var 1 (pv 1))) (g_up (g_op op_mod og_mod (g_up (g_ix hr (g_up (g_var 7 (pv 7))) (g_up (g_int)) (fun _ _ => rfl))) (g_up (g_bi call_lenA oc_len rfl T.f_len (by decide +kernel) (gp_cons (g_up (g_var 1 (pv 1))) (gp_nil)))))) (fun _ _ => rfl)))) (gs_cons (gs_set (ps_set (i := 8) nd rfl (by first | exact Or.inl rfl | exact Or.inr rfl) (g_op op_mod og_mod (g_up (g_ix hr (g_up (g_var 7 (pv 7))) (g_up (g_int)) (fun _ _ => rfl))) (g_up (g_int))))) (gs_one (gs_if (g_tcmp (op_eqA hr) og_eq (g_up (g_var 8 (pv 8))) (g_up (g_int)) (nomark _)) (gs_one (gs_drop (g_me (c := 0) (C := Cc _) (g_ix hr (g_up (g_var 4 (pv 4))) (g_up (g_var 3 (pv 3))) (fun _ _ => rfl)) T.cl_Change T.me_Change_begin (show ("begin" : Str) ∉ fls 0 by decide +kernel) ok_Change_begin (hr.mono (by decide)) (bn_Change_begin T) .nil (fun _ => .nil) tk (ga_cons (g_op op_addL og_addL (g_up (g_int)) (g_up (g_op op_mod og_mod (g_up (g_ix hr (g_up (g_var 7 (pv 7))) (g_up (g_int)) (fun _ _ => rfl))) (g_up (g_ix hr (g_up (g_frz (g_lst (ga_cons (g_int) (ga_cons (g_int) (ga_cons (g_op op_pow og_pow (g_up (g_int)) (g_up (g_int))) (ga_nil))))))) (g_up (g_op op_mod og_mod (g_up (g_ix hr (g_up (g_var 7 (pv 7))) (g_up (g_int)) (fun _ _ => rfl))) (g_up (g_int)))) (fun _ _ => rfl)))))) (ga_cons (g_var 6 (pv 6)) (ga_nil)))) rfl)) (gs_one (gs_if (g_tcmp op_lt og_lt (g_up (g_var 8 (pv 8))) (g_up (g_int)) (nomark _)) (gs_one (gs_drop (g_call ok__law_propose (hr.mono (by decide)) rfl T.m__law_propose T.d__law_propose.kp (bn__law_propose T) .nil (fun _ => .nil) tk (ga_cons (g_var 4 (pv 4)) (ga_cons (g_var 3 (pv 3)) (ga_cons (g_var 7 (pv 7)) (ga_cons (g_var 6 (pv 6)) (ga_nil)))))) rfl)) (gs_one (gs_if (PW.pt (g_or (g_tcmp op_lt og_lt (g_up (g_var 8 (pv 8))) (g_up (g_int)) (nomark _)) (g_or1 (g_tcmp (op_eqA hr) og_eq (g_pk 5 (pv 5)) (g_up (g_frz (g_lst (ga_nil)))) (nomark _))))) (gs_one (gs_muO mu_app (ps_expr (pe_bm PySem.F.plainAttrs_list PySem.F.slot_list_append PySem.F.type_list_append mt_append (pv 5) (ga_cons (g_tup (ga_cons (g_var 3 (pv 3)) (ga_cons (g_me (c := 0) (C := Cc _) (g_ix hr (g_up (g_var 4 (pv 4))) (g_up (g_var 3 (pv 3))) (fun _ _ => rfl)) T.cl_Change T.me_Change_message (show ("message" : Str) ∉ fls 0 by decide +kernel) ok_Change_message (hr.mono (by decide)) (bn_Change_message T) .nil (fun _ => .nil) tk (ga_cons (g_var 6 (pv 6)) (ga_nil))) (ga_cons (g_call ok__law_seen (hr.mono (by decide)) rfl T.m__law_seen T.d__law_seen.kp (bn__law_seen T) .nil (fun _ => .nil) tk (ga_cons (g_ix hr (g_up (g_var 4 (pv 4))) (g_up (g_var 3 (pv 3))) (fun _ _ => rfl)) (ga_nil))) (ga_nil))))) (ga_nil)))))) (gs_one (gs_if (g_tcmp op_lt og_lt (g_up (g_var 8 (pv 8))) (g_up (g_int)) (nomark _)) (gs_one (gs_if (g_not (g_test (g_call ok__law_receive (hr.mono (by decide)) rfl T.m__law_receive T.d__law_receive.kp (bn__law_receive T) .nil (fun _ => .nil) tk (ga_cons (g_var 4 (pv 4)) (ga_cons (g_var 3 (pv 3)) (ga_cons (g_ix hr (g_pk 5 (pv 5)) (g_up (g_op op_sub og_sub (g_up (g_un un_neg (g_int))) (g_up (g_op op_mod og_mod (g_up (g_ix hr (g_up (g_var 7 (pv 7))) (g_up (g_int)) (fun _ _ => rfl))) (g_up (g_bi call_lenA oc_len rfl T.f_len (by decide +kernel) (gp_cons (g_pk 5 (pv 5)) (gp_nil)))))))) (fun _ _ => rfl)) (ga_nil))))) (by intro _; rfl))) (gs_one (gs_ret (g_bl))) (gs_nil))) (gs_cons (gs_set (ps_set (i := 9) nd rfl (by first | exact Or.inl rfl | exact Or.inr rfl) (g_tup (ga_cons (g_var 3 (pv 3)) (ga_cons (g_me (c := 0) (C := Cc _) (g_ix hr (g_up (g_var 4 (pv 4))) (g_up (g_var 3 (pv 3))) (fun _ _ => rfl)) T.cl_Change T.me_Change_message (show ("message" : Str) ∉ fls 0 by decide +kernel) ok_Change_message (hr.mono (by decide)) (bn_Change_message T) .nil (fun _ => .nil) tk (ga_cons (g_var 6 (pv 6)) (ga_nil))) (ga_cons (g_call ok__law_seen (hr.mono (by decide)) rfl T.m__law_seen T.d__law_seen.kp (bn__law_seen T) .nil (fun _ => .nil) tk (ga_cons (g_ix hr (g_up (g_var 4 (pv 4))) (g_up (g_var 3 (pv 3))) (fun _ _ => rfl)) (ga_nil))) (ga_nil))))))) (gs_one (gs_for hp rfl (gi_seq (g_var 1 (pv 1))) (pg_name (i := 10) nd rfl (by first | exact Or.inl rfl | exact Or.inr rfl)) (tg_n 10) (gs_one (gs_if (g_not (g_test (g_call ok__law_receive (hr.mono (by decide)) rfl T.m__law_receive T.d__law_receive.kp (bn__law_receive T) .nil (fun _ => .nil) tk (ga_cons (g_var 4 (pv 4)) (ga_cons (g_var 10 (pv 10)) (ga_cons (g_var 9 (pv 9)) (ga_nil))))) (by intro _; rfl))) (gs_one (gs_ret (g_bl))) (gs_nil)))))))))))))))))) (gs_one (gs_ret (g_bl))))))))
end
/-! the head -/
def D_has : He.DefD := ⟨("has", none), "has", "has", defArgs s_has, defBody s_has, defScope s_has, [], []⟩
def D_hands_of : He.DefD := ⟨("hands_of", none), "hands_of", "hands_of", defArgs s_hands_of, defBody s_hands_of, defScope s_hands_of, [], []⟩
def D_many : He.DefD := ⟨("many", none), "many", "many", defArgs s_many, defBody s_many, defScope s_many, [], []⟩
def D_more_than_half : He.DefD := ⟨("more_than_half", none), "more_than_half", "more_than_half", defArgs s_more_than_half, defBody s_more_than_half, defScope s_more_than_half, [], []⟩
def D_under : He.DefD := ⟨("under", none), "under", "under", defArgs s_under, defBody s_under, defScope s_under, [], []⟩
def D_ballot_of : He.DefD := ⟨("ballot_of", none), "ballot_of", "ballot_of", defArgs s_ballot_of, defBody s_ballot_of, defScope s_ballot_of, [], []⟩
def D_Change_init : He.DefD := ⟨("Change", some "__init__"), "__init__", "Change.__init__", defArgs s_Change_init, defBody s_Change_init, defScope s_Change_init, [], []⟩
def D_Change_begin : He.DefD := ⟨("Change", some "begin"), "begin", "Change.begin", defArgs s_Change_begin, defBody s_Change_begin, defScope s_Change_begin, [], []⟩
def D_Change_message : He.DefD := ⟨("Change", some "message"), "message", "Change.message", defArgs s_Change_message, defBody s_Change_message, defScope s_Change_message, [], []⟩
def D_Change_receive : He.DefD := ⟨("Change", some "receive"), "receive", "Change.receive", defArgs s_Change_receive, defBody s_Change_receive, defScope s_Change_receive, [], []⟩
def D_Change_receive_yes : He.DefD := ⟨("Change", some "receive_yes"), "receive_yes", "Change.receive_yes", defArgs s_Change_receive_yes, defBody s_Change_receive_yes, defScope s_Change_receive_yes, [], []⟩
def D_Change_unplanned : He.DefD := ⟨("Change", some "unplanned"), "unplanned", "Change.unplanned", defArgs s_Change_unplanned, defBody s_Change_unplanned, defScope s_Change_unplanned, [], []⟩
def D_Change_settle : He.DefD := ⟨("Change", some "settle"), "settle", "Change.settle", defArgs s_Change_settle, defBody s_Change_settle, defScope s_Change_settle, [], []⟩
def D_Change_enough : He.DefD := ⟨("Change", some "enough"), "enough", "Change.enough", defArgs s_Change_enough, defBody s_Change_enough, defScope s_Change_enough, [], []⟩
def D_Change_propose : He.DefD := ⟨("Change", some "propose"), "propose", "Change.propose", defArgs s_Change_propose, defBody s_Change_propose, defScope s_Change_propose, [], []⟩
def D_Change_settled : He.DefD := ⟨("Change", some "settled"), "settled", "Change.settled", defArgs s_Change_settled, defBody s_Change_settled, defScope s_Change_settled, [], []⟩
def D__law_cell_at : He.DefD := ⟨("_law_cell_at", none), "_law_cell_at", "_law_cell_at", defArgs s__law_cell_at, defBody s__law_cell_at, defScope s__law_cell_at, [], []⟩
def D__law_stream : He.DefD := ⟨("_law_stream", none), "_law_stream", "_law_stream", defArgs s__law_stream, defBody s__law_stream, defScope s__law_stream, [], []⟩
def D__law_hands : He.DefD := ⟨("_law_hands", none), "_law_hands", "_law_hands", defArgs s__law_hands, defBody s__law_hands, defScope s__law_hands, [], []⟩
def D__law_under : He.DefD := ⟨("_law_under", none), "_law_under", "_law_under", defArgs s__law_under, defBody s__law_under, defScope s__law_under, [], []⟩
def D__law_ballot : He.DefD := ⟨("_law_ballot", none), "_law_ballot", "_law_ballot", defArgs s__law_ballot, defBody s__law_ballot, defScope s__law_ballot, [], []⟩
def D__law_many : He.DefD := ⟨("_law_many", none), "_law_many", "_law_many", defArgs s__law_many, defBody s__law_many, defScope s__law_many, [], []⟩
def D__law_due : He.DefD := ⟨("_law_due", none), "_law_due", "_law_due", defArgs s__law_due, defBody s__law_due, defScope s__law_due, [], []⟩
def D__law_seen : He.DefD := ⟨("_law_seen", none), "_law_seen", "_law_seen", defArgs s__law_seen, defBody s__law_seen, defScope s__law_seen, [], []⟩
def D__law_receive : He.DefD := ⟨("_law_receive", none), "_law_receive", "_law_receive", defArgs s__law_receive, defBody s__law_receive, defScope s__law_receive, [], []⟩
def D__law_make : He.DefD := ⟨("_law_make", none), "_law_make", "_law_make", defArgs s__law_make, defBody s__law_make, defScope s__law_make, [], []⟩
def D__law_propose : He.DefD := ⟨("_law_propose", none), "_law_propose", "_law_propose", defArgs s__law_propose, defBody s__law_propose, defScope s__law_propose, [], []⟩
def D_law : He.DefD := ⟨("law", none), "law", "law", defArgs s_law, defBody s_law, defScope s_law, [], []⟩
def fn : List He.DefD := [D_has, D_hands_of, D_many, D_more_than_half, D_under, D_ballot_of, D_Change_init, D_Change_begin, D_Change_message, D_Change_receive, D_Change_receive_yes, D_Change_unplanned, D_Change_settle, D_Change_enough, D_Change_propose, D_Change_settled, D__law_cell_at, D__law_stream, D__law_hands, D__law_under, D__law_ballot, D__law_many, D__law_due, D__law_seen, D__law_receive, D__law_make, D__law_propose, D_law]
def fa : List He.Fa := [.glo "has", .glo "hands_of", .glo "many", .glo "more_than_half", .glo "under", .glo "ballot_of", .glo "_law_cell_at", .glo "_law_stream", .glo "_law_hands", .glo "_law_under", .glo "_law_ballot", .glo "_law_many", .glo "_law_due", .glo "_law_seen", .glo "_law_receive", .glo "_law_make", .glo "_law_propose", .glo "law", .free "bool", .free "int", .free "isinstance", .free "len", .free "list", .free "range", .free "sorted", .free "str", .free "sum", .glo "Change", .cls "Change", .noat "Change" "me", .noat "Change" "hands", .noat "Change" "ballot", .noat "Change" "yes", .noat "Change" "votes", .noat "Change" "reports", .noat "Change" "agreed", .meth "Change" "begin", .meth "Change" "enough", .meth "Change" "message", .meth "Change" "propose", .meth "Change" "receive", .meth "Change" "receive_yes", .meth "Change" "settle", .meth "Change" "settled", .meth "Change" "unplanned", .mkr "Change"]
def fx : FaX := []
abbrev R : PySem.W.OpenRow := PySem.W.OpenLaw.row PySem.Challenge.rw_groupcall_k62_received
abbrev theHook : PySem.W.Hook := He.hookX 4 fa fn [] tf (exOk fx)
def seen (s : PySem.W.SharedT) : He.AlX := He.obsX 4 fa fn [] tf (exOk fx) (HandSHeadRun.getT s)
theorem seen_eq (s : PySem.W.SharedT) : seen s = theHook.obs s.abs := He.obsX_eq (HandSHeadRun.getT_eq s)
def others : List Str := "has" :: "hands_of" :: "many" :: "more_than_half" :: "under" :: "ballot_of" :: "Change" :: "_law_cell_at" :: "_law_stream" :: "_law_hands" :: "_law_under" :: "_law_ballot" :: "_law_many" :: "_law_due" :: "_law_seen" :: "_law_receive" :: "_law_make" :: "_law_propose" :: []
theorem run (w : World) : HandSHeadRun.RunEq R (PySem.W.view R.prog [21]) theHook seen 4000 others w := by
  intro os
  kernel_rfl
theorem facts {P : Program} {w : World} {K : PySem.W.Frag} {hp : Heap} {mg : Str → Option Value} {f : Addr} (X : K.In hp) (G : hp.Ns mainGlobals mg) (hfa : mg ("law" : Str) = some (.ref f)) (c : He.SaysD fa fn K) (c2 : exOk fx K = true) :
    ∃ fd : FuncData, (∀ (s : Shared) (v : Value), BindsTo s fd ⟨[v], []⟩ [("_law_script", v)]) ∧ ∀ base : Heap, K.In base → base.Ns mainGlobals mg → (∀ p ∈ tf, LamX.TabB base mg (He.cT K p).1 (He.cT K p).2) → FnOk P w K mg base CX0 7 f fd ["_law_script"] (LF K (Cc K) sp_law) := by
  obtain ⟨fd0, F0⟩ := c.def_ 0 (d := D_has) rfl
  obtain ⟨fd1, F1⟩ := c.def_ 1 (d := D_hands_of) rfl
  obtain ⟨fd2, F2⟩ := c.def_ 2 (d := D_many) rfl
  obtain ⟨fd3, F3⟩ := c.def_ 3 (d := D_more_than_half) rfl
  obtain ⟨fd4, F4⟩ := c.def_ 4 (d := D_under) rfl
  obtain ⟨fd5, F5⟩ := c.def_ 5 (d := D_ballot_of) rfl
  obtain ⟨fd6, F6⟩ := c.def_ 6 (d := D_Change_init) rfl
  obtain ⟨fd7, F7⟩ := c.def_ 7 (d := D_Change_begin) rfl
  obtain ⟨fd8, F8⟩ := c.def_ 8 (d := D_Change_message) rfl
  obtain ⟨fd9, F9⟩ := c.def_ 9 (d := D_Change_receive) rfl
  obtain ⟨fd10, F10⟩ := c.def_ 10 (d := D_Change_receive_yes) rfl
  obtain ⟨fd11, F11⟩ := c.def_ 11 (d := D_Change_unplanned) rfl
  obtain ⟨fd12, F12⟩ := c.def_ 12 (d := D_Change_settle) rfl
  obtain ⟨fd13, F13⟩ := c.def_ 13 (d := D_Change_enough) rfl
  obtain ⟨fd14, F14⟩ := c.def_ 14 (d := D_Change_propose) rfl
  obtain ⟨fd15, F15⟩ := c.def_ 15 (d := D_Change_settled) rfl
  obtain ⟨fd16, F16⟩ := c.def_ 16 (d := D__law_cell_at) rfl
  obtain ⟨fd17, F17⟩ := c.def_ 17 (d := D__law_stream) rfl
  obtain ⟨fd18, F18⟩ := c.def_ 18 (d := D__law_hands) rfl
  obtain ⟨fd19, F19⟩ := c.def_ 19 (d := D__law_under) rfl
  obtain ⟨fd20, F20⟩ := c.def_ 20 (d := D__law_ballot) rfl
  obtain ⟨fd21, F21⟩ := c.def_ 21 (d := D__law_many) rfl
  obtain ⟨fd22, F22⟩ := c.def_ 22 (d := D__law_due) rfl
  obtain ⟨fd23, F23⟩ := c.def_ 23 (d := D__law_seen) rfl
  obtain ⟨fd24, F24⟩ := c.def_ 24 (d := D__law_receive) rfl
  obtain ⟨fd25, F25⟩ := c.def_ 25 (d := D__law_make) rfl
  obtain ⟨fd26, F26⟩ := c.def_ 26 (d := D__law_propose) rfl
  obtain ⟨fd27, F27⟩ := c.def_ 27 (d := D_law) rfl
  have e := hfa.symm.trans (He.glo_ok X G (c.fact 17 (f := .glo "law") rfl))
  cases e
  have T : Facts K mg ⟨fd0, fd1, fd2, fd3, fd4, fd5, fd6, fd7, fd8, fd9, fd10, fd11, fd12, fd13, fd14, fd15, fd16, fd17, fd18, fd19, fd20, fd21, fd22, fd23, fd24, fd25, fd26, fd27⟩ := by
    exact ⟨F0, He.glo_ok X G (c.fact 0 (f := .glo "has") rfl), F1, He.glo_ok X G (c.fact 1 (f := .glo "hands_of") rfl), F2, He.glo_ok X G (c.fact 2 (f := .glo "many") rfl), F3, He.glo_ok X G (c.fact 3 (f := .glo "more_than_half") rfl), F4, He.glo_ok X G (c.fact 4 (f := .glo "under") rfl), F5, He.glo_ok X G (c.fact 5 (f := .glo "ballot_of") rfl), F6, F7, F8, F9, F10, F11, F12, F13, F14, F15, F16, He.glo_ok X G (c.fact 6 (f := .glo "_law_cell_at") rfl), F17, He.glo_ok X G (c.fact 7 (f := .glo "_law_stream") rfl), F18, He.glo_ok X G (c.fact 8 (f := .glo "_law_hands") rfl), F19, He.glo_ok X G (c.fact 9 (f := .glo "_law_under") rfl), F20, He.glo_ok X G (c.fact 10 (f := .glo "_law_ballot") rfl), F21, He.glo_ok X G (c.fact 11 (f := .glo "_law_many") rfl), F22, He.glo_ok X G (c.fact 12 (f := .glo "_law_due") rfl), F23, He.glo_ok X G (c.fact 13 (f := .glo "_law_seen") rfl), F24, He.glo_ok X G (c.fact 14 (f := .glo "_law_receive") rfl), F25, He.glo_ok X G (c.fact 15 (f := .glo "_law_make") rfl), F26, He.glo_ok X G (c.fact 16 (f := .glo "_law_propose") rfl), F27, He.free_ok X G (c.fact 18 (f := .free "bool") rfl), He.free_ok X G (c.fact 19 (f := .free "int") rfl), He.free_ok X G (c.fact 20 (f := .free "isinstance") rfl), He.free_ok X G (c.fact 21 (f := .free "len") rfl), He.free_ok X G (c.fact 22 (f := .free "list") rfl), He.free_ok X G (c.fact 23 (f := .free "range") rfl), He.free_ok X G (c.fact 24 (f := .free "sorted") rfl), He.free_ok X G (c.fact 25 (f := .free "str") rfl), He.free_ok X G (c.fact 26 (f := .free "sum") rfl), (He.glo_ok X G (c.fact 27 (f := .glo "Change") rfl)), (He.cls_ok (c.fact 28 (f := .cls "Change") rfl)), (He.noat_ok (c.fact 29 (f := .noat "Change" "me") rfl)), (He.noat_ok (c.fact 30 (f := .noat "Change" "hands") rfl)), (He.noat_ok (c.fact 31 (f := .noat "Change" "ballot") rfl)), (He.noat_ok (c.fact 32 (f := .noat "Change" "yes") rfl)), (He.noat_ok (c.fact 33 (f := .noat "Change" "votes") rfl)), (He.noat_ok (c.fact 34 (f := .noat "Change" "reports") rfl)), (He.noat_ok (c.fact 35 (f := .noat "Change" "agreed") rfl)), (He.meth_ok (c.fact 36 (f := .meth "Change" "begin") rfl)), (He.meth_ok (c.fact 37 (f := .meth "Change" "enough") rfl)), (He.meth_ok (c.fact 38 (f := .meth "Change" "message") rfl)), (He.meth_ok (c.fact 39 (f := .meth "Change" "propose") rfl)), (He.meth_ok (c.fact 40 (f := .meth "Change" "receive") rfl)), (He.meth_ok (c.fact 41 (f := .meth "Change" "receive_yes") rfl)), (He.meth_ok (c.fact 42 (f := .meth "Change" "settle") rfl)), (He.meth_ok (c.fact 43 (f := .meth "Change" "settled") rfl)), (He.meth_ok (c.fact 44 (f := .meth "Change" "unplanned") rfl)), (He.mkr_ok (c.fact 45 (f := .mkr "Change") rfl))⟩
  have b := FunD.bindsA (ps := ["_law_script"]) F27 fun _ _ _ _ _ _ us hl => match us, hl with | [_], _ => rfl
  exact ⟨fd27, fun s v => b s [v] rfl, fun base _ _ hTB => ok_law T hTB⟩
theorem tb_at (K : PySem.W.Frag) (H : Hp) (hT : ∀ p ∈ tf.map (He.cT K), H p.2 = some (.tbl #[])) : ∀ p ∈ (Cc K).tb, H p.1 = some (.tbl #[]) := fun p hp => by
  have hp : p ∈ [((He.cT K ("_law_make", none)).2, nm__law_make)] := hp
  simp only [List.mem_cons, List.not_mem_nil, or_false] at hp
  rcases hp with rfl
  · exact hT (He.cT K ("_law_make", none)) (List.mem_map.mpr ⟨("_law_make", none), by simp [tf], rfl⟩)
end Law
open PySem PySem.Calls PySem.W PyProof.Rows
theorem PySem.Challenge.cw_groupcall_k62_received_holds : PySem.Challenge.rw_groupcall_k62_received.Holds := by
  w_on; o_law
  refine HandSHeadRun.head_any (r := OpenLaw.row PySem.Challenge.rw_groupcall_k62_received) (q := view (OpenLaw.row PySem.Challenge.rw_groupcall_k62_received).prog [21]) (H := Law.theHook) (ob := Law.seen) (M := 4000) (loose := Law.others) (d := HandSHeadRun.topDef (OpenLaw.row PySem.Challenge.rw_groupcall_k62_received).prog 21) (kwd := []) Law.seen_eq
    (by kernel_rfl) (fun s => by kernel_rfl) Law.run (by kernel_rfl) (by kernel_rfl) (by kernel_rfl) (by rfl) (by first | assumption | decide +kernel) (by decide +kernel) ⟨rfl, rfl, rfl, rfl, rfl, by decide +kernel⟩ ?hw ?hc
  case hw => w_witness2
  case hc =>
    refine LamX.walk_ofTsE (l := PySem.Challenge.rw_groupcall_k62_received) (n := 63) (k := 7) (x := "_law_script") (CX := fun _ => L2.CX0) rfl (by decide) (by kernel_rfl) ⟨rfl, by decide, by decide⟩ ?F (fun _ _ _ _ _ z => z)
    intro w mg fa h Y G hmg0
    obtain ⟨K, KX, c⟩ := Y
    have at_law : mg ("law" : PySem.Str) = some (.ref fa) := by
      have e : (HandSHeadRun.topDef (OpenLaw.row PySem.Challenge.rw_groupcall_k62_received).prog 21).name = ("law" : PySem.Str) := by kernel_rfl
      rw [← e]
      exact hmg0
    obtain ⟨fd, hb, hF⟩ := Law.facts (P := (PySem.Challenge.rw_groupcall_k62_received).prog) (w := w) KX G at_law (congrArg Prod.fst c.t) c.more
    refine ⟨K, KX, fd, Law.tf.map (He.cT K), _root_.G.LF K (Law.Cc K) Law.sp_law, fun p hp => ?_, fun p hp => ?_, fun p hp => ?_, hb, fun H a ns hl _ hT hS => _root_.G.law_startT (Law.start_law hl) hS fun p hp => ?_, fun base k1 k2 k3 => hF base k1 k2 fun p hp => k3 _ (List.mem_map.mpr ⟨p, hp, rfl⟩)⟩
    · obtain ⟨q, hq, rfl⟩ := List.mem_map.mp hp
      exact c.empty q hq
    · obtain ⟨q, hq, rfl⟩ := List.mem_map.mp hp
      exact c.out q hq
    · obtain ⟨q, hq, rfl⟩ := List.mem_map.mp hp
      exact PySem.W.codeHd_of_K KX (c.hd q hq)
    · exact Law.tb_at K H hT p hp
