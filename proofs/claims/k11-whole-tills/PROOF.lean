import PyProof.Rows.All
import Wide.All
import OpenK.AllK
import Wide.FinOn
import KE.KStateDown
import KE.SortData
import KE.DataFind
import KE.OsSortAny
import HandS.ForMost
import HandS.Exc
import HandS.TryOnly
import HandS.ExcOwn
import HandS.ExcIs
import HandS.ExcValue
import HandS.WordsExc
import HandS.Walk
import HandS.Style
import HandS.Conv
import HandS.Zip
import HandS.Deep
import HandS.FStr
import HandS.SetFor
import HandS.Strs
import HandS.Flow
import KE.DataEq
import HandS.TupAny
import HandS.IsInst
import HandS.Defaults
import HandS.HeadHook1
import HandS.HeadHook2
import HandS.Head0
import HandS.Head1
import HandS.Head2
import HandS.HeadEnd
import HandS.HeadHook4
import PySem.Challenge.RW_oftensets_k11_whole_tills
set_option Elab.async false
set_option linter.all false
set_option maxRecDepth 1000000
set_option maxHeartbeats 0
namespace PyD
open PySem PySem.Spec PyProof.Rows L2

abbrev excD (k : Nat) : PyData := .dict [(.int k, .none)]
abbrev tokD (k : Nat) : PyData := .dict [(.none, .int k)]
abbrev scrD (ns : List Int) : PyData := .dict [(.bool true, .list (ns.map .int))]

/-- the addresses of a store's object: the first is its own -/
abbrev SA := List Addr
inductive SObj where
  | draws (ns : List Int) (c : Int)
  | till (n : Int) (rows : List PyData)
  | lst (ds : List PyData)
abbrev Store := List SObj

/-- what is fixed through a law: the written part, the classes of errors by number, the class of tills -/
structure Gx where
  K : PySem.W.Frag
  C : Nat → Addr
  T : Addr

/-- an error at a, of the class cls -/
def ExK (cls : Value) (d : Option Addr) (a : Addr) : HO := .ext fun h => ∃ (oe : Obj) (vs : Array Value), h.get? a = some oe ∧ Zc cls d oe ∧ oe.data = .fields vs
mutual
/-- the value stands for the datum -/
inductive Rep (G : Gx) (st : List SA) (H : Hp) : V → PyData → Prop
  | non : Rep G st H .non .none
  | bl (b : Bool) : Rep G st H (.bl b) (.bool b)
  | int (i : Int) : Rep G st H (.int i) (.int i)
  | str (x : Str) : Rep G st H (.str x) (.str x)
  | lst {a : Addr} {xs : List V} {ds : List PyData} : H a = some (.lst xs) → xs.length ≤ sizeLine → RepL G st H xs ds → Rep G st H (.ref a) (.list ds)
  | tup {a : Addr} {xs : List V} {ds : List PyData} : H a = some (.tup xs) → xs.length ≤ sizeLine → RepL G st H xs ds → Rep G st H (.ref a) (.tuple ds)
  | exc {a : Addr} {k : Nat} : H a = some (ExK (.ref (G.C k)) none a) → Rep G st H (.ref a) (excD k)
  | tok {k : Nat} {a : Addr} {as : List Addr} : st[k]? = some (a :: as) → Rep G st H (.ref a) (tokD k)
  | scr {a : Addr} {ns : List Int} : SqL G.K H a (ns.map V.int) → ns.length ≤ sizeLine → Rep G st H (.ref a) (scrD ns)
inductive RepL (G : Gx) (st : List SA) (H : Hp) : List V → List PyData → Prop
  | nil : RepL G st H [] []
  | cons {v : V} {vs : List V} {d : PyData} {ds : List PyData} : Rep G st H v d → RepL G st H vs ds → RepL G st H (v :: vs) (d :: ds)
end

section
variable {G : Gx} {st st' : List SA} {H H' : Hp}
theorem sql_mono (e : ∀ a o, H a = some o → H' a = some o) {a : Addr} {xs : List V} (h : SqL G.K H a xs) : SqL G.K H' a xs := by
  rcases h with (h | ⟨o, h⟩) | h
  · exact .inl (.inl (e _ _ h))
  · exact .inl (.inr ⟨o, e _ _ h⟩)
  · exact .inr h
theorem get_pre {α : Type} {l l' : List α} (p : ∃ m, l' = l ++ m) {k : Nat} {x : α} (h : l[k]? = some x) : l'[k]? = some x := by
  obtain ⟨m, rfl⟩ := p
  rw [List.getElem?_append_left (List.getElem?_eq_some_iff.mp h).1]
  exact h
mutual
theorem Rep.mono (e : ∀ a o, H a = some o → H' a = some o) (p : ∃ m, st' = st ++ m) : ∀ {v : V} {d : PyData}, Rep G st H v d → Rep G st' H' v d
  | _, _, .non => .non
  | _, _, .bl b => .bl b
  | _, _, .int i => .int i
  | _, _, .str x => .str x
  | _, _, .lst h z r => .lst (e _ _ h) z (RepL.mono e p r)
  | _, _, .tup h z r => .tup (e _ _ h) z (RepL.mono e p r)
  | _, _, .exc h => .exc (e _ _ h)
  | _, _, .tok (k := k) h => .tok (k := k) (get_pre p h)
  | _, _, .scr h z => .scr (sql_mono e h) z
theorem RepL.mono (e : ∀ a o, H a = some o → H' a = some o) (p : ∃ m, st' = st ++ m) : ∀ {vs : List V} {ds : List PyData}, RepL G st H vs ds → RepL G st' H' vs ds
  | _, _, .nil => .nil
  | _, _, .cons a b => .cons (Rep.mono e p a) (RepL.mono e p b)
end
theorem RepL.length : ∀ {vs : List V} {ds : List PyData}, RepL G st H vs ds → vs.length = ds.length
  | _, _, .nil => rfl
  | _, _, .cons _ r => by simp [RepL.length r]
theorem RepL.get : ∀ {vs : List V} {ds : List PyData} {i : Nat} {v : V}, RepL G st H vs ds → vs[i]? = some v → ∃ d, ds[i]? = some d ∧ Rep G st H v d
  | _, _, _, _, .nil, e => by simp at e
  | _, _, 0, _, .cons r _, e => by simp at e; subst e; exact ⟨_, rfl, r⟩
  | _, _, i + 1, v, .cons _ t, e => by
    obtain ⟨d, h1, h2⟩ := RepL.get (i := i) (v := v) t (by simpa using e)
    exact ⟨d, by simpa using h1, h2⟩
theorem RepL.get' : ∀ {vs : List V} {ds : List PyData} {i : Nat} {d : PyData}, RepL G st H vs ds → ds[i]? = some d → ∃ v, vs[i]? = some v ∧ Rep G st H v d
  | _, _, _, _, .nil, e => by simp at e
  | _, _, 0, _, .cons r _, e => by simp at e; subst e; exact ⟨_, rfl, r⟩
  | _, _, i + 1, d, .cons _ t, e => by
    obtain ⟨v, h1, h2⟩ := RepL.get' (i := i) (d := d) t (by simpa using e)
    exact ⟨v, by simpa using h1, h2⟩
theorem RepL.append : ∀ {vs ws : List V} {ds es : List PyData}, RepL G st H vs ds → RepL G st H ws es → RepL G st H (vs ++ ws) (ds ++ es)
  | _, _, _, _, .nil, s => s
  | _, _, _, _, .cons r t, s => .cons r (RepL.append t s)
theorem RepL.take : ∀ {vs : List V} {ds : List PyData} (n : Nat), RepL G st H vs ds → RepL G st H (vs.take n) (ds.take n)
  | _, _, 0, _ => .nil
  | _, _, _ + 1, .nil => .nil
  | _, _, n + 1, .cons r t => .cons r (RepL.take n t)
theorem RepL.drop : ∀ {vs : List V} {ds : List PyData} (n : Nat), RepL G st H vs ds → RepL G st H (vs.drop n) (ds.drop n)
  | _, _, 0, r => r
  | _, _, _ + 1, .nil => .nil
  | _, _, n + 1, .cons _ t => RepL.drop n t
theorem RepL.set {v : V} {d : PyData} (r : Rep G st H v d) : ∀ {vs : List V} {ds : List PyData} (i : Nat), RepL G st H vs ds → RepL G st H (vs.set i v) (ds.set i d)
  | _, _, _, .nil => .nil
  | _, _, 0, .cons _ t => .cons r t
  | _, _, i + 1, .cons q t => .cons q (RepL.set r i t)
theorem RepL.reverse {vs : List V} {ds : List PyData} (r : RepL G st H vs ds) : RepL G st H vs.reverse ds.reverse := by
  induction vs generalizing ds with
  | nil => cases r; exact .nil
  | cons v vs ih =>
    cases r with
    | cons a b =>
      rw [List.reverse_cons, List.reverse_cons]
      exact (ih b).append (.cons a .nil)
theorem RepL.ints : ∀ {vs : List V} {ns : List Int}, RepL G st H vs (ns.map .int) → vs = ns.map V.int
  | _, [], r => by cases r; rfl
  | _, n :: ns, r => by
    cases r with
    | cons a b =>
      cases a
      rw [RepL.ints b]
      rfl
theorem RepL.of_ints : ∀ ns : List Int, RepL G st H (ns.map V.int) (ns.map .int)
  | [] => .nil
  | n :: ns => .cons (.int n) (RepL.of_ints ns)
end

structure Wd where
  hs : Addr → Prop
  st : List SA
  H : Hp
def adr (st : List SA) : List Addr := st.flatten
open Classical in
noncomputable def vis (hs : Addr → Prop) (H : Hp) : Hp := fun b => if hs b then none else H b
open Classical in
theorem vis_some {hs : Addr → Prop} {H : Hp} {b : Addr} {o : HO} : vis hs H b = some o ↔ ¬ hs b ∧ H b = some o := by
  show (if hs b then none else H b) = some o ↔ _
  by_cases e : hs b
  · rw [if_pos e]
    exact ⟨fun h => (by cases h), fun h => absurd e h.1⟩
  · rw [if_neg e]
    exact ⟨fun h => ⟨e, h⟩, fun h => h.2⟩
abbrev RepW (G : Gx) (w : Wd) : V → PyData → Prop := Rep G w.st (vis w.hs w.H)
abbrev RepLW (G : Gx) (w : Wd) : List V → List PyData → Prop := RepL G w.st (vis w.hs w.H)

structure Adv (w w' : Wd) : Prop where
  st : ∃ m, w'.st = w.st ++ m
  sub : ∀ b, w.hs b → w'.hs b
  new : ∀ b, w'.hs b → ¬ w.hs b → w.H b = none
  keep : ∀ b o, ¬ w.hs b → w.H b = some o → w'.H b = some o
  own : ∀ b, w.hs b → b ∉ adr w.st → w'.H b = w.H b
  fresh : ∀ b, b ∈ adr w'.st → b ∉ adr w.st → ¬ w.hs b
theorem Adv.refl (w : Wd) : Adv w w := ⟨⟨[], (List.append_nil _).symm⟩, fun _ h => h, fun _ h n => absurd h n, fun _ _ _ h => h, fun _ _ _ => rfl, fun _ h n => absurd h n⟩
theorem Adv.trans {w w1 w2 : Wd} (a : Adv w w1) (b : Adv w1 w2) : Adv w w2 where
  st := by
    obtain ⟨m, e⟩ := a.st
    obtain ⟨m', e'⟩ := b.st
    exact ⟨m ++ m', by rw [e', e, List.append_assoc]⟩
  sub := fun x h => b.sub x (a.sub x h)
  new := fun x h n => by
    by_cases h1 : w1.hs x
    · exact a.new x h1 n
    · have z := b.new x h h1
      cases q : w.H x with
      | none => rfl
      | some o =>
        rw [a.keep x o n q] at z
        cases z
  keep := fun x o n h => b.keep x o (fun h1 => by
    have z := a.new x h1 n
    rw [h] at z
    cases z) (a.keep x o n h)
  own := fun x h n => (b.own x (a.sub x h) fun z => a.fresh x z n h).trans (a.own x h n)
  fresh := fun x h n => by
    by_cases h1 : x ∈ adr w1.st
    · exact a.fresh x h1 n
    · exact fun q => b.fresh x h h1 (a.sub x q)
theorem Adv.vis {w w' : Wd} (a : Adv w w') : ∀ b o, vis w.hs w.H b = some o → vis w'.hs w'.H b = some o := fun b o h => by
  obtain ⟨n, h⟩ := vis_some.mp h
  refine vis_some.mpr ⟨fun q => ?_, a.keep b o n h⟩
  have z := a.new b q n
  rw [h] at z
  cases z
theorem Adv.rep {G : Gx} {w w' : Wd} (a : Adv w w') {v : V} {d : PyData} (r : RepW G w v d) : RepW G w' v d := r.mono a.vis a.st
theorem Adv.repL {G : Gx} {w w' : Wd} (a : Adv w w') {v : List V} {d : List PyData} (r : RepLW G w v d) : RepLW G w' v d := r.mono a.vis a.st

/-- the store's object stands at its addresses -/
def SObjR (G : Gx) (w : Wd) (as : SA) : SObj → Prop
  | .draws ns c => ∃ a b, as = [a, b] ∧ w.H a = some (.lst [.ref b, .int c]) ∧ w.H b = some (.lst (ns.map V.int)) ∧ ns.length ≤ sizeLine
  | .till n rows => ∃ x dx l vs, as = [x, dx, l] ∧ w.H x = some (.ins G.T dx [("things", .int n), ("line", .ref l)]) ∧ w.H dx = some (.own x) ∧ w.H l = some (.lst vs) ∧ vs.length ≤ sizeLine ∧ RepLW G w vs rows
  | .lst ds => ∃ p vs, as = [p] ∧ w.H p = some (.lst vs) ∧ vs.length ≤ sizeLine ∧ RepLW G w vs ds
structure Ok (G : Gx) (w : Wd) (S : Store) : Prop where
  ne : ∀ b, w.hs b → w.H b ≠ none
  len : w.st.length = S.length
  obj : ∀ (k : Nat) (as : SA) (o : SObj), w.st[k]? = some as → S[k]? = some o → SObjR G w as o
  hid : ∀ b, b ∈ adr w.st → w.hs b
  nd : (adr w.st).Nodup

/-- objects that are no store's taken out of the hidden ones -/
def Wd.sub (w : Wd) (A : Addr → Prop) : Wd := ⟨fun b => w.hs b ∧ ¬ A b, w.st, w.H⟩
def Wd.add (w : Wd) (A : Addr → Prop) : Wd := ⟨fun b => w.hs b ∨ A b, w.st, w.H⟩
def Wd.put (w : Wd) (a : Addr) (o : HO) : Wd := ⟨w.hs, w.st, upd w.H a o⟩
theorem vis_sub {w : Wd} {A : Addr → Prop} : ∀ b o, vis w.hs w.H b = some o → vis (w.sub A).hs (w.sub A).H b = some o := fun b o h => by
  obtain ⟨n, h⟩ := vis_some.mp h
  exact vis_some.mpr ⟨fun q => n q.1, h⟩
theorem rep_sub {G : Gx} {w : Wd} {A : Addr → Prop} {v : V} {d : PyData} (r : RepW G w v d) : RepW G (w.sub A) v d := r.mono vis_sub ⟨[], (List.append_nil _).symm⟩
theorem repL_sub {G : Gx} {w : Wd} {A : Addr → Prop} {v : List V} {d : List PyData} (r : RepLW G w v d) : RepLW G (w.sub A) v d := r.mono vis_sub ⟨[], (List.append_nil _).symm⟩
theorem SObjR.imp {G : Gx} {w w' : Wd} {as : SA} {o : SObj} (h : SObjR G w as o) (k : ∀ b ∈ as, w'.H b = w.H b) (v : ∀ b o, vis w.hs w.H b = some o → vis w'.hs w'.H b = some o) (p : ∃ m, w'.st = w.st ++ m) : SObjR G w' as o := by
  cases o with
  | draws ns c =>
    obtain ⟨a, b, rfl, h1, h2, h3⟩ := h
    exact ⟨a, b, rfl, by rw [k a (by simp), h1], by rw [k b (by simp), h2], h3⟩
  | till n rows =>
    obtain ⟨x, dx, l, vs, rfl, h1, h2, h3, h4, h5⟩ := h
    exact ⟨x, dx, l, vs, rfl, by rw [k x (by simp), h1], by rw [k dx (by simp), h2], by rw [k l (by simp), h3], h4, h5.mono v p⟩
  | lst ds =>
    obtain ⟨p0, vs, rfl, h1, h2, h3⟩ := h
    exact ⟨p0, vs, rfl, by rw [k p0 (by simp), h1], h2, h3.mono v p⟩
theorem mem_adr {st : List SA} {k : Nat} {as : SA} (h : st[k]? = some as) {b : Addr} (hb : b ∈ as) : b ∈ adr st := List.mem_flatten.mpr ⟨as, List.mem_of_getElem? h, hb⟩
theorem Ok.sub {G : Gx} {w : Wd} {S : Store} {A : Addr → Prop} (o : Ok G w S) (h : ∀ b, A b → b ∉ adr w.st) : Ok G (w.sub A) S where
  ne := fun b q => o.ne b q.1
  len := o.len
  obj := fun k as ob h1 h2 => (o.obj k as ob h1 h2).imp (fun _ _ => rfl) vis_sub ⟨[], (List.append_nil _).symm⟩
  hid := fun b q => ⟨o.hid b q, fun z => h b z q⟩
  nd := o.nd
theorem Adv.subs {w w' : Wd} {A : Addr → Prop} (a : Adv w w') (hA : ∀ b, A b → w.hs b ∧ b ∉ adr w.st) : Adv (w.sub A) (w'.sub A) where
  st := a.st
  sub := fun b h => ⟨a.sub b h.1, h.2⟩
  new := fun b h n => a.new b h.1 fun q => n ⟨q, h.2⟩
  keep := fun b o n h => by
    by_cases q : w.hs b
    · by_cases z : A b
      · exact (a.own b q (hA b z).2).trans h
      · exact absurd ⟨q, z⟩ n
    · exact a.keep b o q h
  own := fun b h n => a.own b h.1 n
  fresh := fun b h n q => a.fresh b h n q.1
/-- hidden objects of the first world made visible in the second one only -/
theorem Adv.subR {w w' : Wd} {A : Addr → Prop} (a : Adv w w') (hA : ∀ b, A b → ¬ w.hs b) : Adv w (w'.sub A) where
  st := a.st
  sub := fun b h => ⟨a.sub b h, fun q => hA b q h⟩
  new := fun b h n => a.new b h.1 n
  keep := a.keep
  own := a.own
  fresh := a.fresh
theorem Adv.addR {w w' : Wd} {A : Addr → Prop} (a : Adv w (w'.sub A)) (hA : ∀ b, A b → w.H b = none) : Adv w w' where
  st := a.st
  sub := fun b h => (a.sub b h).1
  new := fun b h n => by
    by_cases z : A b
    · exact hA b z
    · exact a.new b ⟨h, z⟩ n
  keep := a.keep
  own := a.own
  fresh := a.fresh
/-- a hidden object of the second world that the first one does not know is written -/
theorem Adv.putR {w w' : Wd} {p : Addr} {o : HO} (a : Adv w (w'.sub fun b => b = p)) (h1 : w.H p = none) (h2 : ¬ w.hs p) : Adv w ((w'.put p o).sub fun b => b = p) where
  st := a.st
  sub := a.sub
  new := a.new
  keep := fun b u n h => by
    have nb : b ≠ p := fun q => by
      rw [q, h1] at h
      cases h
    exact (upd_ne nb).trans (a.keep b u n h)
  own := fun b h n => by
    have nb : b ≠ p := fun q => h2 (by rw [← q]; exact h)
    exact (upd_ne nb).trans (a.own b h n)
  fresh := a.fresh
open Classical in
theorem vis_put {w : Wd} {p : Addr} {o : HO} (h : w.hs p) : vis (w.put p o).hs (w.put p o).H = vis w.hs w.H := by
  funext b
  show (if w.hs b then none else upd w.H p o b) = if w.hs b then none else w.H b
  by_cases e : w.hs b
  · rw [if_pos e, if_pos e]
  · rw [if_neg e, if_neg e]
    exact upd_ne fun q => e (by rw [q]; exact h)
theorem Ok.put {G : Gx} {w : Wd} {S : Store} {p : Addr} {o : HO} (k : Ok G w S) (hp : w.hs p) (hn : p ∉ adr w.st) : Ok G (w.put p o) S where
  ne := fun b q => by
    by_cases e : b = p
    · rw [e]
      show upd w.H p o p ≠ none
      rw [upd_same]
      exact fun z => by cases z
    · show upd w.H p o b ≠ none
      rw [upd_ne e]
      exact k.ne b q
  len := k.len
  obj := fun j as ob h1 h2 => (k.obj j as ob h1 h2).imp (fun b hb => upd_ne fun q => hn (by rw [← q]; exact mem_adr h1 hb)) (fun b u h => by rw [vis_put hp]; exact h) ⟨[], (List.append_nil _).symm⟩
  hid := k.hid
  nd := k.nd
/-- a new visible object -/
theorem Ok.newH {G : Gx} {w : Wd} {S : Store} {p : Addr} (k : Ok G w S) (h : w.H p = none) : ¬ w.hs p := fun q => k.ne p q h
theorem Adv.new1 {G : Gx} {w : Wd} {S : Store} {p : Addr} {o : HO} (k : Ok G w S) (h : w.H p = none) : Adv w (w.put p o) where
  st := ⟨[], (List.append_nil _).symm⟩
  sub := fun _ h => h
  new := fun b h n => absurd h n
  keep := fun b u _ q => (upd_ne (ne_of_none q h)).trans q
  own := fun b q n => upd_ne fun e => k.newH h (by rw [← e]; exact q)
  fresh := fun b q n => absurd q n
theorem Ok.new1 {G : Gx} {w : Wd} {S : Store} {p : Addr} {o : HO} (k : Ok G w S) (h : w.H p = none) : Ok G (w.put p o) S where
  ne := fun b q => by
    show upd w.H p o b ≠ none
    rw [upd_ne (a := p) (b := b) fun e => k.newH h (by rw [← e]; exact q)]
    exact k.ne b q
  len := k.len
  obj := fun j as ob h1 h2 => (k.obj j as ob h1 h2).imp (fun b hb => upd_ne fun q => k.newH h (by rw [← q]; exact k.hid b (mem_adr h1 hb))) (Adv.new1 k h).vis ⟨[], (List.append_nil _).symm⟩
  hid := k.hid
  nd := k.nd
/-- the same, hidden -/
theorem Ok.newO {G : Gx} {w : Wd} {S : Store} {p : Addr} {o : HO} (k : Ok G w S) (h : w.H p = none) : Ok G ((w.put p o).add fun b => b = p) S where
  ne := fun b q => by
    show upd w.H p o b ≠ none
    by_cases e : b = p
    · rw [e, upd_same]
      exact fun z => by cases z
    · rw [upd_ne e]
      exact k.ne b (q.resolve_right e)
  len := k.len
  obj := fun j as ob h1 h2 => (k.obj j as ob h1 h2).imp (fun b hb => upd_ne fun q => k.newH h (by rw [← q]; exact k.hid b (mem_adr h1 hb))) (fun b u q => by
    obtain ⟨n, q⟩ := vis_some.mp q
    have nb : b ≠ p := ne_of_none q h
    exact vis_some.mpr ⟨fun z => z.elim n nb, (upd_ne nb).trans q⟩) ⟨[], (List.append_nil _).symm⟩
  hid := fun b q => .inl (k.hid b q)
  nd := k.nd
theorem Adv.newO {G : Gx} {w : Wd} {S : Store} {p : Addr} {o : HO} (k : Ok G w S) (h : w.H p = none) : Adv w ((w.put p o).add fun b => b = p) where
  st := ⟨[], (List.append_nil _).symm⟩
  sub := fun _ h => .inl h
  new := fun b q n => by
    rcases q with q | q
    · exact absurd q n
    · rw [q]
      exact h
  keep := fun b u _ q => (upd_ne (ne_of_none q h)).trans q
  own := fun b q n => upd_ne fun e => k.newH h (by rw [← e]; exact q)
  fresh := fun b q n => absurd q n
theorem Ok.nadr {G : Gx} {w : Wd} {S : Store} {p : Addr} (k : Ok G w S) (h : w.H p = none) : p ∉ adr w.st := fun q => k.newH h (k.hid p q)

inductive Res (α : Type) where
  | ok (a : α) (s : Store)
  | exc (k : Nat) (s : Store)
  | bad
abbrev M (α : Type) := Store → Res α
def M.ret {α : Type} (a : α) : M α := fun s => .ok a s
def M.bnd {α β : Type} (x : M α) (f : α → M β) : M β := fun s => match x s with
  | .ok a s' => f a s'
  | .exc k s' => .exc k s'
  | .bad => .bad
def M.bad {α : Type} : M α := fun _ => .bad
def M.opt {α : Type} : Option α → M α
  | some a => fun s => .ok a s
  | none => fun _ => .bad
/-- what is asked of a result: E, if an error leaves -/
def RQ {α : Type} (G : Gx) (E : XK) (w : Wd) : Res α → (Wd → Store → α → Prop) → Prop
  | .ok a S, P => ∀ w', Adv w w' → Ok G w' S → P w' S a
  | .exc k S, _ => ∀ w', Adv w w' → Ok G w' S → E (.ref (G.C k)) none w'.H
  | .bad, _ => False
section
variable {G : Gx} {E : XK} {w w1 : Wd} {S : Store} {α β : Type} {P : Wd → Store → α → Prop} {R : Wd → Store → β → Prop}
theorem RQ.from (a : Adv w w1) {r : Res α} (h : RQ G E w r P) : RQ G E w1 r P := by
  cases r with
  | ok x s => exact fun w' b k => h w' (a.trans b) k
  | exc k s => exact fun w' b k => h w' (a.trans b) k
  | bad => exact h
theorem RQ.imp {P' : Wd → Store → α → Prop} {r : Res α} (h : RQ G E w r P) (i : ∀ w' S' a, Adv w w' → Ok G w' S' → r = .ok a S' → P w' S' a → P' w' S' a) : RQ G E w r P' := by
  cases r with
  | ok x s => exact fun w' b k => i w' s x b k rfl (h w' b k)
  | exc k s => exact h
  | bad => exact h
theorem RQ.bnd {x : M α} {f : α → M β} (h : RQ G E w (M.bnd x f S) R) : RQ G E w (x S) fun w' S' a => RQ G E w' (f a S') R := by
  unfold M.bnd at h
  cases e : x S with
  | ok a s =>
    rw [e] at h
    exact fun w' b _ => RQ.from b h
  | exc k s =>
    rw [e] at h
    exact h
  | bad =>
    rw [e] at h
    exact h
theorem RQ.opt {o : Option α} (k : Ok G w S) (h : RQ G E w (M.opt o S) P) : ∃ a, o = some a ∧ P w S a := by
  cases o with
  | some a => exact ⟨a, rfl, h w (Adv.refl w) k⟩
  | none => exact h.elim
end
end PyD

namespace PyD
open PySem PySem.Spec PyProof.Rows L2

inductive BOp | add | sub | mul | mod | fdv | pow
inductive COp | eq | ne | lt | le | gt | ge | is_ | isn | in_ | nin
  deriving DecidableEq
inductive Bi | len | list | tup | srt | sum | max | min | abs | all | any | str | int
  deriving DecidableEq
inductive Ty | int | bool | tup | list | str | exc (k : Nat) | ve
  deriving DecidableEq
inductive Tg | one (i : Nat) | two (i j : Nat) | three (i j k : Nat)

mutual
inductive Ex
  | var (i : Nat) | ovr (i : Nat)
  | cst (d : PyData)
  | glo (x : Str)
  | lst (es : Exs) | tup (es : Exs)
  | bin (o : BOp) (a b : Ex)
  | neg (a : Ex)
  | cmp (o : COp) (a b : Ex)
  | chn (o o' : COp) (a b c : Ex)
  | bop (isAnd : Bool) (es : Exs)
  | not (a : Ex)
  | ite (c a b : Ex)
  | call (f : Nat) (es : Exs)          -- a call of a def that takes and hands back data alone
  | cals (f : Nat) (es : Exs)          -- a call of a def that changes the store
  | calr (f : Nat) (es : Exs)          -- a call that may read own lists and hands back a plain value
  | draw (t l : Ex) | pick (t l : Ex) | start (s : Ex)
  | bi (f : Bi) (a : Ex)
  | mx2 (isMax : Bool) (a b : Ex)
  | isi (a : Ex) (t : Ty)
  | srs (a : Ex)                       -- sorted(set(a))
  | lrg (a : Ex) | trg (a : Ex) | lrg2 (a b : Ex)
  | idx (a i : Ex)
  | slc (a : Ex) (lo hi : Exo)
  | rev (a : Ex)
  | cnt (o a : Ex) | ind (o a : Ex) | joi (o a : Ex) | spl (o a : Ex)
  | fs3 (a : Ex) (z : Str) (b : Ex)    -- f'{a}z{b}'
  | tok0 (a : Ex)                      -- a new till's object (in no text)
  | thg (i : Nat)                      -- the name's things
  | lcal (f : Nat) (i j : Nat)         -- f(name.line, name)
  | llen (i : Nat)                     -- len(name.line)
  | lemp (i : Nat)                     -- name.line == []
  | lcpy (i : Nat)                     -- list(name.line)
  | lpop (i : Nat)                     -- name.line.pop()
  | tnew (f : Nat) (a : Ex)            -- Till(a)
  | mc0 (f : Nat) (t : Ex)             -- t.f()
  | mc1 (f : Nat) (t a : Ex)           -- t.f(a)
  | mln (t : Ex)                       -- len(t)
  | nlst (e : Ex)                      -- a new list as the store's object
  | tcal (f : Nat) (i j : Nat)         -- f(name, name), the first the store's list
  | cmp0 (s : Src) (t : Tg) (e : Ex)
  | cmp1 (s : Src) (t : Tg) (c : Ex) (e : Ex)
inductive Exs
  | nil
  | cons (e : Ex) (es : Exs)
inductive Exo
  | none
  | some (e : Ex)
inductive Src
  | it (e : Ex) | rg1 (a : Ex) | rg2 (a b : Ex) | enu (a : Ex) | zip (a b : Ex)
end
mutual
inductive St
  | asg (i : Nat) (e : Ex)
  | own (i : Nat) (e : Ex)
  | par2 (i j : Nat) (a b : Ex)
  | par3 (i j k : Nat) (a b c : Ex)
  | unp (i j : Nat) (e : Ex)
  | app (i : Nat) (e : Ex)
  | ext (i : Nat) (e : Ex)
  | aug (i : Nat) (e : Ex)
  | put (i : Nat) (k e : Ex)
  | rem (i : Nat) (e : Ex)
  | exp (e : Ex)
  | ifs (c : Ex) (a b : Sts)
  | for_ (s : Src) (t : Tg) (b : Sts)
  | whl (c : Ex) (b : Sts)
  | ret (e : Ex)
  | reto (e : Ex)
  | rse (k : Nat)
  | try_ (b : Sts) (k n j : Nat)
  | pas
  | shr (i : Nat) (s : St)
  | lapp (i j : Nat)                   -- name.line.append(name)
  | tapp (e a : Ex)                    -- e.append(a), e the store's list
  | retv (i : Nat)                     -- a list of one's own handed back
inductive Sts
  | nil
  | cons (s : St) (ss : Sts)
end

def lineD : Nat := 1000000
def okD (d : PyData) : Bool := d.plain && decide (d.depth ≤ 60)
def catS (x y : Str) : Option PyData := if x.length + y.length ≤ lineD then some (.str (x ++ y)) else none
def binD : BOp → PyData → PyData → Option PyData
  | .add, .int i, .int j => some (.int (i + j))
  | .add, .list xs, .list ys => if xs.length + ys.length ≤ lineD then some (.list (xs ++ ys)) else none
  | .add, .tuple xs, .tuple ys => if xs.length + ys.length ≤ lineD then some (.tuple (xs ++ ys)) else none
  | .add, .str x, .str y => catS x y
  | .sub, .int i, .int j => some (.int (i - j))
  | .mul, .int i, .int j => if (decide (-(2 ^ 64) < i) && decide (i < 2 ^ 64)) || (decide (-(2 ^ 64) < j) && decide (j < 2 ^ 64)) then some (.int (i * j)) else none
  | .mul, .list xs, .int k => if decide (-(2 ^ 63) ≤ k) && (decide (k < 2 ^ 63) && decide (xs.length * k.toNat ≤ lineD)) then some (.list (List.replicate k.toNat xs).flatten) else none
  | .mod, .int i, .int j => if 0 < j then some (.int (i % j)) else none
  | .fdv, .int i, .int j => if decide (0 < j) && decide (j < 1073741824) then some (.int (i / j)) else none
  | .pow, .int i, .int j => if decide (0 ≤ j) && (decide (j ≤ 1000) && decide (i.natAbs < 2 ^ 64)) then some (.int (i ^ j.toNat)) else none
  | _, _, _ => none
def inD (x : PyData) (xs : List PyData) : Option Bool := if okD x && xs.all okD then some (xs.any fun y => PyData.eqv y x) else none
def memS (x z : Str) : Option Bool := match x.cps.toList with
  | [c] => some (decide (c ∈ z.cps.toList))
  | _ => none
def cmpD : COp → PyData → PyData → Option PyData
  | .eq, a, b => if okD a && okD b then some (.bool (PyData.eqv a b)) else none
  | .ne, a, b => if okD a && okD b then some (.bool (!PyData.eqv a b)) else none
  | .lt, .int i, .int j => some (.bool (decide (i < j)))
  | .le, .int i, .int j => some (.bool (decide (i ≤ j)))
  | .gt, .int i, .int j => some (.bool (decide (j < i)))
  | .ge, .int i, .int j => some (.bool (decide (j ≤ i)))
  | .is_, .bool a, .bool b => some (.bool (decide (a = b)))
  | .is_, .none, .none => some (.bool true)
  | .is_, _, .none => some (.bool false)
  | .isn, .bool a, .bool b => some (.bool (!decide (a = b)))
  | .isn, .none, .none => some (.bool false)
  | .isn, _, .none => some (.bool true)
  | .in_, x, .list xs => (inD x xs).map .bool
  | .in_, x, .tuple xs => (inD x xs).map .bool
  | .in_, .str x, .str z => (memS x z).map .bool
  | .nin, x, .list xs => (inD x xs).map fun b => .bool (!b)
  | .nin, x, .tuple xs => (inD x xs).map fun b => .bool (!b)
  | _, _, _ => none
def intsD : List PyData → Option (List Int)
  | [] => some []
  | .int i :: r => (intsD r).map (i :: ·)
  | _ :: _ => none
def boolsD : List PyData → Option (List Bool)
  | [] => some []
  | .bool i :: r => (boolsD r).map (i :: ·)
  | _ :: _ => none
def strsD : List PyData → Option (List Str)
  | [] => some []
  | .str i :: r => (strsD r).map (i :: ·)
  | _ :: _ => none
def itemsD : PyData → Option (List PyData)
  | .list xs => some xs
  | .tuple xs => some xs
  | .str z => if z.length ≤ 1000 then some (z.cps.toList.map fun c => .str ⟨#[c]⟩) else none
  | _ => none
def insD (x : PyData) : List PyData → List PyData
  | [] => [x]
  | y :: ys => if PySem.W.dataLt y x then y :: insD x ys else x :: y :: ys
def sortD : List PyData → List PyData
  | [] => []
  | x :: xs => insD x (sortD xs)
def tupNe : PyData → Bool
  | .tuple (_ :: _) => true
  | _ => false
def notNT : PyData → Bool
  | .tuple _ => false
  | .none => false
  | _ => true
def alikeB (xs : List PyData) : Bool := xs.all fun a => xs.all fun b => PySem.W.alike a b
def notN1 : PyData → Bool
  | .none => false
  | _ => true
def srtOk (xs : List PyData) : Bool := alikeB xs && (xs.all okD && (xs.all tupNe || (xs.all notNT || (decide (xs.length < 2) && xs.all notN1))))
def srtD (xs : List PyData) : Option PyData := if srtOk xs then some (.list (sortD xs)) else none
def insI (x : Int) : List Int → List Int
  | [] => [x]
  | y :: ys => if x < y then x :: y :: ys else if x = y then y :: ys else y :: insI x ys
def setI : List Int → List Int
  | [] => []
  | x :: xs => insI x (setI xs)
def srsD : PyData → Option PyData
  | .tuple xs => (intsD xs).bind fun ns => if (setI ns).length ≤ 60 ∧ ns.length ≤ 4000 then some (.list ((setI ns).map .int)) else none
  | .list xs => (intsD xs).bind fun ns => if (setI ns).length ≤ 60 ∧ ns.length ≤ 4000 then some (.list ((setI ns).map .int)) else none
  | _ => none
def maxI : Int → List Int → Int
  | m, [] => m
  | m, x :: xs => maxI (if m < x then x else m) xs
def minI : Int → List Int → Int
  | m, [] => m
  | m, x :: xs => minI (if x < m then x else m) xs
def strI (i : Int) : Str := Str.ofString (toString i)
def biD : Bi → PyData → Option PyData
  | .len, .list xs => some (.int xs.length)
  | .len, .tuple xs => some (.int xs.length)
  | .len, .str x => if x.length ≤ lineD then some (.int x.length) else none
  | .list, .list xs => some (.list xs)
  | .list, .tuple xs => some (.list xs)
  | .tup, .list xs => some (.tuple xs)
  | .tup, .tuple xs => some (.tuple xs)
  | .srt, .list xs => srtD xs
  | .srt, .tuple xs => srtD xs
  | .sum, .list xs => (intsD xs).map fun ns => .int ns.sum
  | .max, .list xs => (intsD xs).bind fun ns => match ns with
    | [] => none
    | n :: r => some (.int (maxI n r))
  | .min, .list xs => (intsD xs).bind fun ns => match ns with
    | [] => none
    | n :: r => some (.int (minI n r))
  | .abs, .int i => some (.int (if i < 0 then -i else i))
  | .all, .list xs => (boolsD xs).map fun bs => .bool (bs.all id)
  | .any, .list xs => (boolsD xs).map fun bs => .bool (bs.any id)
  | .str, .int i => if i.natAbs < 2 ^ 64 then some (.str (strI i)) else none
  | .int, .str x => if x.length ≤ 640 then (PySem.intText? x).map .int else none
  | _, _ => none
def joiD : PyData → PyData → Option PyData
  | .str a, .list xs => (strsD xs).bind fun ys => if (ys.map (·.length)).sum + ys.length * a.length ≤ lineD then some (.str (Txt.join a ys)) else none
  | .str a, .tuple xs => (strsD xs).bind fun ys => if (ys.map (·.length)).sum + ys.length * a.length ≤ lineD then some (.str (Txt.join a ys)) else none
  | _, _ => none
def splD : PyData → PyData → Option PyData
  | .str a, .str b => if (b.length == 0) = false ∧ a.length ≤ 1000 ∧ (Txt.split a b).length ≤ 2000 then some (.list ((Txt.split a b).map .str)) else none
  | _, _ => none
def fmtD : PyData → Option Str
  | .str a => if a.length ≤ 1000 then some a else none
  | .int i => if i.natAbs < 2 ^ 64 ∧ (strI i).length ≤ 1000 then some (strI i) else none
  | _ => none
def subE (k j : Nat) : Bool := k == j || j == 0
def isiD (t : Ty) (d : PyData) : Option Bool := match t, d with
  | .exc j, .dict [(.int k, .none)] => if k.toNat < 7 then some (subE k.toNat j) else none
  | .ve, .dict [(.int k, .none)] => if k.toNat < 7 then some true else none
  | .exc _, _ => none
  | .ve, _ => none
  | _, .dict _ => none
  | .int, .int _ => some true
  | .int, .bool _ => some true
  | .bool, .bool _ => some true
  | .tup, .tuple _ => some true
  | .list, .list _ => some true
  | .str, .str _ => some true
  | _, _ => some false
def idxD : PyData → PyData → Option PyData
  | .list xs, .int i => atI xs i
  | .tuple xs, .int i => atI xs i
  | .str z, .int i => if z.length ≤ lineD then (atI z.cps.toList i).map fun c => .str ⟨#[c]⟩ else none
  | _, _ => none
def cutD {α : Type} (xs : List α) (lo hi : Option Int) : List α := (xs.drop (HT.sIx xs.length 0 lo)).take (HT.sIx xs.length xs.length hi - HT.sIx xs.length 0 lo)
def slcD (lo hi : Option Int) : PyData → Option PyData
  | .list xs => some (.list (cutD xs lo hi))
  | .str z => if z.length ≤ lineD then some (.str ⟨(cutD z.cps.toList lo hi).toArray⟩) else none
  | _ => none
def cntD : PyData → PyData → Option PyData
  | .list xs, x => if okD x && xs.all okD then some (.int (xs.countP fun y => PyData.eqv y x)) else none
  | _, _ => none
def indD : PyData → PyData → Option PyData
  | .list xs, x => if okD x && xs.all okD then (xs.findIdx? fun y => PyData.eqv y x).map fun (j : Nat) => .int (j : Nat) else none
  | _, _ => none
def isNone : PyData → Bool
  | .none => true
  | _ => false

/-- one draw below l: what it gives, the numbers behind it -/
def drawF (ns : List Int) (c l : Int) : Int × List Int :=
  let at_ := ((c + 1) % (ns.length : Int)).toNat
  let cell := ns.getD at_ 0
  if 1000000000000000000 ≤ cell then (cell % l, ns.set at_ (cell / l))
  else
    let m := (cell + 104729 * (c + 1)) % 4294967291
    let m := m ^ 5 % 4294967279
    ((m / 64 * 69621 + m) % 4294967231 / 8 % l, ns)

inductive Slot
  | non
  | val (d : PyData)
  | own (ds : List PyData)
abbrev En := List Slot
def M.nox {α : Type} (x : M α) : M α := fun s => match x s with
  | .ok a s' => .ok a s'
  | _ => .bad
def consO {α : Type} : Option α → List α → List α
  | none, rs => rs
  | some y, rs => y :: rs
def M.lst {α : Type} (f : PyData → M (Option α)) : List PyData → M (List α)
  | [] => M.ret []
  | x :: xs => M.bnd (M.nox (f x)) fun r => M.bnd (M.lst f xs) fun rs => M.ret (consO r rs)
def wipeD (δ : En) : List Nat → En
  | [] => δ
  | v :: vs => (wipeD δ vs).set v .non
def Tg.vs : Tg → List Nat
  | .one i => [i]
  | .two i j => [i, j]
  | .three i j k => [i, j, k]
def Tg.set : Tg → PyData → En → Option En
  | .one i, d, δ => some (δ.set i (.val d))
  | .two i j, .tuple [a, b], δ => some ((δ.set i (.val a)).set j (.val b))
  | .three i j k, .tuple [a, b, c], δ => some (((δ.set i (.val a)).set j (.val b)).set k (.val c))
  | _, _, _ => none
def rangeD (a b : Int) : Option (List PyData) := if decide (-1000000 ≤ a) && (decide (a ≤ 1000000) && (decide (-1000000 ≤ b) && decide (b ≤ 1000000))) then some ((List.range (b - a).toNat).map fun i => .int (a + (i : Nat))) else none
def rangeI (a b : PyData) : Option (List PyData) := match a, b with
  | .int i, .int j => rangeD i j
  | _, _ => none
def pairD (a b : PyData) : PyData := .tuple [a, b]
def enumD : PyData → Option (List PyData)
  | .list xs => some ((List.range xs.length).map (fun i => PyData.int (i : Nat)) |>.zipWith pairD <| xs)
  | _ => none
def zipD : PyData → PyData → Option (List PyData)
  | .list xs, .list ys => some (List.zipWith pairD xs ys)
  | _, _ => none
def tokAt (d : PyData) (S : Store) : Option (Nat × SObj) := match d with
  | .dict [(.none, .int k)] => (S[k.toNat]?).map fun o => (k.toNat, o)
  | _ => none
/-- a till by its name -/
def tillAt (δ : En) (i : Nat) (S : Store) : Option (Nat × Int × List PyData) := match δ[i]? with
  | some (.val t) => (match tokAt t S with
    | some (k, .till n rows) => some (k, n, rows)
    | _ => none)
  | _ => none
def valAt (δ : En) (j : Nat) : Option PyData := match δ[j]? with
  | some (.val d) => some d
  | _ => none
def withT {α : Type} (δ : En) (i : Nat) (f : Nat → Int → List PyData → M α) : M α := fun S => match tillAt δ i S with
  | some (k, n, rows) => f k n rows S
  | none => .bad
def withL {α : Type} (δ : En) (i : Nat) (f : List PyData → M α) : M α := fun S => match valAt δ i with
  | some t => (match tokAt t S with
    | some (_, .lst ds) => f ds S
    | _ => .bad)
  | none => .bad
def isT (t : PyData) : M Unit := fun S => match tokAt t S with
  | some (_, .till _ _) => .ok () S
  | _ => .bad
def isL (t : PyData) : M Unit := fun S => match tokAt t S with
  | some (_, .lst _) => .ok () S
  | _ => .bad
def lenT (t : PyData) : M PyData := fun S => match tokAt t S with
  | some (_, .till _ rows) => .ok (.int rows.length) S
  | _ => .bad
def newT (n : Int) : M PyData := fun S => .ok (tokD S.length) (S ++ [.till n []])
def newL (ds : List PyData) : M PyData := fun S => .ok (tokD S.length) (S ++ [.lst ds])
def popD (k : Nat) (n : Int) (rows : List PyData) : M PyData := fun S => match rows[rows.length - 1]? with
  | some d => .ok d (S.set k (.till n rows.dropLast))
  | none => .bad
def drawD (t : PyData) (l : PyData) : M Int := fun S => match tokAt t S, l with
  | some (k, .draws ns c), .int l => if decide (0 < l) && (decide (l < 1000000) && !ns.isEmpty) then .ok (drawF ns c l).1 (S.set k (.draws (drawF ns c l).2 (c + 1))) else .bad
  | _, _ => .bad
def pickD (t : PyData) (l : PyData) : M PyData := match l with
  | .list xs => M.bnd (drawD t (.int xs.length)) fun r => M.opt xs[r.toNat]?
  | _ => M.bad
def startD : PyData → M PyData
  | .dict [(.bool true, .list xs)] => fun S => match intsD xs with
    | some ns => .ok (tokD S.length) (S ++ [.draws (if ns.isEmpty then [0] else ns) 0])
    | none => .bad
  | _ => M.bad
/-- data without the store's tokens -/
def noTok : PyData → Bool
  | .dict [(.int _, .none)] => true
  | d => d.plain
/-- a call that neither sees nor leaves a store -/
def sclD : PyData → Bool
  | .none => true
  | .bool _ => true
  | .int _ => true
  | .str _ => true
  | _ => false
def sclR (c : M PyData) : M PyData := fun s => match c s with
  | .ok d s' => if sclD d then .ok d s' else .bad
  | .exc k s' => .exc k s'
  | .bad => .bad
def pureC (ds : List PyData) (r : M PyData) : M PyData := fun s => if ds.all noTok then (match r [] with
  | .ok d [] => .ok d s
  | .exc k [] => .exc k s
  | _ => .bad) else .bad

section
variable (C : Nat → List PyData → M PyData) (K : Str → Option PyData)
mutual
def ev : Ex → En → M PyData
  | .var i, δ => match δ[i]? with
    | some (.val d) => M.ret d
    | _ => M.bad
  | .ovr i, δ => match δ[i]? with
    | some (.own ds) => M.ret (.list ds)
    | _ => M.bad
  | .cst d, _ => M.ret d
  | .glo x, _ => M.opt (K x)
  | .lst es, δ => M.bnd (evs es δ) fun ds => M.ret (.list ds)
  | .tup es, δ => M.bnd (evs es δ) fun ds => M.ret (.tuple ds)
  | .bin o a b, δ => M.bnd (ev a δ) fun x => M.bnd (ev b δ) fun y => M.opt (binD o x y)
  | .neg a, δ => M.bnd (ev a δ) fun x => match x with
    | .int i => M.ret (.int (-i))
    | _ => M.bad
  | .cmp o a b, δ => M.bnd (ev a δ) fun x => M.bnd (ev b δ) fun y => M.opt (cmpD o x y)
  | .chn o o' a b c, δ => M.bnd (ev a δ) fun x => M.bnd (ev b δ) fun y => M.bnd (M.opt (cmpD o x y)) fun r => match r with
    | .bool true => M.bnd (ev c δ) fun z => M.opt (cmpD o' y z)
    | .bool false => M.ret (.bool false)
    | _ => M.bad
  | .bop k es, δ => evb k es δ
  | .not a, δ => M.bnd (ev a δ) fun x => match x with
    | .bool b => M.ret (.bool (!b))
    | _ => M.bad
  | .ite c a b, δ => M.bnd (ev c δ) fun x => match x with
    | .bool true => ev a δ
    | .bool false => ev b δ
    | _ => M.bad
  | .call f es, δ => M.bnd (evs es δ) fun ds => pureC ds (C f ds)
  | .calr f es, δ => M.bnd (evs es δ) fun ds => pureC ds (sclR (C f ds))
  | .cals f es, δ => M.bnd (evs es δ) fun ds => C f ds
  | .draw t l, δ => M.bnd (ev t δ) fun x => M.bnd (ev l δ) fun y => M.bnd (drawD x y) fun r => M.ret (.int r)
  | .pick t l, δ => M.bnd (ev t δ) fun x => M.bnd (ev l δ) fun y => pickD x y
  | .start s, δ => M.bnd (ev s δ) fun x => startD x
  | .bi f a, δ => M.bnd (ev a δ) fun x => M.opt (biD f x)
  | .mx2 k a b, δ => M.bnd (ev a δ) fun x => M.bnd (ev b δ) fun y => match x, y with
    | .int i, .int j => M.ret (.int (if k then (if j > i then j else i) else (if j < i then j else i)))
    | _, _ => M.bad
  | .isi a t, δ => M.bnd (ev a δ) fun x => M.opt ((isiD t x).map .bool)
  | .srs a, δ => M.bnd (ev a δ) fun x => M.opt (srsD x)
  | .lrg a, δ => M.bnd (ev a δ) fun x => M.opt ((rangeI (.int 0) x).map .list)
  | .trg a, δ => M.bnd (ev a δ) fun x => M.opt ((rangeI (.int 0) x).map .tuple)
  | .lrg2 a b, δ => M.bnd (ev a δ) fun x => M.bnd (ev b δ) fun y => M.opt ((rangeI x y).map .list)
  | .idx a i, δ => M.bnd (ev a δ) fun x => M.bnd (ev i δ) fun y => M.opt (idxD x y)
  | .slc a lo hi, δ => M.bnd (ev a δ) fun x => M.bnd (evo lo δ) fun l => M.bnd (evo hi δ) fun h => M.opt (slcD l h x)
  | .rev a, δ => M.bnd (ev a δ) fun x => match x with
    | .list xs => M.ret (.list xs.reverse)
    | .tuple xs => M.ret (.tuple xs.reverse)
    | _ => M.bad
  | .cnt o a, δ => M.bnd (ev o δ) fun x => match x with
    | .list xs => M.bnd (ev a δ) fun y => M.opt (cntD (.list xs) y)
    | _ => M.bad
  | .ind o a, δ => M.bnd (ev o δ) fun x => match x with
    | .list xs => M.bnd (ev a δ) fun y => M.opt (indD (.list xs) y)
    | _ => M.bad
  | .joi o a, δ => M.bnd (ev o δ) fun x => match x with
    | .str s => M.bnd (ev a δ) fun y => M.opt (joiD (.str s) y)
    | _ => M.bad
  | .spl o a, δ => M.bnd (ev o δ) fun x => match x with
    | .str s => M.bnd (ev a δ) fun y => M.opt (splD (.str s) y)
    | _ => M.bad
  | .fs3 a z b, δ => if z.length ≤ 1000 then (M.bnd (ev a δ) fun x => M.bnd (M.opt (fmtD x)) fun s => M.bnd (ev b δ) fun y => M.bnd (M.opt (fmtD y)) fun t => M.ret (.str (Str.empty ++ s ++ z ++ t))) else M.bad
  | .tok0 a, δ => M.bnd (ev a δ) fun x => match x with
    | .int n => newT n
    | _ => M.bad
  | .thg i, δ => withT δ i fun _ n _ => M.ret (.int n)
  | .lcal f i j, δ => withT δ i fun _ _ rows => match valAt δ j with
    | some y => pureC [.list rows, y] (sclR (C f [.list rows, y]))
    | none => M.bad
  | .llen i, δ => withT δ i fun _ _ rows => M.ret (.int rows.length)
  | .lemp i, δ => withT δ i fun _ _ rows => M.opt (cmpD .eq (.list rows) (.list []))
  | .lcpy i, δ => withT δ i fun _ _ rows => M.ret (.list rows)
  | .lpop i, δ => withT δ i popD
  | .tnew f a, δ => M.bnd (ev a δ) fun x => C f [x]
  | .mc0 f t, δ => M.bnd (ev t δ) fun x => M.bnd (isT x) fun _ => C f [x]
  | .mc1 f t a, δ => M.bnd (ev t δ) fun x => M.bnd (isT x) fun _ => M.bnd (ev a δ) fun y => C f [x, y]
  | .mln t, δ => M.bnd (ev t δ) lenT
  | .nlst e, δ => M.bnd (ev e δ) fun x => match x with
    | .list ds => newL ds
    | _ => M.bad
  | .tcal f i j, δ => withL δ i fun ds => match valAt δ j with
    | some y => pureC [.list ds, y] (sclR (C f [.list ds, y]))
    | none => M.bad
  | .cmp0 s t e, δ => M.bnd (evS s δ) fun its => M.bnd (M.lst (fun x => match t.set x (wipeD δ t.vs) with
    | some δ' => M.bnd (ev e δ') fun y => M.ret (some y)
    | none => M.bad) its) fun ys => M.ret (.list ys)
  | .cmp1 s t c e, δ => M.bnd (evS s δ) fun its => M.bnd (M.lst (fun x => match t.set x (wipeD δ t.vs) with
    | some δ' => M.bnd (ev c δ') fun b => match b with
      | .bool true => M.bnd (ev e δ') fun y => M.ret (some y)
      | .bool false => M.ret none
      | _ => M.bad
    | none => M.bad) its) fun ys => M.ret (.list ys)
def evs : Exs → En → M (List PyData)
  | .nil, _ => M.ret []
  | .cons e es, δ => M.bnd (ev e δ) fun d => M.bnd (evs es δ) fun ds => M.ret (d :: ds)
def evo : Exo → En → M (Option Int)
  | .none, _ => M.ret none
  | .some e, δ => M.bnd (ev e δ) fun d => match d with
    | .int i => M.ret (some i)
    | _ => M.bad
def evb (k : Bool) : Exs → En → M PyData
  | .nil, _ => M.bad
  | .cons e es, δ => match es with
    | .nil => ev e δ
    | .cons _ _ => M.bnd (ev e δ) fun d => match d with
      | .bool c => if c == k then evb k es δ else M.ret (.bool c)
      | _ => M.bad
def evS : Src → En → M (List PyData)
  | .it e, δ => M.bnd (ev e δ) fun x => M.opt (itemsD x)
  | .rg1 a, δ => M.bnd (ev a δ) fun x => M.opt (rangeI (.int 0) x)
  | .rg2 a b, δ => M.bnd (ev a δ) fun x => M.bnd (ev b δ) fun y => M.opt (rangeI x y)
  | .enu a, δ => M.bnd (ev a δ) fun x => M.opt (enumD x)
  | .zip a b, δ => M.bnd (ev a δ) fun x => M.bnd (ev b δ) fun y => M.opt (zipD x y)
end

inductive SRes
  | nxt (δ : En) (s : Store)
  | ret (d : PyData) (s : Store)
  | reto (ds : List PyData) (s : Store)
  | exc (k : Nat) (δ : En) (s : Store)
  | bad
def SRes.of {α : Type} (r : Res α) (δ : En) (f : α → Store → SRes) : SRes := match r with
  | .ok a s => f a s
  | .exc k s => .exc k δ s
  | .bad => .bad
def SRes.thn : SRes → (En → Store → SRes) → SRes
  | .nxt δ s, f => f δ s
  | r, _ => r
def forD (b : En → Store → SRes) (t : Tg) : List PyData → En → Store → SRes
  | [], δ, s => .nxt δ s
  | x :: xs, δ, s => match t.set x δ with
    | some δ' => (b δ' s).thn (forD b t xs)
    | none => .bad
def whlD (c : En → M PyData) (b : En → Store → SRes) : Nat → En → Store → SRes
  | 0, _, _ => .bad
  | n + 1, δ, s => SRes.of (c δ s) δ fun d s' => match d with
    | .bool true => (b δ s').thn (whlD c b n)
    | .bool false => .nxt δ s'
    | _ => .bad
def ownAt (δ : En) (i : Nat) (f : List PyData → SRes) : SRes := match δ[i]? with
  | some (.own ds) => f ds
  | _ => .bad
mutual
def evT : St → En → Store → SRes
  | .asg i e, δ, s => SRes.of (ev C K e δ s) δ fun d s' => .nxt (δ.set i (.val d)) s'
  | .own i e, δ, s => SRes.of (ev C K e δ s) δ fun d s' => match d with
    | .list ds => .nxt (δ.set i (.own ds)) s'
    | _ => .bad
  | .par2 i j a b, δ, s => SRes.of (M.bnd (ev C K a δ) (fun x => M.bnd (ev C K b δ) fun y => M.ret (x, y)) s) δ fun p s' => .nxt ((δ.set i (.val p.1)).set j (.val p.2)) s'
  | .par3 i j k a b c, δ, s => SRes.of (M.bnd (ev C K a δ) (fun x => M.bnd (ev C K b δ) fun y => M.bnd (ev C K c δ) fun z => M.ret (x, y, z)) s) δ fun p s' => .nxt (((δ.set i (.val p.1)).set j (.val p.2.1)).set k (.val p.2.2)) s'
  | .unp i j e, δ, s => SRes.of (ev C K e δ s) δ fun d s' => match d with
    | .tuple [x, y] => .nxt ((δ.set i (.val x)).set j (.val y)) s'
    | _ => .bad
  | .app i e, δ, s => ownAt δ i fun ds => SRes.of (ev C K e δ s) δ fun d s' => if ds.length < lineD then .nxt (δ.set i (.own (ds ++ [d]))) s' else .bad
  | .ext i e, δ, s => ownAt δ i fun ds => SRes.of (ev C K e δ s) δ fun d s' => match d with
    | .list es => if ds.length + es.length ≤ lineD then .nxt (δ.set i (.own (ds ++ es))) s' else .bad
    | _ => .bad
  | .aug i e, δ, s => match δ[i]? with
    | some (.val (.int x)) => SRes.of (ev C K e δ s) δ fun d s' => match d with
      | .int y => .nxt (δ.set i (.val (.int (x + y)))) s'
      | _ => .bad
    | _ => .bad
  | .put i k e, δ, s => ownAt δ i fun ds => SRes.of (M.bnd (ev C K e δ) (fun y => M.bnd (ev C K k δ) fun x => M.ret (x, y)) s) δ fun p s' => match p.1 with
    | .int z => match ixN ds.length z with
      | some j => .nxt (δ.set i (.own (ds.set j p.2))) s'
      | none => .bad
    | _ => .bad
  | .rem i e, δ, s => ownAt δ i fun ds => SRes.of (ev C K e δ s) δ fun d s' => match d, intsD ds with
    | .int k, some ns => match ns.findIdx? (fun z => decide (z = k)) with
      | some j => .nxt (δ.set i (.own (ds.eraseIdx j))) s'
      | none => .bad
    | _, _ => .bad
  | .exp e, δ, s => SRes.of (ev C K e δ s) δ fun _ s' => .nxt δ s'
  | .ifs c a b, δ, s => SRes.of (ev C K c δ s) δ fun d s' => match d with
    | .bool true => evTs a δ s'
    | .bool false => evTs b δ s'
    | _ => .bad
  | .for_ src t b, δ, s => SRes.of (evS C K src δ s) δ fun its s' => forD (evTs b) t its δ s'
  | .whl c b, δ, s => whlD (ev C K c) (evTs b) 40 δ s
  | .ret e, δ, s => SRes.of (ev C K e δ s) δ fun d s' => .ret d s'
  | .reto e, δ, s => SRes.of (ev C K e δ s) δ fun d s' => match d with
    | .list ds => .reto ds s'
    | _ => .bad
  | .rse k, δ, s => .exc k δ s
  | .try_ b k n j, δ, s => match evTs b δ s with
    | .exc q δ' s' => if q < 7 then (if subE q k then .nxt ((δ'.set j (.val (excD q))).set n .non) s' else .exc q δ' s') else .bad
    | r => r
  | .pas, δ, s => .nxt δ s
  | .shr i t, δ, s => ownAt δ i fun ds => evT t (δ.set i (.val (.list ds))) s
  | .retv i, δ, s => ownAt δ i fun ds => .reto ds s
  | .lapp i j, δ, s => match tillAt δ i s, valAt δ j with
    | some (k, n, rows), some y => if rows.length < lineD then .nxt δ (s.set k (.till n (rows ++ [y]))) else .bad
    | _, _ => .bad
  | .tapp e a, δ, s => SRes.of (M.bnd (ev C K e δ) (fun x => M.bnd (isL x) fun _ => M.bnd (ev C K a δ) fun y => M.ret (x, y)) s) δ fun p s' => match tokAt p.1 s' with
    | some (k, .lst ds) => if ds.length < lineD then .nxt δ (s'.set k (.lst (ds ++ [p.2]))) else .bad
    | _ => .bad
def evTs : Sts → En → Store → SRes
  | .nil, δ, s => .nxt δ s
  | .cons t ts, δ, s => (evT t δ s).thn (evTs ts)
end
end

/-- a def: its parameters, all its names, its body, whether it hands back a new list of its own -/
structure DefI where
  name : Str
  ps : List Str
  N : List Str
  body : Sts
  fr : Bool
def DefI.run (C : Nat → List PyData → M PyData) (K : Str → Option PyData) (d : DefI) (args : List PyData) : M PyData := fun s =>
  if args.length = d.ps.length then
    match evTs C K d.body (args.map .val ++ List.replicate (d.N.length - d.ps.length) .non) s with
    | .nxt _ s' => if d.fr then .bad else .ok .none s'
    | .ret x s' => if d.fr then .bad else .ok x s'
    | .reto xs s' => .ok (.list xs) s'
    | .exc k _ s' => .exc k s'
    | .bad => .bad
  else .bad
/-- n calls, one within another -/
def callD (ds : List (Nat × DefI)) (K : Str → Option PyData) : Nat → Nat → List PyData → M PyData
  | 0, _, _ => M.bad
  | n + 1, f, args => match ds.lookup f with
    | some d => d.run (callD ds K n) K args
    | none => M.bad
end PyD

namespace PyD
open PySem PySem.W PySem.Spec PySem.Calls PyProof.Rows
section
variable {prog : Program} {w : World} {A : Around} {E : Value → Shared → Prop} {s : Shared}
theorem collect_tuple {l : Addr} {vs : List Value} {Q : List Value → Shared → Prop} (hl : IsTup s.heap l vs.toArray)
    (h : Q vs { s with heap := (s.heap.push (seqObj "list" #[] 0)).update s.heap.objs.size (Obj.mapSeq (· ++ vs.toArray)) }) (hsz : vs.length ≤ sizeLine) :
    wpAny (model prog w) A (collect (.ref l)) Q E s := by
  obtain ⟨o, ho, hc, n, hd⟩ := id hl
  unfold collect
  refine wpAny_bind (wpAny_runValue (codeAny_builtin entry_proto_collect' ?_))
  show wpAny _ _ (do again (.builtin "list.__iadd__" ⟨[← newList [], .ref l], []⟩)) _ _ s
  refine wpAny_bind (wpAny_newList (wpAny_pure ⟨Code.quiet_builtin _ (by decide +kernel), codeAny_builtin entry_list_iadd' ?_⟩))
  show wpAny _ _ (Builtin.List.listExtendWith (.ref s.heap.objs.size) (.ref l) (.ref s.heap.objs.size)) _ _ { s with heap := s.heap.push (seqObj "list" #[] 0) }
  unfold Builtin.List.listExtendWith
  have ho' : (s.heap.push (seqObj "list" #[] 0)).get? l = some o := Heap.get?_push_of_some _ ho
  refine wpAny_bind (wpAny_typeOf (T := "tuple") ⟨o, ho', hc⟩ ?_)
  have ht : (Value.type "tuple" == Value.type "tuple") = true := by rfl
  rw [if_pos (by rw [ht]; simp)]
  refine wpAny_bind (listItems_at ho' hd ?_)
  refine wpAny_bind (listItems_at (xs := #[]) (n := 0) (Heap.get?_push_size _ rfl) rfl ?_)
  rw [if_neg (by simp)]
  refine wpAny_bind (listUpdate_at (xs := #[]) (n := 0) (Heap.get?_push_size _ rfl) rfl ?_ (Nat.zero_le _) (by show (#[] ++ vs.toArray).size ≤ sizeLine + 1; simp only [Array.size_append, List.size_toArray, List.length_nil]; omega))
  refine wpAny_pure ?_
  show wpAny (model prog w) A (do
      let o ← load s.heap.objs.size
      match o.data with
      | .seq xs _ => pure xs.toList
      | _ => unsupported "internal:collect") Q E { s with heap := (s.heap.push (seqObj "list" #[] 0)).update s.heap.objs.size (Obj.mapSeq (· ++ vs.toArray)) }
  refine wpAny_bind (wpAny_load (get?_update_seq (Heap.get?_push_size _ rfl) _) ?_)
  show wpAny _ _ (pure ((#[] : Array Value) ++ vs.toArray).toList) Q E _
  rw [show ((#[] : Array Value) ++ vs.toArray).toList = vs by simp]
  exact wpAny_pure h
theorem sorted_tup_of {l : Addr} {vs : List Value} {Q : Value → Shared → Prop} (hl : IsTup s.heap l vs.toArray) (hL : vs.length ≤ sizeLine)
    (body : ∀ E' : Value → Shared → Prop, wpAny (model prog w) A.in1.in1 (Builtin.«list.sort» ⟨[.ref (s.heap.objs.size + 1)], []⟩) (fun f s' => f = .done (.ret .none) ∧ Q (.ref (s.heap.objs.size + 1)) s') E' { s with heap := copyHeap s.heap vs }) :
    wpAny (model prog w) A (call (.builtin "sorted") [.ref l]) Q E s := by
  refine call_function_entry_kw kind_sorted plain_sorted entry_sorted (args_sorted1 _) ?_
  unfold Builtin.«sorted»
  refine wpAny_bind (m := checkCount "sorted" 1 1 _) (wpAny_pure ?_)
  refine wpAny_bind (collect_tuple hl ?_ hL)
  refine wpAny_bind (wpAny_newList ?_ hL)
  have hsz : ((s.heap.push (seqObj "list" #[] 0)).update s.heap.objs.size (Obj.mapSeq (· ++ vs.toArray))).objs.size = s.heap.objs.size + 1 := by
    rw [Heap.size_update, size_push']
  show wpAny _ _ _ _ _ { s with heap := copyHeap s.heap vs }
  rw [hsz]
  refine wpAny_bind (wpAny_holding (wpAny_call_entry_kw slot_list_sort ⟨_, copyHeap_at s.heap vs, rfl⟩ entry_list_sort ?body (args_list_sort _)))
  case body =>
    show wpAny (model prog w) A.in1.in1 (Builtin.«list.sort» ⟨[.ref (s.heap.objs.size + 1)], []⟩) _ _ _
    refine wpAny_mono (body _) (fun f s' hf => ?_) fun _ _ e => e
    obtain ⟨rfl, hq⟩ := hf
    exact ⟨_, rfl, wpAny_pure ⟨_, rfl, hq⟩⟩
/-- sortable, or at most one -/
def Srtb (ds : List PyData) : Prop := Sortable ds ∨ (ds.length < 2 ∧ ∀ d ∈ ds, d ≠ .none)
theorem sorts_data {vs : List Value} {ds : List PyData} (e : EachIs (fun v d => ∃ as, Reads s.heap v d as) vs ds) (hal : AllAlike ds) (hk : Srtb ds) (hu : ∀ d, d ∈ ds → A.units + d.depth < cLine) : SortsAt prog w A s (dataKind s.heap ds) vs := by
  rcases hk with hk | ⟨hl, hn⟩
  · exact SortsAt.data e hal hk hu
  · refine ⟨fun v hv => ?_, general', fun E x y a b Q ha hb hq => ?_, fun h2 => ?_⟩
    · obtain ⟨d, hd, as, r⟩ := e.left v hv
      exact ⟨_, dataKind_some hal hd r⟩
    · obtain ⟨d, as, hd, ra, rfl⟩ := dataKind_inv ha
      obtain ⟨d', as', hd', rb, rfl⟩ := dataKind_inv hb
      show wpAny (model prog w) A (oneLt' false x y) Q E s
      exact oneLt_alike (f := false) (fun z => nomatch z) ra rb (hal d hd d' hd') (hn d hd) (Nat.lt_of_le_of_lt (Nat.add_le_add_left (Nat.min_le_left _ _) _) (hu d hd)) hq
    · rw [e.length] at h2
      omega
variable {β : Type} {vs : List Value} {bs : List β} {enc : β → PyData} {R : Value → β → Prop}
/-- sorted(xs), xs a list or a tuple -/
theorem sorted_dataT {l : Addr} {Q : Value → Shared → Prop} (hl : s.heap.IsList l vs.toArray ∨ IsTup s.heap l vs.toArray) (e : EachIs R vs bs) (er : EachIs (fun v b => ∃ as, Reads s.heap v (enc b) as) vs bs) (hal : AllAlike (bs.map enc)) (hk : Srtb (bs.map enc)) (hL : bs.length ≤ sizeLine)
    (hu : ∀ b, b ∈ bs → A.units + 2 + (enc b).depth < cLine) (h : ∀ out, out.length = bs.length → EachIs R out (bs.mergeSort (dataLe false enc)) → Q (.ref (s.heap.objs.size + 1)) { s with heap := sortedAll s.heap vs (List.toArray out) }) :
    wpAny (model prog w) A (call (.builtin "sorted") [.ref l]) Q E s := by
  have er' : EachIs (fun v b => ∃ as, Reads (sortingHeap (copyHeap s.heap vs) (s.heap.objs.size + 1) vs) v (enc b) as) vs bs := er.mono fun _ _ ⟨as, r⟩ => ⟨as, PyProof.Rows.Reads.keeps (fun _ _ => sorting_copy_old) r⟩
  have S := sorts_data (prog := prog) (w := w) (A := A.in1.in1) (s := { s with heap := sortingHeap (copyHeap s.heap vs) (s.heap.objs.size + 1) vs }) (each_map (R := fun v d => ∃ as, Reads (sortingHeap (copyHeap s.heap vs) (s.heap.objs.size + 1) vs) v d as) enc er') hal hk (bound_map hu)
  have hL' : vs.length ≤ sizeLine := by rw [e.length]; exact hL
  have hq := h _ (by rw [sortVals_length false rfl]; exact e.length) (sortVals_data false e er' hal)
  rcases hl with hl | hl
  · exact sorted_vals hl S hL' hq
  · exact sorted_tup_of hl hL' fun _ => list_sort_vals (s := { s with heap := copyHeap s.heap vs }) (copyHeap_at s.heap vs) S hL' ⟨rfl, hq⟩
end
section
variable {prog : Program} {w : World} {A : Around} {E : Value → Shared → Prop} {s : Shared}
theorem adjust_rev (n : Nat) : Builtin.Slice.sliceAdjust none none (-1) (n : Int) = ((n : Int) - 1, -1) := by
  unfold Builtin.Slice.sliceAdjust
  simp
theorem places_rev (n : Nat) : Builtin.Slice.slicePlaces ((n : Int) - 1) (-1) (-1) = n := by
  unfold Builtin.Slice.slicePlaces
  simp
  omega
theorem sliceApplied_rev {sl : Addr} {n : Nat} {u : Tok} {Q : Int × Int × Nat → Shared → Prop} (hs : s.heap.IsSliceOf sl .none .none (.int (-1) u)) (h : Q ((n : Int) - 1, -1, n) s) :
    wpAny (model prog w) A (Builtin.Slice.sliceApplied (.ref sl) (pure (n : Int))) Q E s := by
  obtain ⟨os, hos, hcs, hds⟩ := id hs
  unfold Builtin.Slice.sliceApplied Builtin.Slice.sliceFields
  refine wpAny_bind (wpAny_bind (wpAny_field hos hds (x := .none) rfl (wpAny_bind (wpAny_field hos hds (x := .none) rfl (wpAny_bind (wpAny_field hos hds (x := .int (-1) u) rfl (wpAny_pure ?_)))))))
  refine wpAny_bind (slicePart_int ?_)
  show wpAny _ _ (if ((-1 : Int) == 0) = true then _ else _) _ _ s
  rw [if_neg (by decide)]
  refine wpAny_bind (slicePart_none (wpAny_bind (slicePart_none (wpAny_bind (wpAny_pure ?_)))))
  show wpAny _ _ (match Builtin.Slice.sliceAdjust none none (-1) (n : Int) with | (lo, hi) => pure (lo, (-1 : Int), Builtin.Slice.slicePlaces lo hi (-1))) _ _ s
  rw [adjust_rev n]
  show wpAny _ _ (pure ((n : Int) - 1, (-1 : Int), Builtin.Slice.slicePlaces ((n : Int) - 1) (-1) (-1))) _ _ s
  rw [places_rev n]
  exact wpAny_pure h
theorem fm_congr {α β : Type} {f g : α → Option β} : ∀ {l : List α}, (∀ x ∈ l, f x = g x) → l.filterMap f = l.filterMap g
  | [], _ => rfl
  | x :: l, h => by
    rw [List.filterMap_cons, List.filterMap_cons, h x List.mem_cons_self, fm_congr fun y hy => h y (List.mem_cons_of_mem _ hy)]
theorem pick_all (ys : List Value) : (List.range ys.length).filterMap (fun k => ys[k]?) = ys := by
  have := pick_run ys.toArray 0 ys.length
  rw [List.filterMap_map] at this
  rw [show ys.toArray.toList = ys from rfl, List.drop_zero, List.take_length] at this
  refine Eq.trans (fm_congr fun k _ => ?_) this
  show ys[k]? = ys.toArray[0 + k]?
  rw [Nat.zero_add]
  simp
theorem pick_rev (xs : List Value) : ((List.range xs.toArray.size).filterMap fun (k : Nat) => xs.toArray[(((xs.toArray.size : Nat) : Int) - 1 + (k : Int) * -1).toNat]?) = xs.reverse := by
  refine Eq.trans ?_ (pick_all xs.reverse)
  rw [show xs.toArray.size = xs.reverse.length by simp]
  refine fm_congr fun k hk => ?_
  have hk' : k < xs.length := by simpa using List.mem_range.mp hk
  rw [List.getElem?_reverse hk']
  have : (((xs.reverse.length : Nat) : Int) - 1 + (k : Int) * -1).toNat = xs.length - 1 - k := by rw [List.length_reverse]; omega
  rw [this]
  simp
theorem getItem_tuple_rev {t sl : Addr} {items : List Value} {u : Tok} {Q : Value → Shared → Prop} (ht : IsTup s.heap t items.toArray) (hs : s.heap.IsSliceOf sl .none .none (.int (-1) u))
    (h : Q (.ref s.heap.objs.size) { s with heap := s.heap.push { cls := .type "tuple", data := .seq items.reverse.toArray } })
    (hsz : items.length ≤ sizeLine) : wpAny (model prog w) A (getItem (.ref t) (.ref sl)) Q E s := by
  have hdrop : sizeOk (.seq items.reverse.toArray) := by
    show items.reverse.toArray.size ≤ sizeLine
    rw [List.size_toArray, List.length_reverse]
    exact hsz
  obtain ⟨os, hos, hcs, hds⟩ := id hs
  have hTs : s.TypeIs (.ref sl) "slice" := ⟨os, hos, hcs⟩
  unfold getItem
  try with_reducible refine wpAny_holding ?_
  first | refine wpAny_bind (wpAny_pure ?_) | skip
  refine wpAny_bind (wpAny_sequenceKey ht.typeIs (by decide) ?_)
  refine wpAny_bind (wpAny_callSpecial?_slot (name := Str.ofString "__getitem__") ht.typeIs slot_tuple_getitem
    (wpAny_call_entry slot_tuple_getitem ht.typeIs entry_tuple_getitem ?_ (args_tuple_getitem _ _)))
  show wpAny _ _ (Builtin.Tuple.tupleItemsOf (.ref t) >>= _) _ _ s
  refine wpAny_bind (tupleItemsOf_ ht ?_)
  refine wpAny_bind (wpAny_typeOf hTs ?_)
  rw [if_pos (by decide)]
  refine wpAny_bind (sliceApplied_rev (n := items.toArray.size) hs ?_)
  have hno : ¬ ((((items.toArray.size : Nat) : Int) - 1 == 0 && (-1 : Int) == 1 && items.toArray.size == items.toArray.size) = true) := by
    rw [show ((-1 : Int) == 1) = false from rfl, Bool.and_false, Bool.false_and]
    exact Bool.false_ne_true
  show wpAny _ _ (if (((items.toArray.size : Nat) : Int) - 1 == 0 && (-1 : Int) == 1 && items.toArray.size == items.toArray.size) = true then _ else _) _ _ s
  rw [if_neg hno, pick_rev items]
  first
    | exact wpAny_bind (m := Builtin.Tuple.tupleExact _) (wpAny_newObj_type (wpAny_pure ⟨_, rfl, wpAny_pure h⟩) hdrop)
    | exact wpAny_bind (m := Builtin.Tuple.tupleExact _) (wpAny_newObj_type (wpAny_bind (wpAny_pure (wpAny_pure ⟨_, rfl, wpAny_pure h⟩))) hdrop)
    | exact wpAny_bind (wpAny_bind (m := Builtin.Tuple.tupleExact _) (wpAny_newObj_type (wpAny_pure (wpAny_pure ⟨_, rfl, wpAny_pure h⟩)) hdrop))
    | exact wpAny_bind (wpAny_bind (m := Builtin.Tuple.tupleExact _) (wpAny_newObj_type (wpAny_pure ⟨_, rfl, wpAny_pure h⟩) hdrop))
end
section
open L2
variable {X : Cx}
def tRevA (K : PySem.W.Frag) (te : TE) : TE := fun σ H Q => te σ H fun x H1 => ∃ a xs, x = .ref a ∧ ((SqL K H1 a xs ∧ ∀ p, H1 p = none → Q (.ref p) (upd H1 p (.lst xs.reverse))) ∨ (SqT K H1 a xs ∧ ∀ p, H1 p = none → Q (.ref p) (upd H1 p (.tup xs.reverse))))
theorem pe_revA {e : Expr} {te : TE} {k : Nat} {p1 p2 p3 pos : Pos} (he : PE X e te) : PE X (.Subscript e (.Slice none none (some (.UnaryOp .USub (.Constant (.int 1) k p1) p2)) p3) pos) (tRevA X.K te) := by
  refine ⟨fun pins s σ H Q I h => ?_⟩
  refine Subscript_ (thn (he.run pins s σ H _ I h) fun v s1 ⟨x, H1, I1, r1, q1⟩ => ?_)
  obtain ⟨a, xs, ex, hq⟩ := q1
  subst ex
  cases r1
  have hst : PO X (some (.UnaryOp .USub (.Constant (.int 1) k p1) p2)) (tPart (tUn (rU fun i => .int (-i)) (tC (.int 1)))) := po_some (pe_un un_neg pe_int)
  refine wpAny_Slice (thn (po_none.run pins s1 σ H1 (fun o H2 => o = none ∧ H2 = H1) I1 ⟨rfl, rfl⟩) fun vl s2 ⟨l, H2, I2, pl, el, e2⟩ => ?_)
  subst el e2
  refine thn (po_none.run pins s2 σ H2 (fun o H3 => o = none ∧ H3 = H2) I2 ⟨rfl, rfl⟩) fun vu s3 ⟨u, H3, I3, pu, eu, e3⟩ => ?_
  subst eu e3
  refine thn (hst.run pins s3 σ H3 (fun o H4 => o = some (-1) ∧ H4 = H3) I3 ⟨1, rfl, -1, rfl, rfl, rfl⟩) fun vs s4 ⟨o, H4, I4, ps, eo, e4⟩ => ?_
  subst eo e4
  have I5 : Inv X pins σ H4 { s4 with heap := s4.heap.push { cls := .type "slice", data := .fields #[vl, vu, vs] } } := I4.kept (t' := s4.toks) fun b ob q => Heap.get?_push_of_some _ q
  show wpAny (model X.prog X.w) X.A (subscriptTail e (.Slice none none (some (.UnaryOp .USub (.Constant (.int 1) k p1) p2)) p3) (.ref a) (.ref s4.heap.objs.size)) (EP X pins σ Q) X.xe { s4 with heap := s4.heap.push { cls := .type "slice", data := .fields #[vl, vu, vs] } }
  rcases hq with ⟨hx, q⟩ | ⟨hx, q⟩
  · obtain ⟨its, r, ht, hz⟩ := I5.list hx
    have hlen := r.length
    refine tail_any (ops := [.ref a, .ref s4.heap.objs.size]) ht.isList.typeIs (PySem.slot_list_getitem.lookup) ?_ (by with_unfolding_all rfl)
    refine wpAny_getItem_list_slice ht.isList (Heap.IsSliceOf.new _ vl vu vs) pl pu ps (by decide) ?_ (by rw [List.size_toArray]; omega)
    rw [PySem.W.krv_pick]
    refine ⟨.ref _, _, I5.laid (t' := s4.toks) (o := .lst xs.reverse) (fun b ob q => Heap.get?_push_of_some _ q) (Nat.le_refl _) ?_, rfl, q _ (I5.hok.fresh (Nat.le_refl _))⟩
    exact ⟨by rw [List.length_reverse]; exact hz, _, 0, r.reverse, Heap.get?_push_size _ rfl⟩
  · obtain ⟨its, r, ht, hz⟩ := I5.tuple hx
    have hlen := r.length
    cases pl
    cases pu
    cases ps
    refine tail_any (ops := [.ref a, .ref s4.heap.objs.size]) (IsTup.typeIs ht) (PyProof.Rows.slot_tuple_getitem.lookup) ?_ (by with_unfolding_all rfl)
    refine getItem_tuple_rev ht (Heap.IsSliceOf.new _ _ _ _) ?_ (by omega)
    refine ⟨.ref _, _, I5.laid (t' := s4.toks) (o := .tup xs.reverse) (fun b ob q => Heap.get?_push_of_some _ q) (Nat.le_refl _) ?_, rfl, q _ (I5.hok.fresh (Nat.le_refl _))⟩
    exact ⟨by rw [List.length_reverse]; exact hz, _, r.reverse, ⟨_, Heap.get?_push_size _ rfl, rfl, _, rfl⟩⟩
end
end PyD

namespace PyD
open PySem PySem.Spec PyProof.Rows L2

def RepS (G : Gx) (w : Wd) (v : V) (d : PyData) : Prop :=
  RepW G w v d ∨ ∃ p vs ds, v = .ref p ∧ d = .list ds ∧ w.hs p ∧ p ∉ adr w.st ∧ w.H p = some (.lst vs) ∧ vs.length ≤ sizeLine ∧ RepLW G w vs ds
section
variable {G : Gx} {w w' : Wd} {v : V} {d : PyData} {ds : List PyData}
theorem Adv.repS (a : Adv w w') (r : RepS G w v d) : RepS G w' v d := by
  rcases r with r | ⟨p, vs, ds, e1, e2, h1, h2, h3, h4, h5⟩
  · exact .inl (a.rep r)
  · refine .inr ⟨p, vs, ds, e1, e2, a.sub p h1, fun z => a.fresh p z h2 h1, (a.own p h1 h2).trans h3, h4, a.repL h5⟩
theorem Rep.ofVis {st : List SA} {H : Hp} {hs : Addr → Prop} {a : Addr} {o : HO} (h : vis hs H a = some o) : H a = some o := (vis_some.mp h).2
theorem RepS.list (r : RepS G w v (.list ds)) : ∃ a vs, v = .ref a ∧ vs.length ≤ sizeLine ∧ RepLW G w vs ds ∧ ∀ w', Adv w w' → w'.H a = some (.lst vs) := by
  rcases r with r | ⟨p, vs, ds', e1, e2, h1, h2, h3, h4, h5⟩
  · cases r with
    | lst h z r => exact ⟨_, _, rfl, z, r, fun w' a => (vis_some.mp (a.vis _ _ h)).2⟩
  · cases e2
    exact ⟨p, vs, e1, h4, h5, fun w' a => (a.own p h1 h2).trans h3⟩
theorem RepS.tup (r : RepS G w v (.tuple ds)) : ∃ a vs, v = .ref a ∧ vs.length ≤ sizeLine ∧ RepLW G w vs ds ∧ ∀ w', Adv w w' → w'.H a = some (.tup vs) := by
  rcases r with r | ⟨p, vs, ds', e1, e2, _⟩
  · cases r with
    | tup h z r => exact ⟨_, _, rfl, z, r, fun w' a => (vis_some.mp (a.vis _ _ h)).2⟩
  · cases e2
theorem RepS.int {i : Int} (r : RepS G w v (.int i)) : v = .int i := by
  rcases r with r | ⟨_, _, _, _, e, _⟩
  · cases r; rfl
  · cases e
theorem RepS.bl {i : Bool} (r : RepS G w v (.bool i)) : v = .bl i := by
  rcases r with r | ⟨_, _, _, _, e, _⟩
  · cases r; rfl
  · cases e
theorem RepS.str {i : Str} (r : RepS G w v (.str i)) : v = .str i := by
  rcases r with r | ⟨_, _, _, _, e, _⟩
  · cases r; rfl
  · cases e
theorem RepS.non (r : RepS G w v .none) : v = .non := by
  rcases r with r | ⟨_, _, _, _, e, _⟩
  · cases r; rfl
  · cases e
mutual
theorem Rep.dp {st : List SA} {H H' : Hp} (e : ∀ a o, H a = some o → H' a = some o) : ∀ (d : PyData) (v : V), Rep G st H v d → d.plain = true → Dp G.K H' v d
  | .none, _, r, _ => by cases r; exact .non
  | .bool b, _, r, _ => by cases r; exact .bl b
  | .int b, _, r, _ => by cases r; exact .int b
  | .str b, _, r, _ => by cases r; exact .str b
  | .list ds, _, r, h => by
    cases r with
    | lst h1 z r => exact .lst (.inl (.inl (e _ _ h1))) (RepL.dp e ds _ r (by simpa [PyData.plain] using h))
  | .tuple ds, _, r, h => by
    cases r with
    | tup h1 z r => exact .tup (.inl (.inl (e _ _ h1))) (RepL.dp e ds _ r (by simpa [PyData.plain] using h))
  | .dict _, _, _, h => nomatch h
theorem RepL.dp {st : List SA} {H H' : Hp} (e : ∀ a o, H a = some o → H' a = some o) : ∀ (ds : List PyData) (vs : List V), RepL G st H vs ds → PyData.plainAll ds = true → DpAll G.K H' vs ds
  | [], _, r, _ => by cases r; exact .nil
  | d :: ds, _, r, h => by
    have h' : d.plain = true ∧ PyData.plainAll ds = true := by simpa [PyData.plainAll] using h
    cases r with
    | cons a b => exact .cons (Rep.dp e d _ a h'.1) (RepL.dp e ds _ b h'.2)
end
theorem vis_H (w : Wd) : ∀ a o, vis w.hs w.H a = some o → w.H a = some o := fun _ _ h => (vis_some.mp h).2
theorem RepS.dp (r : RepS G w v d) (h : d.plain = true) : Dp G.K w.H v d := by
  rcases r with r | ⟨p, vs, ds', e1, e2, h1, h2, h3, h4, h5⟩
  · exact r.dp (vis_H w) d v h
  · subst e1 e2
    exact .lst (.inl (.inl h3)) (RepL.dp (vis_H w) _ _ h5 (by simpa [PyData.plain] using h))
theorem okD_plain (h : okD d = true) : d.plain = true := (Bool.and_eq_true_iff.mp h).1
theorem okD_depth (h : okD d = true) : d.depth ≤ 60 := of_decide_eq_true (Bool.and_eq_true_iff.mp h).2
theorem lineD_le {n : Nat} (h : n ≤ lineD) : n ≤ sizeLine := Nat.le_trans h (by decide)

/-- a new list of its own: hidden at w', unknown at w -/
structure OwnR (G : Gx) (w w' : Wd) (p : Addr) (vs : List V) (ds : List PyData) : Prop where
  hs : w'.hs p
  nh : ¬ w.hs p
  na : p ∉ adr w'.st
  at_ : w'.H p = some (.lst vs)
  len : vs.length ≤ sizeLine
  rep : RepLW G w' vs ds
theorem OwnR.from {w1 : Wd} {p : Addr} {vs : List V} (a : Adv w w1) (o : OwnR G w1 w' p vs ds) : OwnR G w w' p vs ds := ⟨o.hs, fun h => o.nh (a.sub p h), o.na, o.at_, o.len, o.rep⟩
theorem new_own {S : Store} {p : Addr} {vs : List V} (k : Ok G w S) (h : w.H p = none) (hl : vs.length ≤ sizeLine) (r : RepLW G w vs ds) :
    Adv w ((w.put p (.lst vs)).add fun b => b = p) ∧ Ok G ((w.put p (.lst vs)).add fun b => b = p) S ∧ OwnR G w ((w.put p (.lst vs)).add fun b => b = p) p vs ds :=
  ⟨Adv.newO k h, k.newO h, ⟨.inr rfl, k.newH h, k.nadr h, upd_same, hl, (Adv.newO k h).repL r⟩⟩
theorem new_tup {S : Store} {p : Addr} {vs : List V} (k : Ok G w S) (h : w.H p = none) (hl : vs.length ≤ sizeLine) (r : RepLW G w vs ds) :
    Adv w (w.put p (.tup vs)) ∧ Ok G (w.put p (.tup vs)) S ∧ RepW G (w.put p (.tup vs)) (.ref p) (.tuple ds) :=
  ⟨Adv.new1 k h, k.new1 h, .tup (vis_some.mpr ⟨k.newH h, upd_same⟩) hl ((Adv.new1 k h).repL r)⟩
theorem OwnR.show {S : Store} {p : Addr} {vs : List V} (a : Adv w w') (k : Ok G w' S) (o : OwnR G w w' p vs ds) :
    Adv w (w'.sub fun b => b = p) ∧ Ok G (w'.sub fun b => b = p) S ∧ RepW G (w'.sub fun b => b = p) (.ref p) (.list ds) :=
  ⟨a.subR fun b e => by rw [e]; exact o.nh, k.sub fun b e => by rw [e]; exact o.na, .lst (vis_some.mpr ⟨fun q => q.2 rfl, o.at_⟩) o.len (repL_sub o.rep)⟩
end

abbrev XKs (W : WX) (σ : L2.St) : XK := fun c d H => W c d σ H
structure ER (G : Gx) (w : Wd) (σ : L2.St) (δ : En) : Prop where
  len : δ.length ≤ σ.length
  val : ∀ (i : Nat) d, δ[i]? = some (Slot.val d) → ∃ v, σ[i]? = some (some v) ∧ RepW G w v d
  own : ∀ (i : Nat) ds, δ[i]? = some (Slot.own ds) → ∃ p vs, σ[i]? = some (some (.ref p)) ∧ w.hs p ∧ p ∉ adr w.st ∧ w.H p = some (.lst vs) ∧ vs.length ≤ sizeLine ∧ RepLW G w vs ds
theorem ER.adv {G : Gx} {w w' : Wd} {σ : L2.St} {δ : En} (e : ER G w σ δ) (a : Adv w w') : ER G w' σ δ where
  len := e.len
  val := fun i d h => by
    obtain ⟨v, h1, h2⟩ := e.val i d h
    exact ⟨v, h1, a.rep h2⟩
  own := fun i ds h => by
    obtain ⟨p, vs, h0, h1, h2, h3, h4, h5⟩ := e.own i ds h
    exact ⟨p, vs, h0, a.sub p h1, fun z => a.fresh p z h2 h1, (a.own p h1 h2).trans h3, h4, a.repL h5⟩
/-- the state, the result of f, what is asked of it -/
def Go {α : Type} (G : Gx) (W : WX) (f : En → M α) (σ : L2.St) (H : Hp) (P : Wd → Wd → Store → α → Prop) : Prop :=
  ∃ w S δ, w.H = H ∧ Ok G w S ∧ ER G w σ δ ∧ RQ G (XKs W σ) w (f δ S) (P w)
def tD (G : Gx) (W : WX) (f : En → M PyData) : TE := fun σ H Q => Go G W f σ H fun _ w' _ d => ∀ v, RepW G w' v d → Q v w'.H
def tS (G : Gx) (W : WX) (f : En → M PyData) : TE := fun σ H Q => Go G W f σ H fun _ w' _ d => ∀ v, RepS G w' v d → Q v w'.H
def tO (G : Gx) (W : WX) (f : En → M PyData) : TE := fun σ H Q => Go G W f σ H fun w w' _ d => ∃ ds, d = .list ds ∧ ∀ p vs, OwnR G w w' p vs ds → Q (.ref p) w'.H
def tT (G : Gx) (W : WX) (f : En → M PyData) : TT := fun σ H Q => Go G W f σ H fun _ w' _ d => ∃ b, d = .bool b ∧ Q b w'.H
def tL (G : Gx) (W : WX) (f : En → M (List PyData)) : TA := fun σ H Q => Go G W f σ H fun _ w' _ ds => ∀ vs, RepLW G w' vs ds → Q vs w'.H
theorem _root_.L2.PE.imp {X : Cx} {e : Expr} {t t' : TE} (h : PE X e t) (i : ∀ σ H Q, t' σ H Q → t σ H Q) : PE X e t' := ⟨fun pins s σ H Q I q => h.run pins s σ H Q I (i σ H Q q)⟩
theorem _root_.L2.PT.imp {X : Cx} {e : Expr} {t t' : TT} (h : PT X e t) (i : ∀ σ H Q, t' σ H Q → t σ H Q) : PT X e t' := ⟨fun pins s σ H Q I q => h.run pins s σ H Q I (i σ H Q q)⟩
theorem _root_.L2.PW.imp {X : Cx} {e : Expr} {t t' : TT} (h : PW X e t) (i : ∀ σ H Q, t' σ H Q → t σ H Q) : PW X e t' := ⟨fun whole pins s σ H Q I q => h.run whole pins s σ H Q I (i σ H Q q)⟩
theorem _root_.L2.PA.imp {X : Cx} {e : List Expr} {t t' : TA} (h : PA X e t) (i : ∀ σ H Q, t' σ H Q → t σ H Q) : PA X e t' := ⟨fun pos pins s σ H Q I q => h.run pos pins s σ H Q I (i σ H Q q)⟩
theorem _root_.L2.PS.imp {X : Cx} {e : Stmt} {t t' : TS} (h : PS X e t) (i : ∀ D σ H, t' D σ H → t D σ H) : PS X e t' := ⟨fun pins s σ H D I q => h.run pins s σ H D I (i D σ H q)⟩
theorem _root_.L2.PSs.imp {X : Cx} {e : List Stmt} {t t' : TS} (h : PSs X e t) (i : ∀ D σ H, t' D σ H → t D σ H) : PSs X e t' := ⟨fun pins s σ H D I q => h.run pins s σ H D I (i D σ H q)⟩

section
variable {G : Gx} {W : WX} {X : Cx} {α β : Type}
/-- one part first -/
theorem Go.bnd {f : En → M α} {g : En → α → M β} {σ : L2.St} {H : Hp} {P : Wd → Wd → Store → β → Prop} (h : Go G W (fun δ => M.bnd (f δ) (g δ)) σ H P) (hP : ∀ w w1 w' S b, Adv w w1 → P w w' S b → P w1 w' S b) :
    Go G W f σ H fun _ w' _ a => ∃ δ S', ER G w' σ δ ∧ Ok G w' S' ∧ RQ G (XKs W σ) w' (g δ a S') (P w') := by
  obtain ⟨w, S, δ, e, k, er, q⟩ := h
  exact ⟨w, S, δ, e, k, er, (RQ.bnd q).imp fun w1 S1 a a1 k1 _ q1 => ⟨δ, S1, er.adv a1, k1, q1.imp fun w2 S2 b _ _ _ z => hP _ _ _ _ _ a1 z⟩⟩
theorem RQ.opt' {E : XK} {w : Wd} {S : Store} {o : Option α} {P : Wd → Store → α → Prop} (k : Ok G w S) (h : RQ G E w (M.opt o S) P) : ∃ a, o = some a ∧ ∀ w', Adv w w' → Ok G w' S → P w' S a := by
  cases o with
  | some a => exact ⟨a, rfl, h⟩
  | none => exact h.elim
theorem de_val {e : Expr} {f : En → M PyData} (h : PE X e (tO G W f)) (hl : ∀ δ S d S', f δ S = .ok d S' → ∃ ds, d = .list ds) : PE X e (tD G W f) := h.imp fun σ H Q q => by
  obtain ⟨w, S, δ, e1, k, er, q⟩ := q
  refine ⟨w, S, δ, e1, k, er, q.imp fun w' S' d a k' e2 z => ?_⟩
  obtain ⟨ds, rfl⟩ := hl _ _ _ _ e2
  refine ⟨ds, rfl, fun p vs o => ?_⟩
  obtain ⟨a2, k2, r2⟩ := o.show a k'
  rw [e2] at q
  exact q _ a2 k2 (.ref p) r2
theorem de_s {e : Expr} {f : En → M PyData} (h : PE X e (tD G W f)) : PE X e (tS G W f) := h.imp fun σ H Q q => by
  obtain ⟨w, S, δ, e1, k, er, q⟩ := q
  exact ⟨w, S, δ, e1, k, er, q.imp fun w' S' d a k' e2 z v r => z v (.inl r)⟩

/-- what a two-place operation asks -/
def OpS (G : Gx) (r : R2) (o : PyData → PyData → Option PyData) : Prop := ∀ (w : Wd) (S : Store) (x y : V) (dx dy d : PyData) (Q : VK), Ok G w S → RepS G w x dx → RepS G w y dy → o dx dy = some d →
  (∀ w' v, Adv w w' → Ok G w' S → RepW G w' v d → Q v w'.H) → r x y w.H Q
def OpO (G : Gx) (r : R2) (o : PyData → PyData → Option PyData) : Prop := ∀ (w : Wd) (S : Store) (x y : V) (dx dy : PyData) (ds : List PyData) (Q : VK), Ok G w S → RepS G w x dx → RepS G w y dy → o dx dy = some (.list ds) →
  (∀ w' p vs, Adv w w' → Ok G w' S → OwnR G w w' p vs ds → Q (.ref p) w'.H) → r x y w.H Q
theorem OpO.vis {r : R2} {o : PyData → PyData → Option PyData} (h : OpO G r o) {w : Wd} {S : Store} {x y : V} {dx dy : PyData} {ds : List PyData} {Q : VK} (k : Ok G w S) (rx : RepS G w x dx) (ry : RepS G w y dy) (e : o dx dy = some (.list ds))
    (q : ∀ w' v, Adv w w' → Ok G w' S → RepW G w' v (.list ds) → Q v w'.H) : r x y w.H Q := h w S x y dx dy ds Q k rx ry e fun w' p vs a k' ow => by
  obtain ⟨a2, k2, r2⟩ := ow.show a k'
  exact q (w'.sub fun b => b = p) _ a2 k2 r2
variable {a b : Expr} {fa fb : En → M PyData} {o : PyData → PyData → Option PyData} {r : R2} {pos : Pos}
theorem go2 {σ : L2.St} {H : Hp} {P : Wd → Wd → Store → PyData → Prop} (hP : ∀ w w1 w' S b, Adv w w1 → P w w' S b → P w1 w' S b) (h : Go G W (fun δ => M.bnd (fa δ) fun x => M.bnd (fb δ) fun y => M.opt (o x y)) σ H P) {R : V → V → Hp → Prop}
    (q : ∀ w S x y dx dy d, Ok G w S → RepS G w x dx → RepS G w y dy → o dx dy = some d → (∀ w', Adv w w' → Ok G w' S → P w w' S d) → R x y w.H) : tS G W fa σ H fun x H1 => tS G W fb σ H1 fun y H2 => R x y H2 := by
  obtain ⟨w, S, δ, e, k, er, h⟩ := h
  refine ⟨w, S, δ, e, k, er, (RQ.bnd h).imp fun w1 S1 dx a1 k1 _ h1 x rx => ?_⟩
  refine ⟨w1, S1, δ, rfl, k1, er.adv a1, (RQ.bnd h1).imp fun w2 S2 dy a2 k2 _ h2 y ry => ?_⟩
  obtain ⟨d, e3, h3⟩ := RQ.opt' k2 h2
  exact q w2 S2 x y dx dy d k2 (a2.repS rx) ry e3 fun w' a k => hP _ _ _ _ _ (a1.trans a2) (h3 w' a k)
theorem hP_D {Q : VK} : ∀ (w w1 w' : Wd) (S : Store) (d : PyData), Adv w w1 → (∀ v, RepW G w' v d → Q v w'.H) → (∀ v, RepW G w' v d → Q v w'.H) := fun _ _ _ _ _ _ h => h
theorem hP_O {Q : VK} : ∀ (w w1 w' : Wd) (S : Store) (d : PyData), Adv w w1 → (∃ ds, d = .list ds ∧ ∀ p vs, OwnR G w w' p vs ds → Q (.ref p) w'.H) → (∃ ds, d = .list ds ∧ ∀ p vs, OwnR G w1 w' p vs ds → Q (.ref p) w'.H) :=
  fun _ _ _ _ _ a ⟨ds, e, h⟩ => ⟨ds, e, fun p vs o => h p vs (o.from a)⟩
theorem go_op (hs : OpS G r o) {σ : L2.St} {H : Hp} {Q : VK} (h : tD G W (fun δ => M.bnd (fa δ) fun x => M.bnd (fb δ) fun y => M.opt (o x y)) σ H Q) : tOp r (tS G W fa) (tS G W fb) σ H Q :=
  go2 hP_D h fun w S x y dx dy d k rx ry e q => hs w S x y dx dy d Q k rx ry e fun w' v a k' rv => q w' a k' v rv
theorem go_opO (hs : OpO G r o) {σ : L2.St} {H : Hp} {Q : VK} (h : tO G W (fun δ => M.bnd (fa δ) fun x => M.bnd (fb δ) fun y => M.opt (o x y)) σ H Q) : tOp r (tS G W fa) (tS G W fb) σ H Q :=
  go2 hP_O h fun w S x y dx dy d k rx ry e q => by
    obtain ⟨ds, rfl, _⟩ := q w (Adv.refl w) k
    exact hs w S x y dx dy ds Q k rx ry e fun w' p vs a k' ow => by
      obtain ⟨ds', e', z⟩ := q w' a k'
      cases e'
      exact z p vs ow
theorem de_bin {op : Operator} (ho : OpR X (binaryOp op) r) (hs : OpS G r o) (ha : PE X a (tS G W fa)) (hb : PE X b (tS G W fb)) :
    PE X (.BinOp a op b pos) (tD G W fun δ => M.bnd (fa δ) fun x => M.bnd (fb δ) fun y => M.opt (o x y)) := (pe_op ho ha hb).imp fun _ _ _ h => go_op hs h
theorem do_bin {op : Operator} (ho : OpR X (binaryOp op) r) (hs : OpO G r o) (ha : PE X a (tS G W fa)) (hb : PE X b (tS G W fb)) :
    PE X (.BinOp a op b pos) (tO G W fun δ => M.bnd (fa δ) fun x => M.bnd (fb δ) fun y => M.opt (o x y)) := (pe_op ho ha hb).imp fun _ _ _ h => go_opO hs h
theorem de_cmp {op : CmpOp} (ho : OpR X (compareOp op) r) (hs : OpS G r o) (ha : PE X a (tS G W fa)) (hb : PE X b (tS G W fb)) (hm : behindInMarks op b = false) :
    PE X (.Compare a [op] [b] pos) (tD G W fun δ => M.bnd (fa δ) fun x => M.bnd (fb δ) fun y => M.opt (o x y)) := (pe_cmpR ho ha hb hm).imp fun _ _ _ h => go_op hs h
theorem te_of_d {f : En → M PyData} {σ : L2.St} {H : Hp} {Q : Bool → Hp → Prop} (h : tT G W f σ H Q) : tD G W f σ H fun x H' => ∃ k, x = .bl k ∧ Q k H' := by
  obtain ⟨w, S, δ, e, k, er, h⟩ := h
  exact ⟨w, S, δ, e, k, er, h.imp fun w' S' d a k' _ ⟨b, e, q⟩ v r => by
    subst e
    cases r
    exact ⟨b, rfl, q⟩⟩
theorem dt_cmp {op : CmpOp} (ho : OpR X (compareOp op) r) (hs : OpS G r o) (ha : PE X a (tS G W fa)) (hb : PE X b (tS G W fb)) (hm : behindInMarks op b = false) :
    PT X (.Compare a [op] [b] pos) (tT G W fun δ => M.bnd (fa δ) fun x => M.bnd (fb δ) fun y => M.opt (o x y)) := (pt_cmpR ho ha hb hm).imp fun _ _ _ h => go_op hs (te_of_d h)
theorem dt_val {e : Expr} {f : En → M PyData} (h : PE X e (tD G W f)) (he : ∀ whole, isTrue e X.env whole = (do let v ← whole; standAt e.pos; holding [v] (truthy v))) : PT X e (tT G W f) :=
  (pt_val h he).imp fun _ _ _ q => te_of_d q
end
end PyD

namespace PyD
open PySem PySem.Spec PyProof.Rows L2
section
variable {G : Gx} {X : Cx}
abbrev rSt : R2 := fun x y H Q => ∃ i j, x = .str i ∧ y = .str j ∧ i.length + j.length ≤ sizeLine ∧ Q (.str (i ++ j)) H
abbrev rAddA (K : PySem.W.Frag) : R2 := fun x y H Q => (rI0 fun i j => .int (i + j)) x y H Q ∨ (rCat x y H Q ∨ (rCatA K x y H Q ∨ rSt x y H Q))
theorem op_addA : OpR X (binaryOp .Add) (rAddA X.K) := op_add.or (op_cat.or (op_catA.or op_add_str))
theorem oo_add : OpO G (rAddA G.K) (binD .add) := by
  intro w S x y dx dy ds Q k rx ry e q
  cases dx <;> cases dy <;> try (simp [binD, catS] at e; done)
  rename_i xs ys
  obtain ⟨a, vs, rfl, z1, r1, h1⟩ := rx.list
  obtain ⟨b, us, rfl, z2, r2, h2⟩ := ry.list
  have e2 : (if xs.length + ys.length ≤ lineD then some (PyData.list (xs ++ ys)) else none) = some (.list ds) := e
  split at e2
  · rename_i hz
    cases e2
    refine .inr (.inl ⟨a, b, vs, us, rfl, rfl, h1 w (Adv.refl w), h2 w (Adv.refl w), by rw [r1.length, r2.length]; exact lineD_le hz, fun p hp => ?_⟩)
    obtain ⟨a1, k1, o1⟩ := new_own k hp (vs := vs ++ us) (by rw [List.length_append, r1.length, r2.length]; exact lineD_le hz) (r1.append r2)
    exact q _ _ _ a1 k1 o1
  · cases e2
theorem os_add : OpS G (rAddA G.K) (binD .add) := by
  intro w S x y dx dy d Q k rx ry e q
  cases dx <;> cases dy <;> try (simp [binD] at e; done)
  · cases e
    rw [rx.int, ry.int]
    exact .inl ⟨_, _, rfl, rfl, q w _ (Adv.refl w) k (.int _)⟩
  · rename_i s t
    rw [rx.str, ry.str]
    have e2 : (if s.length + t.length ≤ lineD then some (PyData.str (s ++ t)) else none) = some d := e
    split at e2
    · rename_i hz
      cases e2
      exact .inr (.inr (.inr ⟨_, _, rfl, rfl, lineD_le hz, q w _ (Adv.refl w) k (.str _)⟩))
    · cases e2
  · rename_i xs ys
    have e2 : (if xs.length + ys.length ≤ lineD then some (PyData.list (xs ++ ys)) else none) = some d := e
    have e3 : d = .list (xs ++ ys) := by
      split at e2
      · exact (Option.some.inj e2).symm
      · cases e2
    subst e3
    exact oo_add.vis k rx ry e q
  · rename_i xs ys
    obtain ⟨a, vs, rfl, z1, r1, h1⟩ := rx.tup
    obtain ⟨b, us, rfl, z2, r2, h2⟩ := ry.tup
    have e2 : (if xs.length + ys.length ≤ lineD then some (PyData.tuple (xs ++ ys)) else none) = some d := e
    split at e2
    · rename_i hz
      cases e2
      have ra := rx
      have rb := ry
      refine .inr (.inr (.inl ⟨a, b, vs, us, rfl, rfl, .inl (.inl (h1 w (Adv.refl w))), .inl (.inl (h2 w (Adv.refl w))), by rw [r1.length, r2.length]; exact lineD_le hz, fun n => ?_, fun n1 n2 => ?_, fun n1 n2 p hp => ?_⟩))
      · subst n
        cases r1
        rcases ry with ry | ⟨_, _, _, _, z, _⟩
        · exact q w _ (Adv.refl w) k ry
        · cases z
      · subst n2
        cases r2
        rcases rx with rx | ⟨_, _, _, _, z, _⟩
        · refine q w _ (Adv.refl w) k ?_
          rw [List.append_nil]
          exact rx
        · cases z
      · obtain ⟨a1, k1, o1⟩ := new_tup k hp (vs := vs ++ us) (by rw [List.length_append, r1.length, r2.length]; exact lineD_le hz) (r1.append r2)
        exact q _ _ a1 k1 o1
    · cases e2
theorem os_sub : OpS G (rI0 fun i j => .int (i - j)) (binD .sub) := by
  intro w S x y dx dy d Q k rx ry e q
  cases dx <;> cases dy <;> try (simp [binD] at e; done)
  cases e
  rw [rx.int, ry.int]
  exact ⟨_, _, rfl, rfl, q w _ (Adv.refl w) k (.int _)⟩
abbrev rMulA : R2 := fun x y H Q => (rI CMul fun i j => .int (i * j)) x y H Q ∨ rRep x y H Q
theorem op_mulA : OpR X (binaryOp .Mult) rMulA := op_mul.or op_rep
theorem len_rep {α : Type} (n : Nat) (xs : List α) : (List.replicate n xs).flatten.length = n * xs.length := by
  induction n with
  | zero => simp
  | succ n ih => rw [List.replicate_succ, List.flatten_cons, List.length_append, ih, Nat.succ_mul, Nat.add_comm]
theorem RepL.rep {st : List SA} {H : Hp} {vs : List V} {ds : List PyData} (r : RepL G st H vs ds) : ∀ n : Nat, RepL G st H (List.replicate n vs).flatten (List.replicate n ds).flatten
  | 0 => .nil
  | n + 1 => by
    rw [List.replicate_succ, List.flatten_cons, List.replicate_succ, List.flatten_cons]
    exact r.append (RepL.rep r n)
theorem oo_mul : OpO G rMulA (binD .mul) := by
  intro w S x y dx dy ds Q k rx ry e q
  cases dx <;> cases dy <;> try (simp [binD] at e; done)
  rename_i xs i
  obtain ⟨a, vs, rfl, z1, r1, h1⟩ := rx.list
  rw [ry.int]
  have e2 : (if (decide (-(2 ^ 63) ≤ i) && (decide (i < 2 ^ 63) && decide (xs.length * i.toNat ≤ lineD))) = true then some (PyData.list (List.replicate i.toNat xs).flatten) else none) = some (.list ds) := e
  split at e2
  · rename_i hz
    cases e2
    simp only [Bool.and_eq_true, decide_eq_true_eq] at hz
    obtain ⟨z1, z2, z3⟩ := hz
    have zz : vs.length * i.toNat ≤ sizeLine := by rw [r1.length]; exact lineD_le z3
    refine .inr ⟨a, i, vs, rfl, rfl, h1 w (Adv.refl w), z1, z2, zz, fun p hp => ?_⟩
    obtain ⟨a1, k1, o1⟩ := new_own k hp (vs := (List.replicate i.toNat vs).flatten) (by rw [len_rep, Nat.mul_comm]; exact zz) (r1.rep _)
    exact q _ _ _ a1 k1 o1
  · cases e2
theorem os_mul : OpS G rMulA (binD .mul) := by
  intro w S x y dx dy d Q k rx ry e q
  cases dx <;> cases dy <;> try (simp [binD] at e; done)
  · rename_i i j
    rw [rx.int, ry.int]
    have e2 : (if ((decide (-(2 ^ 64) < i) && decide (i < 2 ^ 64)) || (decide (-(2 ^ 64) < j) && decide (j < 2 ^ 64))) = true then some (PyData.int (i * j)) else none) = some d := e
    split at e2
    · rename_i hz
      cases e2
      simp only [Bool.and_eq_true, Bool.or_eq_true, decide_eq_true_eq] at hz
      exact .inl ⟨_, _, rfl, rfl, hz, q w _ (Adv.refl w) k (.int _)⟩
    · cases e2
  · rename_i xs i
    have e2 : (if (decide (-(2 ^ 63) ≤ i) && (decide (i < 2 ^ 63) && decide (xs.length * i.toNat ≤ lineD))) = true then some (PyData.list (List.replicate i.toNat xs).flatten) else none) = some d := e
    have e3 : d = .list (List.replicate i.toNat xs).flatten := by
      split at e2
      · exact (Option.some.inj e2).symm
      · cases e2
    subst e3
    exact oo_mul.vis k rx ry e q
theorem os_mod : OpS G (rI (fun _ j => 0 < j) fun i j => .int (i % j)) (binD .mod) := by
  intro w S x y dx dy d Q k rx ry e q
  cases dx <;> cases dy <;> try (simp [binD] at e; done)
  rename_i i j
  rw [rx.int, ry.int]
  have e2 : (if 0 < j then some (PyData.int (i % j)) else none) = some d := e
  split at e2
  · rename_i hz
    cases e2
    exact ⟨_, _, rfl, rfl, hz, q w _ (Adv.refl w) k (.int _)⟩
  · cases e2
theorem os_fdv : OpS G (rI CDiv fun i j => .int (i / j)) (binD .fdv) := by
  intro w S x y dx dy d Q k rx ry e q
  cases dx <;> cases dy <;> try (simp [binD] at e; done)
  rename_i i j
  rw [rx.int, ry.int]
  have e2 : (if (decide (0 < j) && decide (j < 1073741824)) = true then some (PyData.int (i / j)) else none) = some d := e
  split at e2
  · rename_i hz
    cases e2
    simp only [Bool.and_eq_true, decide_eq_true_eq] at hz
    exact ⟨_, _, rfl, rfl, hz, q w _ (Adv.refl w) k (.int _)⟩
  · cases e2
theorem os_pow : OpS G (rI CPow fun i j => .int (i ^ j.toNat)) (binD .pow) := by
  intro w S x y dx dy d Q k rx ry e q
  cases dx <;> cases dy <;> try (simp [binD] at e; done)
  rename_i i j
  rw [rx.int, ry.int]
  have e2 : (if (decide (0 ≤ j) && (decide (j ≤ 1000) && decide (i.natAbs < 2 ^ 64))) = true then some (PyData.int (i ^ j.toNat)) else none) = some d := e
  split at e2
  · rename_i hz
    cases e2
    simp only [Bool.and_eq_true, decide_eq_true_eq] at hz
    exact ⟨_, _, rfl, rfl, ⟨hz.1, by omega, hz.2.2⟩, q w _ (Adv.refl w) k (.int _)⟩
  · cases e2

def rEqA (K : PySem.W.Frag) : R2 := fun x y H Q => ∃ d e, Dp K H x d ∧ Dp K H y e ∧ okD d = true ∧ okD e = true ∧ Q (.bl (PyData.eqv d e)) H
def rNeA (K : PySem.W.Frag) : R2 := fun x y H Q => ∃ d e, Dp K H x d ∧ Dp K H y e ∧ okD d = true ∧ okD e = true ∧ Q (.bl (!PyData.eqv d e)) H
theorem op_eqA (hu : X.A.units + 64 < cLine) : OpR X (compareOp .Eq) (rEqA X.K) := by
  intro pins s σ H x y v u Q I rx ry h
  obtain ⟨d, e, hd, he, sd, se, q⟩ := h
  obtain ⟨as, r1⟩ := Dp.reads I d x v hd rx
  obtain ⟨bs, r2⟩ := Dp.reads I e y u he ry
  have h1 := okD_depth sd
  have h2 : min d.depth e.depth ≤ d.depth := Nat.min_le_left _ _
  exact SeqAt.eq_plain r1 r2 (okD_plain sd) (okD_plain se) (by omega) ⟨.bl _, H, I, rfl, q⟩
theorem op_neA (hu : X.A.units + 64 < cLine) : OpR X (compareOp .NotEq) (rNeA X.K) := by
  intro pins s σ H x y v u Q I rx ry h
  obtain ⟨d, e, hd, he, sd, se, q⟩ := h
  obtain ⟨as, r1⟩ := Dp.reads I d x v hd rx
  obtain ⟨bs, r2⟩ := Dp.reads I e y u he ry
  have h1 := okD_depth sd
  have h2 : min d.depth e.depth ≤ d.depth := Nat.min_le_left _ _
  exact SeqAt.ne_plain r1 r2 (okD_plain sd) (okD_plain se) (by omega) ⟨.bl _, H, I, rfl, q⟩
theorem os_eq : OpS G (rEqA G.K) (cmpD .eq) := by
  intro w S x y dx dy d Q k rx ry e q
  have e2 : (if (okD dx && okD dy) = true then some (PyData.bool (PyData.eqv dx dy)) else none) = some d := by rw [← e]; cases dx <;> cases dy <;> rfl
  split at e2
  · rename_i hz
    cases e2
    obtain ⟨h1, h2⟩ := Bool.and_eq_true_iff.mp hz
    exact ⟨dx, dy, rx.dp (okD_plain h1), ry.dp (okD_plain h2), h1, h2, q w _ (Adv.refl w) k (.bl _)⟩
  · cases e2
theorem os_ne : OpS G (rNeA G.K) (cmpD .ne) := by
  intro w S x y dx dy d Q k rx ry e q
  have e2 : (if (okD dx && okD dy) = true then some (PyData.bool (!PyData.eqv dx dy)) else none) = some d := by rw [← e]; cases dx <;> cases dy <;> rfl
  split at e2
  · rename_i hz
    cases e2
    obtain ⟨h1, h2⟩ := Bool.and_eq_true_iff.mp hz
    exact ⟨dx, dy, rx.dp (okD_plain h1), ry.dp (okD_plain h2), h1, h2, q w _ (Adv.refl w) k (.bl _)⟩
  · cases e2
theorem os_lt : OpS G (rI0 fun i j => .bl (decide (i < j))) (cmpD .lt) := by
  intro w S x y dx dy d Q k rx ry e q
  cases dx <;> cases dy <;> try (simp [cmpD] at e; done)
  cases e
  rw [rx.int, ry.int]
  exact ⟨_, _, rfl, rfl, q w _ (Adv.refl w) k (.bl _)⟩
theorem os_le : OpS G (rI0 fun i j => .bl (decide (i ≤ j))) (cmpD .le) := by
  intro w S x y dx dy d Q k rx ry e q
  cases dx <;> cases dy <;> try (simp [cmpD] at e; done)
  cases e
  rw [rx.int, ry.int]
  exact ⟨_, _, rfl, rfl, q w _ (Adv.refl w) k (.bl _)⟩
theorem os_gt : OpS G (rI0 fun i j => .bl (decide (j < i))) (cmpD .gt) := by
  intro w S x y dx dy d Q k rx ry e q
  cases dx <;> cases dy <;> try (simp [cmpD] at e; done)
  cases e
  rw [rx.int, ry.int]
  exact ⟨_, _, rfl, rfl, q w _ (Adv.refl w) k (.bl _)⟩
theorem os_ge : OpS G (rI0 fun i j => .bl (decide (j ≤ i))) (cmpD .ge) := by
  intro w S x y dx dy d Q k rx ry e q
  cases dx <;> cases dy <;> try (simp [cmpD] at e; done)
  cases e
  rw [rx.int, ry.int]
  exact ⟨_, _, rfl, rfl, q w _ (Adv.refl w) k (.bl _)⟩
abbrev rIsA : R2 := fun x y H Q => (y = .non ∧ Q (.bl (decide (x = .non))) H) ∨ rIsB x y H Q
abbrev rNotA : R2 := fun x y H Q => (y = .non ∧ Q (.bl (!decide (x = .non))) H) ∨ rNotB x y H Q
theorem op_isA : OpR X (compareOp .Is) rIsA := op_isN.or op_isBl
theorem op_notA : OpR X (compareOp .IsNot) rNotA := op_notN.or op_notBl
theorem RepS.ne_non {w : Wd} {v : V} {d : PyData} (r : RepS G w v d) : decide (v = .non) = isNone d := by
  rcases r with r | ⟨p, vs, ds, rfl, rfl, _⟩
  · cases r <;> rfl
  · rfl
theorem os_is : OpS G rIsA (cmpD .is_) := by
  intro w S x y dx dy d Q k rx ry e q
  have hn : dy = .none → d = .bool (isNone dx) := fun z => by
    subst z
    cases dx <;> (cases e; rfl)
  cases dy <;> try (cases dx <;> simp [cmpD] at e <;> done)
  · rw [hn rfl] at q
    exact .inl ⟨ry.non, by rw [rx.ne_non]; exact q w _ (Adv.refl w) k (.bl _)⟩
  · cases dx <;> try (simp [cmpD] at e; done)
    cases e
    exact .inr ⟨_, _, rx.bl, ry.bl, q w _ (Adv.refl w) k (.bl _)⟩
theorem os_isn : OpS G rNotA (cmpD .isn) := by
  intro w S x y dx dy d Q k rx ry e q
  have hn : dy = .none → d = .bool (!isNone dx) := fun z => by
    subst z
    cases dx <;> (cases e; rfl)
  cases dy <;> try (cases dx <;> simp [cmpD] at e <;> done)
  · rw [hn rfl] at q
    exact .inl ⟨ry.non, by rw [rx.ne_non]; exact q w _ (Adv.refl w) k (.bl _)⟩
  · cases dx <;> try (simp [cmpD] at e; done)
    cases e
    exact .inr ⟨_, _, rx.bl, ry.bl, q w _ (Adv.refl w) k (.bl _)⟩
end
end PyD

namespace PyD
open PySem PySem.Spec PyProof.Rows L2
section
variable {G : Gx} {X : Cx}
theorem okAll {xs : List PyData} (h : xs.all okD = true) : PyData.plainAll xs = true ∧ PyData.depthAll xs ≤ 60 := by
  induction xs with
  | nil => exact ⟨rfl, by simp [PyData.depthAll]⟩
  | cons x xs ih =>
    rw [List.all_cons, Bool.and_eq_true] at h
    obtain ⟨h1, h2⟩ := ih h.2
    refine ⟨?_, ?_⟩
    · simp [PyData.plainAll, okD_plain h.1, h1]
    · have := okD_depth h.1
      simp only [PyData.depthAll]
      omega
def DpA (K : PySem.W.Frag) (H : Hp) (y : V) (ds : List PyData) : Prop := Dp K H y (.list ds) ∨ Dp K H y (.tuple ds)
def rInA (K : PySem.W.Frag) (neg : Bool) : R2 := fun x y H Q => ∃ d ds, Dp K H x d ∧ DpA K H y ds ∧ okD d = true ∧ ds.all okD = true ∧ Q (.bl (if neg then !(ds.any fun z => PyData.eqv z d) else ds.any fun z => PyData.eqv z d)) H
theorem op_inA (hu : X.A.units + 65 < cLine) : OpR X (compareOp .In) (rInA X.K false) := by
  intro pins s σ H x y v u Q I rx ry h
  obtain ⟨d, ds, hd, he, sd, se, q⟩ := h
  obtain ⟨as, r1⟩ := Dp.reads I d x v hd rx
  obtain ⟨h1, h2⟩ := okAll se
  have h3 : min (PyData.depthAll ds) d.depth ≤ PyData.depthAll ds := Nat.min_le_left _ _
  rcases he with he | he
  · obtain ⟨bs, r2⟩ := Dp.reads I _ y u he ry
    exact SeqAt.in_list_data r2 r1 h1 (okD_plain sd) (by omega) ⟨.bl _, H, I, rfl, q⟩
  · obtain ⟨bs, r2⟩ := Dp.reads I _ y u he ry
    exact SeqAt.in_tuple_data r2 r1 h1 (okD_plain sd) (by omega) ⟨.bl _, H, I, rfl, q⟩
theorem op_ninA (hu : X.A.units + 65 < cLine) : OpR X (compareOp .NotIn) (rInA X.K true) := by
  intro pins s σ H x y v u Q I rx ry h
  obtain ⟨d, ds, hd, he, sd, se, q⟩ := h
  obtain ⟨as, r1⟩ := Dp.reads I d x v hd rx
  obtain ⟨h1, h2⟩ := okAll se
  have h3 : min (PyData.depthAll ds) d.depth ≤ PyData.depthAll ds := Nat.min_le_left _ _
  rcases he with he | he
  · obtain ⟨bs, r2⟩ := Dp.reads I _ y u he ry
    exact SeqAt.notIn_list_data r2 r1 h1 (okD_plain sd) (by omega) ⟨.bl _, H, I, rfl, q⟩
  · obtain ⟨bs, r2⟩ := Dp.reads I _ y u he ry
    exact SeqAt.notIn_tuple_data r2 r1 h1 (okD_plain sd) (by omega) ⟨.bl _, H, I, rfl, q⟩
abbrev rInS : R2 := fun x y H Q => ∃ (c : Nat) (z : Str), x = .str ⟨#[c]⟩ ∧ y = .str z ∧ Q (.bl (decide (c ∈ z.cps.toList))) H
abbrev rInB (K : PySem.W.Frag) : R2 := fun x y H Q => rInA K false x y H Q ∨ rInS x y H Q
theorem op_inB (hu : X.A.units + 65 < cLine) : OpR X (compareOp .In) (rInB X.K) := (op_inA hu).or op_in_sign
theorem RepS.dpl {w : Wd} {v : V} {ds : List PyData} (r : RepS G w v (.list ds)) (h : PyData.plainAll ds = true) : Dp G.K w.H v (.list ds) := r.dp (by simpa [PyData.plain] using h)
theorem RepS.dpt {w : Wd} {v : V} {ds : List PyData} (r : RepS G w v (.tuple ds)) (h : PyData.plainAll ds = true) : Dp G.K w.H v (.tuple ds) := r.dp (by simpa [PyData.plain] using h)
theorem os_in : OpS G (rInB G.K) (cmpD .in_) := by
  intro w S x y dx dy d Q k rx ry e q
  have key : ∀ xs : List PyData, (inD dx xs).map PyData.bool = some d → (PyData.plainAll xs = true → DpA G.K w.H y xs) → rInB G.K x y w.H Q := fun xs e ry => by
    unfold inD at e
    split at e
    · rename_i hz
      cases e
      obtain ⟨h1, h2⟩ := Bool.and_eq_true_iff.mp hz
      exact .inl ⟨dx, xs, rx.dp (okD_plain h1), ry (okAll h2).1, h1, h2, q w _ (Adv.refl w) k (.bl _)⟩
    · cases e
  cases dy <;> try (cases dx <;> simp [cmpD] at e <;> done)
  · cases dx <;> try (simp [cmpD] at e; done)
    rename_i z x'
    have e2 : (memS x' z).map PyData.bool = some d := e
    unfold memS at e2
    split at e2
    · rename_i c hc
      cases e2
      refine .inr ⟨c, z, ?_, ry.str, q w _ (Adv.refl w) k (.bl _)⟩
      rw [rx.str]
      obtain ⟨⟨l⟩⟩ := x'
      have hc : l = [c] := hc
      rw [hc]
    · cases e2
  · rename_i xs
    exact key xs (by cases dx <;> exact e) fun h => .inl (ry.dpl h)
  · rename_i xs
    exact key xs (by cases dx <;> exact e) fun h => .inr (ry.dpt h)
theorem os_nin : OpS G (rInA G.K true) (cmpD .nin) := by
  intro w S x y dx dy d Q k rx ry e q
  have key : ∀ xs : List PyData, ((inD dx xs).map fun b => PyData.bool (!b)) = some d → (PyData.plainAll xs = true → DpA G.K w.H y xs) → rInA G.K true x y w.H Q := fun xs e ry => by
    unfold inD at e
    split at e
    · rename_i hz
      cases e
      obtain ⟨h1, h2⟩ := Bool.and_eq_true_iff.mp hz
      exact ⟨dx, xs, rx.dp (okD_plain h1), ry (okAll h2).1, h1, h2, q w _ (Adv.refl w) k (.bl _)⟩
    · cases e
  cases dy <;> try (cases dx <;> simp [cmpD] at e <;> done)
  · rename_i xs
    exact key xs (by cases dx <;> exact e) fun h => .inl (ry.dpl h)
  · rename_i xs
    exact key xs (by cases dx <;> exact e) fun h => .inr (ry.dpt h)

theorem atI_rep {st : List SA} {H : Hp} {vs : List V} {ds : List PyData} {i : Int} {d : PyData} (r : RepL G st H vs ds) (h : atI ds i = some d) : ∃ v, atI vs i = some v ∧ Rep G st H v d := by
  unfold atI at h ⊢
  rw [r.length]
  cases e : ixN ds.length i with
  | none => rw [e] at h; cases h
  | some j =>
    rw [e] at h
    exact r.get' h
theorem os_idx : OpS G (rIx G.K) idxD := by
  intro w S x y dx dy d Q k rx ry e q
  cases dx <;> cases dy <;> try (simp [idxD] at e; done)
  · rename_i z i
    have e2 : (if z.length ≤ lineD then (atI z.cps.toList i).map fun c => PyData.str ⟨#[c]⟩ else none) = some d := e
    split at e2
    · rename_i hz
      obtain ⟨c, hc, rfl⟩ := Option.map_eq_some_iff.mp e2
      exact .inr (.inr ⟨z, i, c, rx.str, ry.int, lineD_le hz, hc, q w _ (Adv.refl w) k (.str _)⟩)
    · cases e2
  · rename_i xs i
    obtain ⟨a, vs, rfl, z1, r1, h1⟩ := rx.list
    obtain ⟨v, h2, h3⟩ := atI_rep r1 (show atI xs i = some d from e)
    exact .inl ⟨a, vs, i, v, rfl, ry.int, .inl (.inl (h1 w (Adv.refl w))), h2, q w _ (Adv.refl w) k h3⟩
  · rename_i xs i
    obtain ⟨a, vs, rfl, z1, r1, h1⟩ := rx.tup
    obtain ⟨v, h2, h3⟩ := atI_rep r1 (show atI xs i = some d from e)
    exact .inr (.inl ⟨a, vs, i, v, rfl, ry.int, .inl (.inl (h1 w (Adv.refl w))), h2, q w _ (Adv.refl w) k h3⟩)

def rCntA (K : PySem.W.Frag) : V → List V → Hp → VK → Prop := fun x xs H Q => ∃ (y : V) (d : PyData) (ds : List PyData), xs = [y] ∧ Dp K H x (.list ds) ∧ Dp K H y d ∧ okD d = true ∧ ds.all okD = true ∧ Q (.int (ds.countP fun z => PyData.eqv z d : Nat)) H
theorem mt_cntA (hu : X.A.units + 65 < cLine) : MtR X "list.count" (rCntA X.K) := by
  intro pins s σ H x xs v us Q I rx rxs h
  obtain ⟨y, d, ds, rfl, hl, hy, sd, sl, q⟩ := h
  obtain ⟨uy, rfl, ry⟩ := Vals.one rxs
  obtain ⟨bs, r1⟩ := Dp.reads I d y uy hy ry
  obtain ⟨h1, h2⟩ := okAll sl
  have h3 : min (PyData.depthAll ds) d.depth ≤ PyData.depthAll ds := Nat.min_le_left _ _
  cases hl with
  | lst hs ha =>
    cases rx
    obtain ⟨its, rv, pl, hlen⟩ := I.list hs
    obtain ⟨as, h4⟩ := Dp.readsAll I ds _ its ha rv
    exact PySem.SeqAt.count_list_data pl.isList (show ReadsAll s.heap its.toArray.toList ds as from h4) r1 h1 (okD_plain sd) (by omega) ⟨.int _, H, I.tok _, ⟨_, rfl⟩, q⟩
def rIndA (K : PySem.W.Frag) : V → List V → Hp → VK → Prop := fun x xs H Q => ∃ (y : V) (d : PyData) (ds : List PyData) (j : Nat), xs = [y] ∧ Dp K H x (.list ds) ∧ Dp K H y d ∧ okD d = true ∧ ds.all okD = true ∧ ds.findIdx? (fun z => PyData.eqv z d) = some j ∧ Q (.int (j : Nat)) H
theorem mt_indA (hu : X.A.units + 65 < cLine) : MtR X "list.index" (rIndA X.K) := by
  intro pins s σ H x xs v us Q I rx rxs h
  obtain ⟨y, d, ds, j, rfl, hl, hy, sd, sl, hj, q⟩ := h
  obtain ⟨uy, rfl, ry⟩ := Vals.one rxs
  obtain ⟨bs, r1⟩ := Dp.reads I d y uy hy ry
  obtain ⟨h1, h2⟩ := okAll sl
  have h3 : min (PyData.depthAll ds) d.depth ≤ PyData.depthAll ds := Nat.min_le_left _ _
  cases hl with
  | lst hs ha =>
    cases rx
    obtain ⟨its, rv, ⟨⟨cls, dd, data, sls⟩, n, ho, hc, hdn, hdt⟩, hlen⟩ := I.list hs
    simp only at hc hdt
    subst hc hdt
    obtain ⟨as, h4⟩ := Dp.readsAll I ds _ its ha rv
    have hvl := rv.length
    have hsl := sizeLine_eq
    have h4' : ReadsAll s.heap its.toArray.toList ds as := h4
    obtain ⟨hjl, hit, hno⟩ := PySem.SeqAt.hit_at h4' h1 (show PySem.SeqAt.dataPlace ds d = some j from hj)
    refine call_meets PySem.F.slot_list_index ⟨_, ho, rfl⟩ PySem.F.entry_list_index (PySem.F.args_list_index_2 _ _)
      (SeqAt.list_indexAt _ its.toArray n dd sls uy (fun u => PyData.eqv (SeqAt.readOf s.heap u) d) j hjl (by have z : its.toArray.size = its.length := List.size_toArray; omega) hit hno) ⟨ho, SeqAt.items_plain h4' r1 h1 (okD_plain sd) (by omega), ⟨.int (j : Nat), H, I.tok _, ⟨_, rfl⟩, q⟩⟩

/-- what a call of one value asks -/
def CalS (G : Gx) (r : List V → Hp → VK → Prop) (o : PyData → Option PyData) : Prop := ∀ (w : Wd) (S : Store) (x : V) (dx d : PyData) (Q : VK), Ok G w S → RepS G w x dx → o dx = some d →
  (∀ w' v, Adv w w' → Ok G w' S → RepW G w' v d → Q v w'.H) → r [x] w.H Q
def CalO (G : Gx) (r : List V → Hp → VK → Prop) (o : PyData → Option PyData) : Prop := ∀ (w : Wd) (S : Store) (x : V) (dx : PyData) (ds : List PyData) (Q : VK), Ok G w S → RepS G w x dx → o dx = some (.list ds) →
  (∀ w' p vs, Adv w w' → Ok G w' S → OwnR G w w' p vs ds → Q (.ref p) w'.H) → r [x] w.H Q
theorem CalO.vis {r : List V → Hp → VK → Prop} {o : PyData → Option PyData} (h : CalO G r o) (hl : ∀ dx d, o dx = some d → ∃ ds, d = .list ds) : CalS G r o := fun w S x dx d Q k rx e q => by
  obtain ⟨ds, rfl⟩ := hl _ _ e
  exact h w S x dx ds Q k rx e fun w' p vs a k' ow => by
    obtain ⟨a2, k2, r2⟩ := ow.show a k'
    exact q (w'.sub fun b => b = p) _ a2 k2 r2
theorem cs_len : CalS G (fun xs H Q => ∃ x n, xs = [x] ∧ LenV G.K x H n ∧ Q (.int n) H) (biD .len) := by
  intro w S x dx d Q k rx e q
  cases dx <;> try (simp [biD] at e; done)
  · rename_i z
    have e2 : (if z.length ≤ lineD then some (PyData.int z.length) else none) = some d := e
    split at e2
    · rename_i hz
      cases e2
      rw [rx.str]
      exact ⟨_, _, rfl, ⟨lineD_le hz, rfl⟩, q w _ (Adv.refl w) k (.int _)⟩
    · cases e2
  · rename_i xs
    cases e
    obtain ⟨a, vs, rfl, z1, r1, h1⟩ := rx.list
    exact ⟨_, _, rfl, .inl ⟨vs, .inl (.inl (h1 w (Adv.refl w))), r1.length.symm⟩, q w _ (Adv.refl w) k (.int _)⟩
  · rename_i xs
    cases e
    obtain ⟨a, vs, rfl, z1, r1, h1⟩ := rx.tup
    exact ⟨_, _, rfl, .inr ⟨vs, .inl (.inl (h1 w (Adv.refl w))), r1.length.symm⟩, q w _ (Adv.refl w) k (.int _)⟩
end
end PyD

namespace PyD
open PySem PySem.Spec PyProof.Rows L2
abbrev leD : PyData → PyData → Bool := PySem.W.dataLe false id
theorem leD_eq (a b : PyData) : leD a b = !PySem.W.dataLt b a := rfl
theorem insD_split (a : PyData) : ∀ l1 l2 : List PyData, (∀ b ∈ l1, (!leD a b) = true) → (∀ b ∈ l2, leD a b = true) → insD a (l1 ++ l2) = l1 ++ a :: l2
  | [], [], _, _ => rfl
  | [], y :: l2, _, h => by
    have h1 := h y List.mem_cons_self
    rw [leD_eq, Bool.not_eq_true'] at h1
    show (if PySem.W.dataLt y a = true then y :: insD a l2 else a :: y :: l2) = a :: y :: l2
    rw [h1]
    rfl
  | x :: l1, l2, h, h' => by
    have h1 := h x List.mem_cons_self
    rw [leD_eq, Bool.not_not] at h1
    show (if PySem.W.dataLt x a = true then x :: insD a (l1 ++ l2) else a :: x :: (l1 ++ l2)) = x :: (l1 ++ a :: l2)
    rw [if_pos h1, insD_split a l1 l2 (fun b hb => h b (List.mem_cons_of_mem _ hb)) h']
theorem leD_total : PySem.W.TotalLe leD := PySem.W.sortLe_total _ _ _
theorem sortD_eq : ∀ l : List PyData, sortD l = l.mergeSort leD
  | [] => by simp [sortD]
  | a :: l => by
    obtain ⟨l1, l2, e1, e2, h⟩ := List.mergeSort_cons (le := leD) (fun a b c => leD_total.trans a b c) (fun a b => by
      have := leD_total.total a b
      rw [Bool.or_eq_true]
      exact this) a l
    have hs : (List.mergeSort (a :: l) leD).Pairwise fun a b => leD a b = true := PySem.W.sort_pairwise leD_total _
    rw [e1] at hs ⊢
    have hs2 := (List.pairwise_append.mp hs).2.1
    show insD a (sortD l) = _
    rw [sortD_eq l, e2]
    exact insD_split a l1 l2 h (List.pairwise_cons.mp hs2).1
section
variable {G : Gx} {X : Cx}
def rSrt (K : PySem.W.Frag) : List V → Hp → VK → Prop := fun xs H Q => ∃ (a : Addr) (vs : List V) (ds : List PyData), xs = [.ref a] ∧ (SqL K H a vs ∨ SqT K H a vs) ∧ DpAll K H vs ds ∧ srtOk ds = true ∧
  ∀ (p : Addr) (zs : List (V × PyData)), H p = none → zs.map (·.2) = sortD ds → (∀ z ∈ zs, z ∈ vs.zip ds) → zs.length = ds.length → Q (.ref p) (upd H p (.lst (zs.map (·.1))))
theorem srtOk_alike {ds : List PyData} (h : srtOk ds = true) : PySem.W.AllAlike ds := fun d hd e he => List.all_eq_true.mp (List.all_eq_true.mp (Bool.and_eq_true_iff.mp h).1 d hd) e he
theorem srtOk_all {ds : List PyData} (h : srtOk ds = true) : ds.all okD = true := (Bool.and_eq_true_iff.mp (Bool.and_eq_true_iff.mp h).2).1
theorem srtOk_srt {ds : List PyData} (h : srtOk ds = true) : Srtb ds := by
  rcases Bool.or_eq_true_iff.mp (Bool.and_eq_true_iff.mp (Bool.and_eq_true_iff.mp h).2).2 with z | z
  · refine .inl (.inl fun d hd => ?_)
    have q := List.all_eq_true.mp z d hd
    unfold tupNe at q
    split at q
    · exact ⟨_, _, rfl⟩
    · cases q
  · rcases Bool.or_eq_true_iff.mp z with z | z
    · refine .inl (.inr fun d hd => ?_)
      have q := List.all_eq_true.mp z d hd
      refine ⟨fun e => ?_, fun xs e => ?_⟩
      · rw [e] at q; cases q
      · rw [e] at q; cases q
    · obtain ⟨z1, z2⟩ := Bool.and_eq_true_iff.mp z
      refine .inr ⟨of_decide_eq_true z1, fun d hd e => ?_⟩
      have q := List.all_eq_true.mp z2 d hd
      rw [e] at q
      cases q
theorem dpAll_zip {K : PySem.W.Frag} {H : Hp} : ∀ {vs : List V} {ds : List PyData}, DpAll K H vs ds → vs.length = ds.length ∧ ∀ z ∈ vs.zip ds, Dp K H z.1 z.2
  | _, _, .nil => ⟨rfl, fun z h => by simp at h⟩
  | _, _, .cons a b => by
    obtain ⟨h1, h2⟩ := dpAll_zip b
    refine ⟨by simp [h1], fun z hz => ?_⟩
    rw [List.zip_cons_cons] at hz
    rcases List.mem_cons.mp hz with e | hz
    · subst e
      exact a
    · exact h2 z hz
theorem zip_each {K : PySem.W.Frag} {pins : List (Addr × Obj)} {s : Shared} {σ : L2.St} {H : Hp} (hK : X.K = K) (I : Inv X pins σ H s) : ∀ {vs : List V} {ds : List PyData} {us : List Value}, DpAll K H vs ds → Vals vs us →
    PySem.W.EachIs (fun u (b : V × PyData) => L2.RelV b.1 u) us (vs.zip ds) ∧ PySem.W.EachIs (fun u (b : V × PyData) => ∃ as, Reads s.heap u b.2 as) us (vs.zip ds)
  | _, _, _, .nil, r => by cases r; exact ⟨.nil, .nil⟩
  | _, _, _, .cons a b, r => by
    cases r with
    | cons ra rb =>
      obtain ⟨h1, h2⟩ := zip_each hK I b rb
      subst hK
      exact ⟨.cons ra h1, .cons (Dp.reads I _ _ _ a ra) h2⟩
theorem each_vals {us : List Value} {zs : List (V × PyData)} (h : PySem.W.EachIs (fun u (b : V × PyData) => L2.RelV b.1 u) us zs) : Vals (zs.map (·.1)) us := by
  induction h with
  | nil => exact .nil
  | cons a b ih => exact .cons a ih
theorem zip_snd {α β : Type} : ∀ (xs : List α) (ys : List β), xs.length = ys.length → (xs.zip ys).map (·.2) = ys
  | [], [], _ => rfl
  | [], _ :: _, h => by cases h
  | _ :: _, [], h => by cases h
  | x :: xs, y :: ys, h => by
    rw [List.zip_cons_cons, List.map_cons, zip_snd xs ys (by simpa using h)]
theorem cr_srt (hu : X.A.units + 65 < cLine) : CallR X (.builtin "sorted") (rSrt X.K) := by
  intro pins s σ H xs us Q I r h
  obtain ⟨a, vs, ds, rfl, hs, hd, ok, q⟩ := h
  obtain ⟨its, rv, hl, hz⟩ : ∃ its : List Value, Vals vs its ∧ (s.heap.IsList a its.toArray ∨ IsTup s.heap a its.toArray) ∧ vs.length ≤ sizeLine := by
    rcases hs with hs | hs
    · obtain ⟨its, rv, hl, hz⟩ := I.list hs
      exact ⟨its, rv, .inl hl.isList, hz⟩
    · obtain ⟨its, rv, hl, hz⟩ := I.tuple hs
      exact ⟨its, rv, .inr (by exact hl), hz⟩
  rw [Vals.ref1 r]
  obtain ⟨hlen, hzip⟩ := dpAll_zip hd
  obtain ⟨e1, e2⟩ := zip_each rfl I hd rv
  have hsnd : (vs.zip ds).map (fun b : V × PyData => b.2) = ds := zip_snd _ _ hlen
  refine sorted_dataT (β := V × PyData) (enc := fun b => b.2) (R := fun u b => L2.RelV b.1 u) hl e1 e2 (by rw [hsnd]; exact srtOk_alike ok) (by rw [hsnd]; exact srtOk_srt ok) ?_ (fun b hb => ?_) fun out ho eo => ?_
  · rw [List.length_zip, hlen, Nat.min_self, ← hlen]
    exact hz
  · have hb2 : b.2 ∈ ds := by
      have := List.mem_map_of_mem (f := fun b : V × PyData => b.2) hb
      rw [hsnd] at this
      exact this
    have := okD_depth (List.all_eq_true.mp (srtOk_all ok) _ hb2)
    omega
  · obtain ⟨ep, he'⟩ := PyProof.Rows.sortedAll_at s.heap its out.toArray
    have hmem : ∀ z ∈ (vs.zip ds).mergeSort (PySem.W.dataLe false fun b => b.2), z ∈ vs.zip ds := fun z hz => List.mem_mergeSort.mp hz
    have hl2 : ((vs.zip ds).mergeSort (PySem.W.dataLe false fun b => b.2)).length = ds.length := by rw [List.length_mergeSort, List.length_zip, hlen, Nat.min_self]
    have hn := I.hok.fresh (Nat.le_succ s.heap.objs.size)
    have hlen2 : (((vs.zip ds).mergeSort (PySem.W.dataLe false fun b => b.2)).map (·.1)).length ≤ sizeLine := by rw [List.length_map, hl2, ← hlen]; exact hz
    refine ⟨.ref _, upd H (s.heap.objs.size + 1) (.lst (((vs.zip ds).mergeSort (PySem.W.dataLe false fun b => b.2)).map (·.1))), I.laid (t' := s.toks) (fun _ _ => PyProof.Rows.sortedAll_old) (Nat.le_succ _) ⟨hlen2, out, ep, each_vals eo, he'⟩, rfl, q _ _ hn ?_ hmem hl2⟩
    rw [sortD_eq]
    have := PySem.W.sort_maps (r := PySem.W.dataLe false fun b : V × PyData => b.2) (s := leD) (fun b : V × PyData => b.2) (l := vs.zip ds) (fun _ _ _ _ => rfl)
    rw [this, hsnd]
theorem repL_of_zip {w : Wd} {zs : List (V × PyData)} (h : ∀ z ∈ zs, RepW G w z.1 z.2) : RepLW G w (zs.map (·.1)) (zs.map (·.2)) := by
  induction zs with
  | nil => exact .nil
  | cons z zs ih => exact .cons (h z List.mem_cons_self) (ih fun y hy => h y (List.mem_cons_of_mem _ hy))
theorem rep_zip {st : List SA} {H : Hp} : ∀ {vs : List V} {ds : List PyData}, RepL G st H vs ds → ∀ z ∈ vs.zip ds, Rep G st H z.1 z.2
  | _, _, .nil, z, h => by simp at h
  | _, _, .cons a b, z, h => by
    rw [List.zip_cons_cons] at h
    rcases List.mem_cons.mp h with e | h
    · subst e
      exact a
    · exact rep_zip b z h
theorem srtD_some {xs : List PyData} {d : PyData} (h : srtD xs = some d) : srtOk xs = true ∧ d = .list (sortD xs) := by
  unfold srtD at h
  split at h
  · exact ⟨‹_›, (Option.some.inj h).symm⟩
  · cases h
theorem co_srt : CalO G (rSrt G.K) (biD .srt) := by
  intro w S x dx ds Q k rx e q
  have main : ∀ (a : Addr) (vs : List V) (xs : List PyData), vs.length ≤ sizeLine → RepLW G w vs xs → x = .ref a → (SqL G.K w.H a vs ∨ SqT G.K w.H a vs) → srtD xs = some (.list ds) → rSrt G.K [x] w.H Q := by
    intro a vs xs z1 r1 e0 hs e
    obtain ⟨ok, e2⟩ := srtD_some e
    cases e2
    refine ⟨a, vs, xs, by rw [e0], hs, RepL.dp (vis_H w) _ _ r1 (okAll (srtOk_all ok)).1, ok, fun p zs hp e1 e2 e3 => ?_⟩
    have rz : RepLW G w (zs.map (·.1)) (zs.map (·.2)) := repL_of_zip fun z hz => rep_zip r1 z (e2 z hz)
    rw [e1] at rz
    obtain ⟨a1, k1, o1⟩ := new_own k hp (vs := zs.map (·.1)) (by rw [List.length_map, e3, ← r1.length]; exact z1) rz
    exact q _ _ _ a1 k1 o1
  cases dx <;> try (simp [biD] at e; done)
  · obtain ⟨a, vs, rfl, z1, r1, h1⟩ := rx.list
    exact main a vs _ z1 r1 rfl (.inl (.inl (.inl (h1 w (Adv.refl w))))) e
  · obtain ⟨a, vs, rfl, z1, r1, h1⟩ := rx.tup
    exact main a vs _ z1 r1 rfl (.inr (.inl (.inl (h1 w (Adv.refl w))))) e

theorem co_list : CalO G (fun xs H Q => ∃ p ys, xs = [.ref p] ∧ (SqL G.K H p ys ∨ SqT G.K H p ys) ∧ ∀ l, H l = none → Q (.ref l) (upd H l (.lst ys))) (biD .list) := by
  intro w S x dx ds Q k rx e q
  cases dx <;> try (simp [biD] at e; done)
  · rename_i xs
    cases e
    obtain ⟨a, vs, rfl, z1, r1, h1⟩ := rx.list
    refine ⟨a, vs, rfl, .inl (.inl (.inl (h1 w (Adv.refl w)))), fun l hl => ?_⟩
    obtain ⟨a1, k1, o1⟩ := new_own k hl z1 r1
    exact q _ _ _ a1 k1 o1
  · rename_i xs
    cases e
    obtain ⟨a, vs, rfl, z1, r1, h1⟩ := rx.tup
    refine ⟨a, vs, rfl, .inr (.inl (.inl (h1 w (Adv.refl w)))), fun l hl => ?_⟩
    obtain ⟨a1, k1, o1⟩ := new_own k hl z1 r1
    exact q _ _ _ a1 k1 o1
theorem cs_tup : CalS G (fun xs H Q => ∃ p ys, xs = [.ref p] ∧ ((SqL G.K H p ys ∧ ∀ l, H l = none → Q (.ref l) (upd H l (.tup ys))) ∨ (SqT G.K H p ys ∧ Q (.ref p) H))) (biD .tup) := by
  intro w S x dx d Q k rx e q
  cases dx <;> try (simp [biD] at e; done)
  · rename_i xs
    cases e
    obtain ⟨a, vs, rfl, z1, r1, h1⟩ := rx.list
    refine ⟨a, vs, rfl, .inl ⟨.inl (.inl (h1 w (Adv.refl w))), fun l hl => ?_⟩⟩
    obtain ⟨a1, k1, o1⟩ := new_tup k hl z1 r1
    exact q _ _ a1 k1 o1
  · rename_i xs
    cases e
    have rr := rx
    obtain ⟨a, vs, rfl, z1, r1, h1⟩ := rx.tup
    refine ⟨a, vs, rfl, .inr ⟨.inl (.inl (h1 w (Adv.refl w))), ?_⟩⟩
    rcases rr with rr | ⟨_, _, _, _, z, _⟩
    · exact q w _ (Adv.refl w) k rr
    · cases z
theorem intsD_eq : ∀ {xs : List PyData} {ns : List Int}, intsD xs = some ns → xs = ns.map .int
  | [], ns, h => by cases h; rfl
  | x :: xs, ns, h => by
    cases x <;> try (simp [intsD] at h; done)
    obtain ⟨r, e1, rfl⟩ := Option.map_eq_some_iff.mp (show (intsD xs).map _ = some ns from h)
    rw [intsD_eq e1]
    rfl
theorem boolsD_eq : ∀ {xs : List PyData} {bs : List Bool}, boolsD xs = some bs → xs = bs.map .bool
  | [], ns, h => by cases h; rfl
  | x :: xs, ns, h => by
    cases x <;> try (simp [boolsD] at h; done)
    obtain ⟨r, e1, rfl⟩ := Option.map_eq_some_iff.mp (show (boolsD xs).map _ = some ns from h)
    rw [boolsD_eq e1]
    rfl
theorem RepL.bools {st : List SA} {H : Hp} : ∀ {vs : List V} {bs : List Bool}, RepL G st H vs (bs.map .bool) → vs = bs.map V.bl
  | _, [], r => by cases r; rfl
  | _, n :: ns, r => by
    cases r with
    | cons a b =>
      cases a
      rw [RepL.bools b]
      rfl
theorem cs_sum : CalS G (rSum G.K) (biD .sum) := by
  intro w S x dx d Q k rx e q
  cases dx <;> try (simp [biD] at e; done)
  rename_i xs
  obtain ⟨ns, e1, rfl⟩ := Option.map_eq_some_iff.mp (show (intsD xs).map _ = some d from e)
  obtain ⟨a, vs, rfl, z1, r1, h1⟩ := rx.list
  rw [intsD_eq e1] at r1
  exact ⟨a, ns, rfl, .inl (.inl (by rw [← r1.ints]; exact h1 w (Adv.refl w))), q w _ (Adv.refl w) k (.int _)⟩
theorem maxI_spec : ∀ (xs : List Int) (m : Int), (maxI m xs = m ∨ maxI m xs ∈ xs) ∧ m ≤ maxI m xs ∧ ∀ x ∈ xs, x ≤ maxI m xs
  | [], m => ⟨.inl rfl, Int.le_refl _, fun x h => by cases h⟩
  | y :: xs, m => by
    obtain ⟨h1, h2, h3⟩ := maxI_spec xs (if m < y then y else m)
    have e : maxI m (y :: xs) = maxI (if m < y then y else m) xs := rfl
    rw [e]
    refine ⟨?_, ?_, fun x hx => ?_⟩
    · rcases h1 with h1 | h1
      · rw [h1]
        split
        · exact .inr List.mem_cons_self
        · exact .inl rfl
      · exact .inr (List.mem_cons_of_mem _ h1)
    · exact Int.le_trans (by split <;> omega) h2
    · rcases List.mem_cons.mp hx with rfl | hx
      · exact Int.le_trans (by split <;> omega) h2
      · exact h3 x hx
theorem minI_spec : ∀ (xs : List Int) (m : Int), (minI m xs = m ∨ minI m xs ∈ xs) ∧ minI m xs ≤ m ∧ ∀ x ∈ xs, minI m xs ≤ x
  | [], m => ⟨.inl rfl, Int.le_refl _, fun x h => by cases h⟩
  | y :: xs, m => by
    obtain ⟨h1, h2, h3⟩ := minI_spec xs (if y < m then y else m)
    have e : minI m (y :: xs) = minI (if y < m then y else m) xs := rfl
    rw [e]
    refine ⟨?_, ?_, fun x hx => ?_⟩
    · rcases h1 with h1 | h1
      · rw [h1]
        split
        · exact .inr List.mem_cons_self
        · exact .inl rfl
      · exact .inr (List.mem_cons_of_mem _ h1)
    · exact Int.le_trans h2 (by split <;> omega)
    · rcases List.mem_cons.mp hx with rfl | hx
      · exact Int.le_trans h2 (by split <;> omega)
      · exact h3 x hx
theorem cs_max : CalS G (rMax G.K) (biD .max) := by
  intro w S x dx d Q k rx e q
  cases dx <;> try (simp [biD] at e; done)
  rename_i xs
  obtain ⟨ns, e1, e2⟩ := Option.bind_eq_some_iff.mp (show ((intsD xs).bind fun ns => match ns with
    | [] => none
    | n :: r => some (PyData.int (maxI n r))) = some d from e)
  cases ns with
  | nil => cases e2
  | cons n r =>
    cases e2
    obtain ⟨a, vs, rfl, z1, r1, h1⟩ := rx.list
    rw [intsD_eq e1] at r1
    obtain ⟨m1, m2, m3⟩ := maxI_spec r n
    refine ⟨a, n :: r, rfl, .inl (.inl (by rw [← r1.ints]; exact h1 w (Adv.refl w))), Nat.succ_pos _, fun m hm hle => ?_⟩
    have e3 : m = maxI n r := by
      have h2 := hle (maxI n r) (m1.elim (fun z => by rw [z]; exact List.mem_cons_self) fun z => List.mem_cons_of_mem _ z)
      rcases List.mem_cons.mp hm with rfl | hm
      · omega
      · have := m3 m hm
        omega
    rw [e3]
    exact q w _ (Adv.refl w) k (.int _)
theorem cs_min : CalS G (rMin G.K) (biD .min) := by
  intro w S x dx d Q k rx e q
  cases dx <;> try (simp [biD] at e; done)
  rename_i xs
  obtain ⟨ns, e1, e2⟩ := Option.bind_eq_some_iff.mp (show ((intsD xs).bind fun ns => match ns with
    | [] => none
    | n :: r => some (PyData.int (minI n r))) = some d from e)
  cases ns with
  | nil => cases e2
  | cons n r =>
    cases e2
    obtain ⟨a, vs, rfl, z1, r1, h1⟩ := rx.list
    rw [intsD_eq e1] at r1
    obtain ⟨m1, m2, m3⟩ := minI_spec r n
    refine ⟨a, n :: r, rfl, .inl (.inl (by rw [← r1.ints]; exact h1 w (Adv.refl w))), Nat.succ_pos _, fun m hm hle => ?_⟩
    have e3 : m = minI n r := by
      have h2 := hle (minI n r) (m1.elim (fun z => by rw [z]; exact List.mem_cons_self) fun z => List.mem_cons_of_mem _ z)
      rcases List.mem_cons.mp hm with rfl | hm
      · omega
      · have := m3 m hm
        omega
    rw [e3]
    exact q w _ (Adv.refl w) k (.int _)
theorem cs_all : CalS G (rAll G.K) (biD .all) := by
  intro w S x dx d Q k rx e q
  cases dx <;> try (simp [biD] at e; done)
  rename_i xs
  obtain ⟨ns, e1, rfl⟩ := Option.map_eq_some_iff.mp (show (boolsD xs).map _ = some d from e)
  obtain ⟨a, vs, rfl, z1, r1, h1⟩ := rx.list
  rw [boolsD_eq e1] at r1
  exact ⟨a, ns, rfl, .inl (.inl (by rw [← r1.bools]; exact h1 w (Adv.refl w))), q w _ (Adv.refl w) k (.bl _)⟩
theorem cs_any : CalS G (rAny G.K) (biD .any) := by
  intro w S x dx d Q k rx e q
  cases dx <;> try (simp [biD] at e; done)
  rename_i xs
  obtain ⟨ns, e1, rfl⟩ := Option.map_eq_some_iff.mp (show (boolsD xs).map _ = some d from e)
  obtain ⟨a, vs, rfl, z1, r1, h1⟩ := rx.list
  rw [boolsD_eq e1] at r1
  exact ⟨a, ns, rfl, .inl (.inl (by rw [← r1.bools]; exact h1 w (Adv.refl w))), q w _ (Adv.refl w) k (.bl _)⟩
theorem cs_abs : CalS G (fun xs H Q => ∃ i, xs = [.int i] ∧ Q (.int (if i < 0 then -i else i)) H) (biD .abs) := by
  intro w S x dx d Q k rx e q
  cases dx <;> try (simp [biD] at e; done)
  cases e
  exact ⟨_, by rw [rx.int], q w _ (Adv.refl w) k (.int _)⟩
theorem cs_str : CalS G (fun xs H Q => ∃ i, xs = [.int i] ∧ i.natAbs.log2 < 1920 ∧ Q (.str (toString i)) H) (biD .str) := by
  intro w S x dx d Q k rx e q
  cases dx <;> try (simp [biD] at e; done)
  rename_i i
  have e2 : (if i.natAbs < 2 ^ 64 then some (PyData.str (strI i)) else none) = some d := e
  split at e2
  · rename_i hz
    cases e2
    refine ⟨_, by rw [rx.int], ?_, q w _ (Adv.refl w) k (.str _)⟩
    by_cases h0 : i.natAbs = 0
    · rw [h0]
      decide
    · have := (Nat.log2_lt h0).mpr hz
      omega
  · cases e2
theorem cs_int : CalS G (fun xs H Q => ∃ a n, xs = [.str a] ∧ PySem.intText? a = some n ∧ a.length ≤ 640 ∧ Q (.int n) H) (biD .int) := by
  intro w S x dx d Q k rx e q
  cases dx <;> try (simp [biD] at e; done)
  rename_i i
  have e2 : (if i.length ≤ 640 then (PySem.intText? i).map PyData.int else none) = some d := e
  split at e2
  · rename_i hz
    obtain ⟨n, e3, rfl⟩ := Option.map_eq_some_iff.mp e2
    exact ⟨_, n, by rw [rx.str], e3, hz, q w _ (Adv.refl w) k (.int _)⟩
  · cases e2
end
end PyD

namespace PyD
open PySem PySem.Spec PyProof.Rows L2

structure Tb where
  ds : List (Nat × DefI)
  ks : List (Str × PyData)
  bl : List Str
  es : List (Nat × Str)
  pk : Bool
  xi : Bool
  mt : List (Nat × DefI)
  tl : Option (Nat × Nat × Nat)
/-- Till(things): by the text of its __init__ -/
def dTill (fI : Nat) : DefI := ⟨"Till", ["things"], ["things"], .cons (.ret (.cals fI (.cons (.var 0) .nil))) .nil, false⟩
def dInit (chk : Nat) : DefI := ⟨"__init__", ["things"], ["things"], .cons (.exp (.call chk (.cons (.var 0) .nil))) (.cons (.ret (.tok0 (.var 0))) .nil), false⟩
def tlDs : Option (Nat × Nat × Nat) → List (Nat × DefI)
  | none => []
  | some (fT, fI, chk) => [(fT, dTill fI), (fI, dInit chk)]
def Tb.kf (T : Tb) (x : Str) : Option PyData := T.ks.lookup x
def Tb.all (T : Tb) : List (Nat × DefI) := T.ds ++ (T.mt ++ tlDs T.tl)
def Tb.call (T : Tb) (n : Nat) : Nat → List PyData → M PyData := callD T.all T.kf n
theorem lookup_app {α : Type} : ∀ {l m : List (Nat × α)} {f : Nat}, (l ++ m).lookup f = match l.lookup f with
    | some d => some d
    | none => m.lookup f
  | [], _, _ => rfl
  | (g, d) :: r, m, f => by
    rw [List.cons_append, List.lookup_cons, List.lookup_cons]
    cases f == g with
    | true => rfl
    | false => exact lookup_app
theorem all_ds {T : Tb} {f : Nat} {d : DefI} (h : T.ds.lookup f = some d) : T.all.lookup f = some d := by
  unfold Tb.all
  rw [lookup_app, h]
theorem all_mt {T : Tb} {f : Nat} {d : DefI} (h0 : T.ds.lookup f = none) (h : T.mt.lookup f = some d) : T.all.lookup f = some d := by
  unfold Tb.all
  rw [lookup_app, h0]
  show (T.mt ++ tlDs T.tl).lookup f = some d
  rw [lookup_app, h]
def tlB (T : Tb) : Bool := match T.tl with
  | none => false
  | some (fT, fI, chk) => (T.ds.lookup fT).isNone && ((T.mt.lookup fT).isNone && ((T.ds.lookup fI).isNone && ((T.mt.lookup fI).isNone && (!(fT == fI) && (match T.ds.lookup chk with
    | some d => decide (d.ps.length = 1 ∧ d.fr = false ∧ d.name = ("check_things" : Str))
    | none => false)))))
theorem call_eq {T : Tb} {f : Nat} {d : DefI} (h : T.all.lookup f = some d) (n : Nat) : T.call (n + 1) f = d.run (T.call n) T.kf := by
  funext ds S
  show (match T.all.lookup f with
    | some d => d.run (callD T.all T.kf n) T.kf ds
    | none => M.bad) S = _
  rw [h]
  rfl
/-- what a def promises: as its datum does -/
def spD (G : Gx) (c : List PyData → M PyData) (fr : Bool) : Sp := fun vs H Q E => ∃ w S ds, w.H = H ∧ Ok G w S ∧ RepLW G w vs ds ∧ RQ G E w (c ds S) fun w' _ d =>
  if fr = true then ∃ es, d = .list es ∧ ∀ p us, OwnR G w w' p us es → Q (.ref p) w'.H else ∀ v, RepW G w' v d → Q v w'.H
def spStart (G : Gx) : Sp := fun vs H Q _ => ∃ (a : Addr) (ns : List Int), vs = [.ref a] ∧ SqL G.K H a (ns.map V.int) ∧ ns.length ≤ sizeLine ∧
  ∀ (p q : Addr) (H' : Hp), H p = none → H q = none → p ≠ q → (∀ b o, H b = some o → H' b = some o) → H' p = some (.lst [.ref q, .int 0]) → H' q = some (.lst ((if ns.isEmpty then [0] else ns).map V.int)) → Q (.ref p) H'
def drawH (H : Hp) (a b : Addr) (ns : List Int) (c l : Int) : Hp := upd (upd H a (.lst [.ref b, .int (c + 1)])) b (.lst ((drawF ns c l).2.map V.int))
def spDraw : Sp := fun vs H Q _ => ∃ (a b : Addr) (ns : List Int) (c l : Int), vs = [.ref a, .int l] ∧ a ≠ b ∧ H a = some (.lst [.ref b, .int c]) ∧ H b = some (.lst (ns.map V.int)) ∧ ns ≠ [] ∧ ns.length ≤ sizeLine ∧ 0 < l ∧ l < 1000000 ∧
  Q (.int (drawF ns c l).1) (drawH H a b ns c l)
def spPick : Sp := fun vs H Q _ => ∃ (a b p : Addr) (ns : List Int) (c : Int) (xs : List V), vs = [.ref a, .ref p] ∧ a ≠ b ∧ p ≠ a ∧ p ≠ b ∧ H a = some (.lst [.ref b, .int c]) ∧ H b = some (.lst (ns.map V.int)) ∧ ns ≠ [] ∧ ns.length ≤ sizeLine ∧ H p = some (.lst xs) ∧
  0 < xs.length ∧ xs.length < 1000000 ∧ ∀ v, xs[(drawF ns c xs.length).1.toNat]? = some v → Q v (drawH H a b ns c xs.length)
/-- a def of the text that keeps a promise -/
structure FnT (P : Program) (w : World) (G : Gx) (mg : Str → Option Value) (base : Heap) (n : Nat) (x : Str) (ps : List Str) (sp : Sp) : Prop where
  ex : ∃ a fd, FnOk P w G.K mg base (L2.CX P w) n a fd ps sp ∧ mg x = some (.ref a) ∧ PySem.W.keepIn G.K (.ref a) = true ∧ Binds G.K fd ps []
/-- an error's class -/
structure ExT (G : Gx) (mg : Str → Option Value) (k : Nat) (x : Str) : Prop where
  at_ : mg x = some (.ref (G.C k))
  exc : PySem.W.excIn G.K (G.C k) [.type "ValueError", .type "Exception", .type "BaseException", .type "object"] "ValueError.__new__" = true
  keep : PySem.W.keepIn G.K (.ref (G.C k)) = true
  sub : PySem.W.subIn G.K (.ref (G.C k)) (.type "BaseException") = some true
  typ : PySem.W.typeIn G.K (.ref (G.C k)) = some (.type "type")
/-- what of the text's class is asked -/
structure TillC (G : Gx) : Prop where
  cl : Cls G.K G.T
  nT : NoAttr G.K G.T "things"
  nL : NoAttr G.K G.T "line"
structure MtT (P : Program) (w : World) (G : Gx) (mg : Str → Option Value) (base : Heap) (n : Nat) (x : Str) (ps : List Str) (sp : Sp) : Prop where
  ex : ∃ a fd, FnOk P w G.K mg base (L2.CX P w) n a fd ps sp ∧ Meth G.K G.T x a ∧ Binds G.K fd ps []
/-- a new till's __init__ -/
def spI (G : Gx) (c : List PyData → M PyData) : Sp := fun vs H Q E => ∃ w S d v x dx, vs = [.ref x, v] ∧ H = upd (upd w.H dx (.own x)) x (.ins G.T dx []) ∧ w.H x = none ∧ w.H dx = none ∧ dx ≠ x ∧ Ok G w S ∧ RepW G w v d ∧
  RQ G E w (c [d] S) fun w' _ t => ∀ u, RepW G w' u t → u = .ref x → Q .non w'.H
/-- a till's __len__ -/
def spLn (G : Gx) : Sp := fun vs H Q _ => ∃ (x dx l : Addr) (ys : List V) (n : Int), vs = [.ref x] ∧ H x = some (.ins G.T dx [("things", .int n), ("line", .ref l)]) ∧ H l = some (.lst ys) ∧ Q (.int ys.length) H
structure TlT (P : Program) (w : World) (G : Gx) (mg : Str → Option Value) (base : Heap) (T : Tb) (n : Nat) (fT : Nat) : Prop where
  c : TillC G
  at_ : mg "Till" = some (.ref G.T)
  len : ∃ f fd, Meth G.K G.T "__len__" f ∧ FnOk P w G.K mg base (L2.CX P w) 1 f fd ["self"] (spLn G) ∧ Binds G.K fd ["self"] []
  make : ∃ f fd, Mk G.K G.T f ∧ FnOk P w G.K mg base (L2.CX P w) (n + 1) f fd ["self", "things"] (spI G (T.call n fT)) ∧ Binds G.K fd ["self", "things"] []
structure TbOk (P : Program) (w : World) (G : Gx) (mg : Str → Option Value) (base : Heap) (T : Tb) (n : Nat) : Prop where
  fn : ∀ (f : Nat) (d : DefI), T.ds.lookup f = some d → FnT P w G mg base (n + 2) d.name d.ps (spD G (T.call n f) d.fr)
  ks : ∀ (x : Str) (d : PyData), T.ks.lookup x = some d → ∃ v u, mg x = some u ∧ L2.RelV v u ∧ ∀ st H, Rep G st H v d
  bl : ∀ x, x ∈ T.bl → mg x = none
  es : ∀ (k : Nat) (x : Str), T.es.lookup k = some x → ExT G mg k x
  sub : ∀ (k j : Nat) (x y : Str), T.es.lookup k = some x → T.es.lookup j = some y → PySem.W.exmOne G.K (.ref (G.C k)) (.ref (G.C j)) = some (subE k j)
  isx : T.xi = true → ∀ (k : Nat) (x : Str), T.es.lookup k = some x → ExcC G.K (G.C k) ∧ PySem.W.kitOne G.K (.ref (G.C k)) (.type "ValueError") = some true ∧ ∀ (j : Nat) (y : Str), T.es.lookup j = some y → PySem.W.kitOne G.K (.ref (G.C k)) (.ref (G.C j)) = some (subE k j)
  start : FnT P w G mg base (n + 2) "_law_start" ["_law_script"] (spStart G)
  draw : FnT P w G mg base (n + 2) "_law_draw" ["_law_draws", "_law_limit"] spDraw
  pick : T.pk = true → FnT P w G mg base (n + 2) "_law_pick" ["_law_draws", "_law_choices"] spPick
  mt : ∀ (f : Nat) (d : DefI), T.ds.lookup f = none → T.mt.lookup f = some d → MtT P w G mg base (n + 2) d.name d.ps (spD G (T.call n f) d.fr)
  tl : ∀ fT fI chk : Nat, T.tl = some (fT, fI, chk) → tlB T = true → TlT P w G mg base T n fT
/-- a context of the text -/
structure XOk (G : Gx) (T : Tb) (X : Cx) (W : WX) (n : Nat) : Prop where
  calm : X.calm = true
  nd : X.N.Nodup
  room : Room (n + 2) X.A
  pass : ∀ σ, PassesAt (L2.CX X.prog X.w) X σ (WE W σ)
  K : X.K = G.K
  tb : TbOk X.prog X.w G X.mg X.base T n
section
variable {G : Gx} {T : Tb} {X : Cx} {W : WX} {n : Nat}
theorem XOk.u65 (c : XOk G T X W n) : X.A.units + 65 < cLine := by
  have := c.room.un
  omega
theorem XOk.u64 (c : XOk G T X W n) : X.A.units + 64 < cLine := by
  have := c.room.un
  omega

def nsB : Expr → Bool
  | .Starred _ _ => false
  | _ => true
theorem nsB_ok {e : Expr} (h : nsB e = true) (es : List Expr) (env : Env) : starEach (e :: es) env = (false, eval e env) :: starEach es env := by
  cases e <;> first | rfl | cases h
theorem nsB_any {pos : Pos} {env : Env} : ∀ {es : List Expr}, es.all nsB = true → (backTo pos (starEach es env)).any (·.1) = false
  | [], _ => rfl
  | e :: es, h => by
    rw [List.all_cons, Bool.and_eq_true] at h
    rw [nsB_ok h.1]
    show (false || (backTo pos (starEach es env)).any (·.1)) = false
    rw [nsB_any h.2]
    rfl
theorem nsB_all {pos : Pos} {env : Env} : ∀ {es : List Expr}, es.all nsB = true → (backTo pos (starEach es env)).all (fun x => !x.1) = true
  | [], _ => rfl
  | e :: es, h => by
    rw [List.all_cons, Bool.and_eq_true] at h
    rw [nsB_ok h.1]
    show (!false && (backTo pos (starEach es env)).all (fun x => !x.1)) = true
    rw [nsB_all h.2]
    rfl
/-- not a slice -/
def nslB : Expr → Bool
  | .Slice _ _ _ _ => false
  | _ => true
theorem nslB_ok {e : Expr} (h : nslB e = true) : PlainIx e := fun o i => by
  cases e <;> first | rfl | cases h
/-- a test that is a value -/
def ptB : Expr → Bool
  | .UnaryOp _ _ _ => false
  | .BoolOp _ _ _ => false
  | .IfExp _ _ _ _ => false
  | .Compare _ _ _ _ => false
  | _ => true
theorem ptB_ok {e : Expr} (h : ptB e = true) (env : Env) : ∀ whole, isTrue e env whole = (do let v ← whole; standAt e.pos; holding [v] (truthy v)) := fun whole => by
  cases e <;> first | rfl | cases h
/-- not a call of nothing: no super() -/
def atB : Expr → Bool
  | .Call (.Name _ _) [] [] _ => false
  | _ => true
theorem atB_ok {o : Expr} (h : atB o = true) (m : Str) (env : Env) : attributeBase o m env (eval o env) = eval o env := by
  unfold attributeBase
  split
  · cases h
  · rfl

theorem de_var {i : Nat} {x : Str} {pos : Pos} {C : Nat → List PyData → M PyData} {K : Str → Option PyData} (hN : X.N[i]? = some x) (hv : Vis X.env.scope x) (hd : (x == ("__debug__" : Str)) = false) (hcd : (x == ("__classdict__" : Str)) = false) : PE X (.Name x pos) (tD G W (ev C K (.var i))) :=
  (pe_var hN hv hd hcd).imp fun σ H Q ⟨w, S, δ, e, k, er, q⟩ => by
    subst e
    have e2 : ev C K (.var i) δ S = (match δ[i]? with
      | some (Slot.val d) => M.ret d
      | _ => M.bad) S := rfl
    rw [e2] at q
    cases hs : δ[i]? with
    | none => rw [hs] at q; exact q.elim
    | some s =>
      rw [hs] at q
      cases s with
      | non => exact q.elim
      | own ds => exact q.elim
      | val d =>
        obtain ⟨v, h1, h2⟩ := er.val i d hs
        exact ⟨v, h1, q w (Adv.refl w) k v h2⟩
theorem de_ovr {i : Nat} {x : Str} {pos : Pos} {C : Nat → List PyData → M PyData} {K : Str → Option PyData} (hN : X.N[i]? = some x) (hv : Vis X.env.scope x) (hd : (x == ("__debug__" : Str)) = false) (hcd : (x == ("__classdict__" : Str)) = false) : PE X (.Name x pos) (tS G W (ev C K (.ovr i))) :=
  (pe_var hN hv hd hcd).imp fun σ H Q ⟨w, S, δ, e, k, er, q⟩ => by
    subst e
    have e2 : ev C K (.ovr i) δ S = (match δ[i]? with
      | some (Slot.own ds) => M.ret (PyData.list ds)
      | _ => M.bad) S := rfl
    rw [e2] at q
    cases hs : δ[i]? with
    | none => rw [hs] at q; exact q.elim
    | some s =>
      rw [hs] at q
      cases s with
      | non => exact q.elim
      | val d => exact q.elim
      | own ds =>
        obtain ⟨p, vs, h1, h2, h3, h4, h5, h6⟩ := er.own i ds hs
        exact ⟨.ref p, h1, q w (Adv.refl w) k (.ref p) (.inr ⟨p, vs, ds, rfl, rfl, h2, h3, h4, h5, h6⟩)⟩
theorem de_c {e : Expr} {v : V} {d : PyData} (h : PE X e (tC v)) (r : ∀ st H, Rep G st H v d) : PE X e (tD G W fun _ => M.ret d) :=
  h.imp fun σ H Q ⟨w, S, δ, e, k, er, q⟩ => by
    subst e
    exact q w (Adv.refl w) k v (r _ _)
theorem de_glo {x : Str} {pos : Pos} (c : XOk G T X W n) (hg : L2.Gl X x) (hd : (x == ("__debug__" : Str)) = false) {d : PyData} (hk : T.kf x = some d) : PE X (.Name x pos) (tD G W fun _ => M.opt (T.kf x)) := by
  obtain ⟨v, u, h1, h2, h3⟩ := c.tb.ks x d hk
  rw [hk]
  exact de_c (pe_glob hg h1 h2 hd) h3

theorem da_nil : PA X [] (tL G W fun _ => M.ret []) := pa_nil.imp fun σ H Q ⟨w, S, δ, e, k, er, q⟩ => by
  subst e
  exact q w (Adv.refl w) k [] .nil
theorem da_cons {e : Expr} {es : List Expr} {f : En → M PyData} {g : En → M (List PyData)} (h : PE X e (tD G W f)) (hr : PA X es (tL G W g)) (hs : nsB e = true) :
    PA X (e :: es) (tL G W fun δ => M.bnd (f δ) fun d => M.bnd (g δ) fun ds => M.ret (d :: ds)) :=
  (pa_cons h hr (nsB_ok hs es X.env)).imp fun σ H Q ⟨w, S, δ, e, k, er, q⟩ => by
    refine ⟨w, S, δ, e, k, er, (RQ.bnd q).imp fun w1 S1 d a1 k1 _ q1 v r => ?_⟩
    refine ⟨w1, S1, δ, rfl, k1, er.adv a1, (RQ.bnd q1).imp fun w2 S2 ds a2 k2 _ q2 vs rs => ?_⟩
    exact q2 w2 (Adv.refl w2) k2 (v :: vs) (.cons (a2.rep r) rs)
theorem do_lst {es : List Expr} {pos : Pos} {g : En → M (List PyData)} (h : PA X es (tL G W g)) (hz : es.length ≤ lineD) (hl : ∀ δ S ds S', g δ S = .ok ds S' → ds.length = es.length) : PE X (.List es pos) (tO G W fun δ => M.bnd (g δ) fun ds => M.ret (.list ds)) :=
  (pe_lst h).imp fun σ H Q ⟨w, S, δ, e, k, er, q⟩ => by
    refine ⟨w, S, δ, e, k, er, (RQ.bnd q).imp fun w1 S1 ds a1 k1 e1 q1 vs r => ?_⟩
    obtain ⟨es', e2, _⟩ := q1 w1 (Adv.refl w1) k1
    cases e2
    have hz2 : vs.length ≤ sizeLine := by rw [r.length, hl _ _ _ _ e1]; exact lineD_le hz
    refine ⟨hz2, fun p hp => ?_⟩
    obtain ⟨a2, k2, o2⟩ := new_own k1 hp hz2 r
    obtain ⟨es', e2, q2⟩ := q1 _ a2 k2
    cases e2
    exact q2 p vs (o2.from a1)
theorem de_tup {es : List Expr} {x1 : Nat} {pos : Pos} {g : En → M (List PyData)} (h : PA X es (tL G W g)) (hz : es.length ≤ lineD) (hl : ∀ δ S ds S', g δ S = .ok ds S' → ds.length = es.length) : PE X (.Tuple es x1 pos) (tD G W fun δ => M.bnd (g δ) fun ds => M.ret (.tuple ds)) :=
  (pe_tup h).imp fun σ H Q ⟨w, S, δ, e, k, er, q⟩ => by
    refine ⟨w, S, δ, e, k, er, (RQ.bnd q).imp fun w1 S1 ds a1 k1 e1 q1 vs r => ?_⟩
    have hz2 : vs.length ≤ sizeLine := by rw [r.length, hl _ _ _ _ e1]; exact lineD_le hz
    refine ⟨hz2, fun p hp => ?_⟩
    obtain ⟨a2, k2, r2⟩ := new_tup k1 hp hz2 r
    exact q1 _ a2 k2 _ r2

theorem de_neg {a : Expr} {pos : Pos} {f : En → M PyData} (h : PE X a (tD G W f)) : PE X (.UnaryOp .USub a pos) (tD G W fun δ => M.bnd (f δ) fun x => match x with
    | .int i => M.ret (.int (-i))
    | _ => M.bad) :=
  (pe_un un_neg h).imp fun σ H Q ⟨w, S, δ, e, k, er, q⟩ => by
    refine ⟨w, S, δ, e, k, er, (RQ.bnd q).imp fun w1 S1 d a1 k1 e1 q1 v r => ?_⟩
    cases d <;> try (exact q1.elim)
    cases r
    exact ⟨_, rfl, q1 w1 (Adv.refl w1) k1 _ (.int _)⟩
abbrev notF (f : En → M PyData) : En → M PyData := fun δ => M.bnd (f δ) fun x => match x with
  | .bool b => M.ret (.bool (!b))
  | _ => M.bad
theorem de_not {a : Expr} {pos : Pos} {f : En → M PyData} (h : PE X a (tD G W f)) : PE X (.UnaryOp .Not a pos) (tD G W (notF f)) :=
  (pe_not h).imp fun σ H Q ⟨w, S, δ, e, k, er, q⟩ => by
    refine ⟨w, S, δ, e, k, er, (RQ.bnd q).imp fun w1 S1 d a1 k1 e1 q1 v r => ?_⟩
    cases d <;> try (exact q1.elim)
    cases r
    exact ⟨_, rfl, q1 w1 (Adv.refl w1) k1 _ (.bl _)⟩
theorem dt_not {a : Expr} {pos : Pos} {f : En → M PyData} (h : PT X a (tT G W f)) : PT X (.UnaryOp .Not a pos) (tT G W (notF f)) :=
  (pt_not h).imp fun σ H Q ⟨w, S, δ, e, k, er, q⟩ => by
    refine ⟨w, S, δ, e, k, er, (RQ.bnd q).imp fun w1 S1 d a1 k1 e1 q1 => ?_⟩
    cases d <;> try (exact q1.elim)
    obtain ⟨b, e2, q2⟩ := q1 w1 (Adv.refl w1) k1
    cases e2
    exact ⟨_, rfl, q2⟩
abbrev iteF (fc fa fb : En → M PyData) : En → M PyData := fun δ => M.bnd (fc δ) fun x => match x with
  | .bool true => fa δ
  | .bool false => fb δ
  | _ => M.bad
theorem de_ite {c a b : Expr} {pos : Pos} {fc fa fb : En → M PyData} (hc : PT X c (tT G W fc)) (ha : PE X a (tD G W fa)) (hb : PE X b (tD G W fb)) : PE X (.IfExp c a b pos) (tD G W (iteF fc fa fb)) :=
  (pe_ifExp hc ha hb).imp fun σ H Q ⟨w, S, δ, e, k, er, q⟩ => by
    refine ⟨w, S, δ, e, k, er, (RQ.bnd q).imp fun w1 S1 d a1 k1 e1 q1 => ?_⟩
    cases d <;> try (exact q1.elim)
    rename_i t
    refine ⟨t, rfl, ?_⟩
    cases t with
    | true => exact iteT ⟨w1, S1, δ, rfl, k1, er.adv a1, q1⟩
    | false => exact L2.iteF ⟨w1, S1, δ, rfl, k1, er.adv a1, q1⟩
abbrev bopF (k : Bool) (f g : En → M PyData) : En → M PyData := fun δ => M.bnd (f δ) fun d => match d with
  | .bool c => if c == k then g δ else M.ret (.bool c)
  | _ => M.bad
theorem de_one {op : BoolOp} {a : Expr} {pos : Pos} {f : En → M PyData} (h : PE X a (tD G W f)) : PE X (.BoolOp op [a] pos) (tD G W f) := pe_one h
theorem de_and {a b : Expr} {r : List Expr} {pos : Pos} {f g : En → M PyData} (ha : PE X a (tD G W f)) (hb : PE X (.BoolOp .And (b :: r) pos) (tD G W g)) : PE X (.BoolOp .And (a :: b :: r) pos) (tD G W (bopF true f g)) :=
  (pe_and ha hb).imp fun σ H Q ⟨w, S, δ, e, k, er, q⟩ => by
    refine ⟨w, S, δ, e, k, er, (RQ.bnd q).imp fun w1 S1 d a1 k1 e1 q1 v rv => ?_⟩
    cases d <;> try (exact q1.elim)
    rename_i t
    cases rv
    refine ⟨t, rfl, ?_⟩
    cases t with
    | true => exact iteT ⟨w1, S1, δ, rfl, k1, er.adv a1, q1⟩
    | false => exact L2.iteF (q1 w1 (Adv.refl w1) k1 _ (.bl _))
theorem de_or {a b : Expr} {r : List Expr} {pos : Pos} {f g : En → M PyData} (ha : PE X a (tD G W f)) (hb : PE X (.BoolOp .Or (b :: r) pos) (tD G W g)) : PE X (.BoolOp .Or (a :: b :: r) pos) (tD G W (bopF false f g)) :=
  (pe_or ha hb).imp fun σ H Q ⟨w, S, δ, e, k, er, q⟩ => by
    refine ⟨w, S, δ, e, k, er, (RQ.bnd q).imp fun w1 S1 d a1 k1 e1 q1 v rv => ?_⟩
    cases d <;> try (exact q1.elim)
    rename_i t
    cases rv
    refine ⟨t, rfl, ?_⟩
    cases t with
    | true => exact iteT (q1 w1 (Adv.refl w1) k1 _ (.bl _))
    | false => exact L2.iteF ⟨w1, S1, δ, rfl, k1, er.adv a1, q1⟩
theorem dw_and1 {a : Expr} {pos : Pos} {f : En → M PyData} (h : PT X a (tT G W f)) : PW X (.BoolOp .And [a] pos) (tT G W f) := pw_and1 h
theorem dw_or1 {a : Expr} {pos : Pos} {f : En → M PyData} (h : PT X a (tT G W f)) : PW X (.BoolOp .Or [a] pos) (tT G W f) := pw_or1 h
theorem dw_and {a b : Expr} {r : List Expr} {pos : Pos} {f g : En → M PyData} (ha : PT X a (tT G W f)) (hb : PW X (.BoolOp .And (b :: r) pos) (tT G W g)) : PW X (.BoolOp .And (a :: b :: r) pos) (tT G W (bopF true f g)) :=
  (pw_and ha hb).imp fun σ H Q ⟨w, S, δ, e, k, er, q⟩ => by
    refine ⟨w, S, δ, e, k, er, (RQ.bnd q).imp fun w1 S1 d a1 k1 e1 q1 => ?_⟩
    cases d <;> try (exact q1.elim)
    rename_i t
    refine ⟨t, rfl, ?_⟩
    cases t with
    | true => exact iteT ⟨w1, S1, δ, rfl, k1, er.adv a1, q1⟩
    | false =>
      obtain ⟨b, e2, q2⟩ := q1 w1 (Adv.refl w1) k1
      cases e2
      exact L2.iteF q2
theorem dw_or {a b : Expr} {r : List Expr} {pos : Pos} {f g : En → M PyData} (ha : PT X a (tT G W f)) (hb : PW X (.BoolOp .Or (b :: r) pos) (tT G W g)) : PW X (.BoolOp .Or (a :: b :: r) pos) (tT G W (bopF false f g)) :=
  (pw_or ha hb).imp fun σ H Q ⟨w, S, δ, e, k, er, q⟩ => by
    refine ⟨w, S, δ, e, k, er, (RQ.bnd q).imp fun w1 S1 d a1 k1 e1 q1 => ?_⟩
    cases d <;> try (exact q1.elim)
    rename_i t
    refine ⟨t, rfl, ?_⟩
    cases t with
    | false => exact L2.iteF ⟨w1, S1, δ, rfl, k1, er.adv a1, q1⟩
    | true =>
      obtain ⟨b, e2, q2⟩ := q1 w1 (Adv.refl w1) k1
      cases e2
      exact iteT q2
abbrev chnF (o o' : PyData → PyData → Option PyData) (fa fb fc : En → M PyData) : En → M PyData := fun δ => M.bnd (fa δ) fun x => M.bnd (fb δ) fun y => M.bnd (M.opt (o x y)) fun r => match r with
  | .bool true => M.bnd (fc δ) fun z => M.opt (o' y z)
  | .bool false => M.ret (.bool false)
  | _ => M.bad
theorem go_chn {a b c : Expr} {r r' : R2} {o o' : PyData → PyData → Option PyData} {fa fb fc : En → M PyData} (hs : OpS G r o) (hs' : OpS G r' o') {σ : L2.St} {H : Hp} {Q : VK} (h : tD G W (chnF o o' fa fb fc) σ H Q) :
    tChain r r' (tS G W fa) (tS G W fb) (tS G W fc) σ H Q := by
  obtain ⟨w, S, δ, e, k, er, q⟩ := h
  refine ⟨w, S, δ, e, k, er, (RQ.bnd q).imp fun w1 S1 dx a1 k1 _ q1 x rx => ?_⟩
  refine ⟨w1, S1, δ, rfl, k1, er.adv a1, (RQ.bnd q1).imp fun w2 S2 dy a2 k2 _ q2 y ry => ?_⟩
  obtain ⟨d, e3, q3⟩ := RQ.opt' k2 (RQ.bnd q2)
  refine hs w2 S2 x y dx dy d _ k2 (a2.repS rx) ry e3 fun w3 z a3 k3 rz => ?_
  have q4 := q3 w3 a3 k3
  cases d <;> try (exact q4.elim)
  rename_i t
  cases rz
  refine ⟨t, rfl, ?_⟩
  cases t with
  | false => exact L2.iteF (q4 w3 (Adv.refl w3) k3 _ (.bl _))
  | true =>
    refine iteT ⟨w3, S2, δ, rfl, k3, ((er.adv a1).adv a2).adv a3, (RQ.bnd q4).imp fun w4 S4 dz a4 k4 _ q5 z rz => ?_⟩
    obtain ⟨d', e6, q6⟩ := RQ.opt' k4 q5
    exact hs' w4 S4 y z dy dz d' Q k4 (a4.repS (a3.repS ry)) rz e6 fun w5 v a5 k5 rv => q6 w5 a5 k5 v rv
theorem de_chn {a b c : Expr} {pos : Pos} {op op' : CmpOp} {r r' : R2} {o o' : PyData → PyData → Option PyData} {fa fb fc : En → M PyData} (ho : OpR X (compareOp op) r) (ho' : OpR X (compareOp op') r') (hs : OpS G r o) (hs' : OpS G r' o')
    (ha : PE X a (tS G W fa)) (hb : PE X b (tS G W fb)) (hc : PE X c (tS G W fc)) (hm : lastMarks [op, op'] [b, c] = false) : PE X (.Compare a [op, op'] [b, c] pos) (tD G W (chnF o o' fa fb fc)) :=
  (pe_chain ho ho' ha hb hc hm).imp fun σ H Q q => go_chn (a := a) (b := b) (c := c) hs hs' q
theorem dt_chn {a b c : Expr} {pos : Pos} {op op' : CmpOp} {r r' : R2} {o o' : PyData → PyData → Option PyData} {fa fb fc : En → M PyData} (ho : OpR X (compareOp op) r) (ho' : OpR X (compareOp op') r') (hs : OpS G r o) (hs' : OpS G r' o')
    (ha : PE X a (tS G W fa)) (hb : PE X b (tS G W fb)) (hc : PE X c (tS G W fc)) (hm : lastMarks [op, op'] [b, c] = false) : PT X (.Compare a [op, op'] [b, c] pos) (tT G W (chnF o o' fa fb fc)) :=
  (pt_chain ho ho' ha hb hc hm).imp fun σ H Q q => go_chn (a := a) (b := b) (c := c) hs hs' (te_of_d q)
end
end PyD

namespace PyD
open PySem PySem.Spec PyProof.Rows L2
section
variable {G : Gx} {T : Tb} {X : Cx} {W : WX} {n : Nat}
mutual
theorem Rep.plain_st {st st' : List SA} {H : Hp} : ∀ (d : PyData) (v : V), Rep G st H v d → d.plain = true → Rep G st' H v d
  | .none, _, r, _ => by cases r; exact .non
  | .bool b, _, r, _ => by cases r; exact .bl b
  | .int b, _, r, _ => by cases r; exact .int b
  | .str b, _, r, _ => by cases r; exact .str b
  | .list ds, _, r, h => by
    cases r with
    | lst h1 z r => exact .lst h1 z (RepL.plain_st ds _ r (by simpa [PyData.plain] using h))
  | .tuple ds, _, r, h => by
    cases r with
    | tup h1 z r => exact .tup h1 z (RepL.plain_st ds _ r (by simpa [PyData.plain] using h))
  | .dict _, _, _, h => nomatch h
theorem RepL.plain_st {st st' : List SA} {H : Hp} : ∀ (ds : List PyData) (vs : List V), RepL G st H vs ds → PyData.plainAll ds = true → RepL G st' H vs ds
  | [], _, r, _ => by cases r; exact .nil
  | d :: ds, _, r, h => by
    have h' : d.plain = true ∧ PyData.plainAll ds = true := by simpa [PyData.plainAll] using h
    cases r with
    | cons a b => exact .cons (Rep.plain_st d _ a h'.1) (RepL.plain_st ds _ b h'.2)
end
theorem Rep.noTok {st st' : List SA} {H : Hp} {d : PyData} {v : V} (r : Rep G st H v d) (h : noTok d = true) : Rep G st' H v d := by
  unfold PyD.noTok at h
  split at h
  · cases r with
    | exc h1 => exact .exc h1
  · exact r.plain_st d v h
theorem RepL.noTok {st st' : List SA} {H : Hp} : ∀ {ds : List PyData} {vs : List V}, RepL G st H vs ds → ds.all PyD.noTok = true → RepL G st' H vs ds
  | _, _, .nil, _ => .nil
  | _, _, .cons a b, h => by
    rw [List.all_cons, Bool.and_eq_true] at h
    exact .cons (a.noTok h.1) (RepL.noTok b h.2)
/-- the world without the store's objects; back again -/
def Wd.bare (w : Wd) : Wd := ⟨w.hs, [], w.H⟩
def Wd.back (w : Wd) (st : List SA) : Wd := ⟨w.hs, st, w.H⟩
theorem Ok.bare {w : Wd} {S : Store} (k : Ok G w S) : Ok G w.bare [] := ⟨k.ne, rfl, fun _ _ _ h => by simp [Wd.bare] at h, fun b h => by simp [Wd.bare, adr] at h, by simp [Wd.bare, adr]⟩
theorem back_ok {w w' : Wd} {S : Store} (k : Ok G w S) (a : Adv w.bare w') (k' : Ok G w' []) : w'.st = [] ∧ Adv w (w'.back w.st) ∧ Ok G (w'.back w.st) S := by
  have e : w'.st = [] := List.eq_nil_of_length_eq_zero k'.len
  have own : ∀ b, w.hs b → w'.H b = w.H b := fun b h => a.own b h (by simp [Wd.bare, adr])
  refine ⟨e, ⟨⟨[], (List.append_nil _).symm⟩, a.sub, a.new, a.keep, fun b h _ => own b h, fun b h n => absurd h n⟩, ⟨k'.ne, k.len, fun j as o h1 h2 => ?_, fun b h => a.sub b (k.hid b h), k.nd⟩⟩
  exact (k.obj j as o h1 h2).imp (fun b hb => own b (k.hid b (mem_adr h1 hb))) a.vis ⟨[], (List.append_nil _).symm⟩
theorem pure_go {E : XK} {w : Wd} {S : Store} {ds : List PyData} {c : List PyData → M PyData} {P R : Wd → Store → PyData → Prop} (k : Ok G w S) (q : RQ G E w (pureC ds (c ds) S) P)
    (h : ∀ w' d, c ds [] = .ok d [] → Adv w.bare w' → w'.st = [] → Adv w (w'.back w.st) → Ok G w' [] → Ok G (w'.back w.st) S → (∀ w2, Adv w w2 → Ok G w2 S → P w2 S d) → R w' [] d) : ds.all noTok = true ∧ RQ G E w.bare (c ds []) R := by
  unfold pureC at q
  split at q
  · rename_i hz
    refine ⟨hz, ?_⟩
    cases e : c ds [] with
    | bad =>
      rw [e] at q
      exact q
    | ok d s =>
      rw [e] at q
      cases s with
      | cons _ _ => exact q.elim
      | nil =>
        intro w' a k'
        obtain ⟨e1, a1, k1⟩ := back_ok k a k'
        exact h w' d e a e1 a1 k' k1 q
    | exc j s =>
      rw [e] at q
      cases s with
      | cons _ _ => exact q.elim
      | nil =>
        intro w' a k'
        obtain ⟨e1, a1, k1⟩ := back_ok k a k'
        exact q (w'.back w.st) a1 k1
  · exact q.elim
abbrev calF (c : List PyData → M PyData) (g : En → M (List PyData)) : En → M PyData := fun δ => M.bnd (g δ) fun ds => pureC ds (c ds)
abbrev casF (c : List PyData → M PyData) (g : En → M (List PyData)) : En → M PyData := fun δ => M.bnd (g δ) fun ds => c ds
theorem rep_back {w' : Wd} {st : List SA} {v : V} {d : PyData} (e : w'.st = []) (r : RepW G w' v d) : RepW G (w'.back st) v d := by
  have r2 : Rep G w'.st (vis w'.hs w'.H) v d := r
  rw [e] at r2
  exact r2.mono (fun _ _ h => h) ⟨st, rfl⟩
theorem repL_back {w' : Wd} {st : List SA} {v : List V} {d : List PyData} (e : w'.st = []) (r : RepLW G w' v d) : RepLW G (w'.back st) v d := by
  have r2 : RepL G w'.st (vis w'.hs w'.H) v d := r
  rw [e] at r2
  exact r2.mono (fun _ _ h => h) ⟨st, rfl⟩
theorem own_back {w w' : Wd} {S : Store} {p : Addr} {us : List V} {es : List PyData} (k : Ok G w S) (e : w'.st = []) (o : OwnR G w.bare w' p us es) : OwnR G w (w'.back w.st) p us es :=
  ⟨o.hs, o.nh, fun z => o.nh (k.hid p z), o.at_, o.len, repL_back e o.rep⟩
theorem go_call {c : List PyData → M PyData} {g : En → M (List PyData)} {fr : Bool} (hl : fr = true → ∀ ds S r S', c ds S = .ok r S' → ∃ es, r = .list es) {σ : L2.St} {H : Hp} {Q : VK} (h : tD G W (calF c g) σ H Q) : tCallS (spD G c fr) (WE W) (tL G W g) σ H Q := by
  obtain ⟨w, S, δ, e, k, er, q⟩ := h
  refine ⟨w, S, δ, e, k, er, (RQ.bnd q).imp fun w1 S1 ds a1 k1 _ q1 vs rs => ?_⟩
  obtain ⟨hz, q2⟩ := pure_go (R := fun w' _ d => if fr = true then ∃ es, d = .list es ∧ ∀ p us, OwnR G w1.bare w' p us es → Q (.ref p) w'.H else ∀ v, RepW G w' v d → Q v w'.H) k1 q1 fun w' d e0 a e1 a2 k2 k3 q3 => by
    cases fr with
    | false => exact L2.iteF fun v r => q3 (w'.back w1.st) a2 k3 v (rep_back e1 r)
    | true =>
      obtain ⟨es, rfl⟩ := hl rfl _ _ _ _ e0
      refine iteT ⟨es, rfl, fun p us o => ?_⟩
      obtain ⟨a4, k4, r4⟩ := (own_back k1 e1 o).show a2 k3
      exact q3 _ a4 k4 _ r4
  exact ⟨w1.bare, [], ds, rfl, k1.bare, rs.noTok hz, q2⟩
theorem go_callO {c : List PyData → M PyData} {g : En → M (List PyData)} {σ : L2.St} {H : Hp} {Q : VK} (h : tO G W (calF c g) σ H Q) : tCallS (spD G c true) (WE W) (tL G W g) σ H Q := by
  obtain ⟨w, S, δ, e, k, er, q⟩ := h
  refine ⟨w, S, δ, e, k, er, (RQ.bnd q).imp fun w1 S1 ds a1 k1 _ q1 vs rs => ?_⟩
  obtain ⟨hz, q2⟩ := pure_go (R := fun w' _ d => if true = true then ∃ es, d = .list es ∧ ∀ p us, OwnR G w1.bare w' p us es → Q (.ref p) w'.H else ∀ v, RepW G w' v d → Q v w'.H) k1 q1 fun w' d e0 a e1 a2 k2 k3 q3 => by
    obtain ⟨es, e5, q5⟩ := q3 (w'.back w1.st) a2 k3
    exact iteT ⟨es, e5, fun p us o => q5 p us ((own_back k1 e1 o).from a1)⟩
  exact ⟨w1.bare, [], ds, rfl, k1.bare, rs.noTok hz, q2⟩
theorem go_cals {c : List PyData → M PyData} {g : En → M (List PyData)} {fr : Bool} (hl : fr = true → ∀ ds S r S', c ds S = .ok r S' → ∃ es, r = .list es) {σ : L2.St} {H : Hp} {Q : VK} (h : tD G W (casF c g) σ H Q) : tCallS (spD G c fr) (WE W) (tL G W g) σ H Q := by
  obtain ⟨w, S, δ, e, k, er, q⟩ := h
  refine ⟨w, S, δ, e, k, er, (RQ.bnd q).imp fun w1 S1 ds a1 k1 _ q1 vs rs => ?_⟩
  refine ⟨w1, S1, ds, rfl, k1, rs, q1.imp fun w' S' d a k' e0 q3 => ?_⟩
  cases fr with
  | false => exact L2.iteF q3
  | true =>
    obtain ⟨es, rfl⟩ := hl rfl _ _ _ _ e0
    refine iteT ⟨es, rfl, fun p us o => ?_⟩
    obtain ⟨a4, k4, r4⟩ := o.show a k'
    rw [e0] at q1
    exact q1 _ a4 k4 _ r4
theorem go_calsO {c : List PyData → M PyData} {g : En → M (List PyData)} {σ : L2.St} {H : Hp} {Q : VK} (h : tO G W (casF c g) σ H Q) : tCallS (spD G c true) (WE W) (tL G W g) σ H Q := by
  obtain ⟨w, S, δ, e, k, er, q⟩ := h
  refine ⟨w, S, δ, e, k, er, (RQ.bnd q).imp fun w1 S1 ds a1 k1 _ q1 vs rs => ?_⟩
  refine ⟨w1, S1, ds, rfl, k1, rs, q1.imp fun w' S' d a k' e0 q3 => ?_⟩
  obtain ⟨es, e5, q5⟩ := q3
  exact iteT ⟨es, e5, fun p us o => q5 p us (o.from a1)⟩
theorem run_list {C : Nat → List PyData → M PyData} {K : Str → Option PyData} {d : DefI} (hf : d.fr = true) {ds : List PyData} {S S' : Store} {r : PyData} (h : d.run C K ds S = .ok r S') : ∃ es, r = .list es := by
  unfold DefI.run at h
  split at h
  · split at h
    · first
        | cases h
        | (rw [if_pos hf] at h; cases h)
    · first
        | cases h
        | (rw [if_pos hf] at h; cases h)
    · cases h; exact ⟨_, rfl⟩
    · cases h
    · cases h
  · cases h
theorem call_listA {f : Nat} {d : DefI} (hd : T.all.lookup f = some d) (hf : d.fr = true) : ∀ ds S r S', T.call n f ds S = .ok r S' → ∃ es, r = .list es := fun ds S r S' h => by
  cases n with
  | zero => cases h
  | succ n =>
    rw [call_eq hd] at h
    exact run_list hf h
theorem call_list {f : Nat} {d : DefI} (hd : T.ds.lookup f = some d) (hf : d.fr = true) : ∀ ds S r S', T.call n f ds S = .ok r S' → ∃ es, r = .list es := call_listA (all_ds hd) hf
/-- a call by its name, what leaves as W says -/
theorem pe_callT {x : Str} {ps : List Str} {sp : Sp} {e : Expr} {es : List Expr} {t : TA} {p pos : Pos} (c : XOk G T X W n) (F : FnT X.prog X.w G X.mg X.base (n + 2) x ps sp) (hg : L2.Gl X x) (hdb : (x == ("__debug__" : Str)) = false) (ha : PA X (e :: es) t) (hs : (e :: es).all nsB = true) :
    PE X (.Call (.Name x p) (e :: es) [] pos) (tCallS sp (WE W) t) := by
  obtain ⟨a, fd, h1, h2, h3, h4⟩ := F.ex
  rw [List.all_cons, Bool.and_eq_true] at hs
  rw [← c.K] at h1 h3 h4
  exact pe_callS h1 c.room hg h2 h3 h4 c.pass ha hdb (nsB_ok hs.1 es X.env) (nsB_any hs.2)
theorem pe_callT0 {x : Str} {ps : List Str} {sp : Sp} {p pos : Pos} (c : XOk G T X W n) (F : FnT X.prog X.w G X.mg X.base (n + 2) x ps sp) (hg : L2.Gl X x) (hdb : (x == ("__debug__" : Str)) = false) :
    PE X (.Call (.Name x p) [] [] pos) (fun σ H Q => sp [] H Q (WE W σ)) := by
  obtain ⟨a, fd, h1, h2, h3, h4⟩ := F.ex
  rw [← c.K] at h1 h3 h4
  refine ⟨fun pins s σ H Q I h => ?_⟩
  refine wpAny_Call_Name_kw (ld_glob I hg h2 ?_ hdb)
  exact PySem.W.callWith_K0 I.kIn h3 (run_fnS (us := []) h1 c.room h4 (c.pass σ) I .nil h)
theorem de_call {f : Nat} {d : DefI} {e : Expr} {es : List Expr} {g : En → M (List PyData)} {p pos : Pos} (c : XOk G T X W n) (hd : T.ds.lookup f = some d) (hg : L2.Gl X d.name) (hdb : (d.name == ("__debug__" : Str)) = false) (ha : PA X (e :: es) (tL G W g)) (hs : (e :: es).all nsB = true) :
    PE X (.Call (.Name d.name p) (e :: es) [] pos) (tD G W (calF (T.call n f) g)) := (pe_callT c (c.tb.fn f d hd) hg hdb ha hs).imp fun σ H Q q => go_call (fun hf => call_list hd hf) q
theorem do_call {f : Nat} {d : DefI} {e : Expr} {es : List Expr} {g : En → M (List PyData)} {p pos : Pos} (c : XOk G T X W n) (hd : T.ds.lookup f = some d) (hf : d.fr = true) (hg : L2.Gl X d.name) (hdb : (d.name == ("__debug__" : Str)) = false) (ha : PA X (e :: es) (tL G W g)) (hs : (e :: es).all nsB = true) :
    PE X (.Call (.Name d.name p) (e :: es) [] pos) (tO G W (calF (T.call n f) g)) := (pe_callT c (c.tb.fn f d hd) hg hdb ha hs).imp fun σ H Q q => by
  rw [hf]
  exact go_callO q
theorem de_cals {f : Nat} {d : DefI} {e : Expr} {es : List Expr} {g : En → M (List PyData)} {p pos : Pos} (c : XOk G T X W n) (hd : T.ds.lookup f = some d) (hg : L2.Gl X d.name) (hdb : (d.name == ("__debug__" : Str)) = false) (ha : PA X (e :: es) (tL G W g)) (hs : (e :: es).all nsB = true) :
    PE X (.Call (.Name d.name p) (e :: es) [] pos) (tD G W (casF (T.call n f) g)) := (pe_callT c (c.tb.fn f d hd) hg hdb ha hs).imp fun σ H Q q => go_cals (fun hf => call_list hd hf) q
theorem do_cals {f : Nat} {d : DefI} {e : Expr} {es : List Expr} {g : En → M (List PyData)} {p pos : Pos} (c : XOk G T X W n) (hd : T.ds.lookup f = some d) (hf : d.fr = true) (hg : L2.Gl X d.name) (hdb : (d.name == ("__debug__" : Str)) = false) (ha : PA X (e :: es) (tL G W g)) (hs : (e :: es).all nsB = true) :
    PE X (.Call (.Name d.name p) (e :: es) [] pos) (tO G W (casF (T.call n f) g)) := (pe_callT c (c.tb.fn f d hd) hg hdb ha hs).imp fun σ H Q q => by
  rw [hf]
  exact go_calsO q
theorem de_call0 {f : Nat} {d : DefI} {p pos : Pos} (c : XOk G T X W n) (hd : T.ds.lookup f = some d) (hg : L2.Gl X d.name) (hdb : (d.name == ("__debug__" : Str)) = false) :
    PE X (.Call (.Name d.name p) [] [] pos) (tD G W (calF (T.call n f) fun _ => M.ret [])) := (pe_callT0 c (c.tb.fn f d hd) hg hdb).imp fun σ H Q q => by
  have q2 := go_call (fun hf => call_list hd hf) (fr := d.fr) q
  obtain ⟨w, S, δ, e, k, er, q3⟩ := q2
  subst e
  exact q3 w (Adv.refl w) k [] .nil

theorem de_cals0 {f : Nat} {d : DefI} {p pos : Pos} (c : XOk G T X W n) (hd : T.ds.lookup f = some d) (hg : L2.Gl X d.name) (hdb : (d.name == ("__debug__" : Str)) = false) :
    PE X (.Call (.Name d.name p) [] [] pos) (tD G W (casF (T.call n f) fun _ => M.ret [])) := (pe_callT0 c (c.tb.fn f d hd) hg hdb).imp fun σ H Q q => by
  have q2 := go_cals (fun hf => call_list hd hf) (fr := d.fr) q
  obtain ⟨w, S, δ, e, k, er, q3⟩ := q2
  subst e
  exact q3 w (Adv.refl w) k [] .nil
theorem adr_disj {st : List SA} (nd : (adr st).Nodup) {j k : Nat} {as bs : SA} (h1 : st[j]? = some as) (h2 : st[k]? = some bs) (n : j ≠ k) : ∀ b ∈ as, b ∉ bs := by
  have h := (List.pairwise_flatten.mp nd).2
  intro b ha hb
  obtain ⟨j1, e1⟩ := List.getElem?_eq_some_iff.mp h1
  obtain ⟨k1, e2⟩ := List.getElem?_eq_some_iff.mp h2
  rcases Nat.lt_or_gt_of_ne n with z | z
  · exact (List.pairwise_iff_getElem.mp h j k j1 k1 z) b (by rw [e1]; exact ha) b (by rw [e2]; exact hb) rfl
  · exact (List.pairwise_iff_getElem.mp h k j k1 j1 z) b (by rw [e2]; exact hb) b (by rw [e1]; exact ha) rfl
/-- the draws' object changes -/
theorem draw_world {w : Wd} {S : Store} {k : Nat} {a b : Addr} {ns ns' : List Int} {c c' : Int} (o : Ok G w S) (h1 : w.st[k]? = some [a, b]) (h2 : S[k]? = some (.draws ns c)) (hl : ns'.length ≤ sizeLine) :
    Adv w ⟨w.hs, w.st, upd (upd w.H a (.lst [.ref b, .int c'])) b (.lst (ns'.map V.int))⟩ ∧ Ok G ⟨w.hs, w.st, upd (upd w.H a (.lst [.ref b, .int c'])) b (.lst (ns'.map V.int))⟩ (S.set k (.draws ns' c')) := by
  have ha : a ∈ adr w.st := mem_adr h1 List.mem_cons_self
  have hb : b ∈ adr w.st := mem_adr h1 (List.mem_cons_of_mem _ List.mem_cons_self)
  have hab : a ≠ b := by
    have z := (List.pairwise_flatten.mp o.nd).1 [a, b] (List.mem_of_getElem? h1)
    exact (List.pairwise_cons.mp z).1 b List.mem_cons_self
  have out : ∀ x, x ∉ adr w.st → upd (upd w.H a (.lst [.ref b, .int c'])) b (.lst (ns'.map V.int)) x = w.H x := fun x hx => by
    rw [upd_ne (b := x) (a := b) fun e => hx (by rw [e]; exact hb), upd_ne (b := x) (a := a) fun e => hx (by rw [e]; exact ha)]
  have adv : Adv w ⟨w.hs, w.st, upd (upd w.H a (.lst [.ref b, .int c'])) b (.lst (ns'.map V.int))⟩ :=
    ⟨⟨[], (List.append_nil _).symm⟩, fun _ h => h, fun x h n => absurd h n, fun x u n h => (out x fun z => n (o.hid x z)).trans h, fun x _ n => out x n, fun x h n => absurd h n⟩
  refine ⟨adv, ⟨fun x h => ?_, by rw [List.length_set]; exact o.len, fun j as ob e1 e2 => ?_, o.hid, o.nd⟩⟩
  · show upd (upd w.H a (.lst [.ref b, .int c'])) b (.lst (ns'.map V.int)) x ≠ none
    by_cases e : x = b
    · rw [e, upd_same]
      exact fun z => by cases z
    · rw [upd_ne e]
      by_cases e' : x = a
      · rw [e', upd_same]
        exact fun z => by cases z
      · rw [upd_ne e']
        exact o.ne x h
  · have e1' : w.st[j]? = some as := e1
    by_cases e : j = k
    · subst e
      rw [h1] at e1'
      cases e1'
      rw [List.getElem?_set_self (by rw [← o.len]; exact (List.getElem?_eq_some_iff.mp h1).1)] at e2
      cases e2
      exact ⟨a, b, rfl, (upd_ne hab).trans upd_same, upd_same, hl⟩
    · rw [List.getElem?_set_ne (fun z => e z.symm)] at e2
      have dis := adr_disj o.nd e1' h1 e
      refine (o.obj j as ob e1' e2).imp (fun x hx => ?_) adv.vis ⟨[], (List.append_nil _).symm⟩
      have z := dis x hx
      show upd (upd w.H a (.lst [.ref b, .int c'])) b (.lst (ns'.map V.int)) x = w.H x
      rw [upd_ne fun q => z (by rw [q]; exact List.mem_cons_of_mem _ List.mem_cons_self), upd_ne fun q => z (by rw [q]; exact List.mem_cons_self)]
theorem drawF_len (ns : List Int) (c l : Int) : (drawF ns c l).2.length = ns.length := by
  unfold drawF
  dsimp only
  split
  · exact List.length_set
  · rfl
/-- a token's object -/
theorem tok_at {w : Wd} {S : Store} {v : V} {d : PyData} {k : Nat} {ns : List Int} {c : Int} (o : Ok G w S) (r : RepW G w v d) (h : tokAt d S = some (k, .draws ns c)) : ∃ a b, v = .ref a ∧ a ≠ b ∧ w.st[k]? = some [a, b] ∧ S[k]? = some (.draws ns c) ∧ w.H a = some (.lst [.ref b, .int c]) ∧ w.H b = some (.lst (ns.map V.int)) ∧ ns.length ≤ sizeLine := by
  unfold tokAt at h
  split at h
  · rename_i kk
    obtain ⟨ob, e1, e2⟩ := Option.map_eq_some_iff.mp h
    cases e2
    cases r with
    | tok hst =>
      rename_i j a as
      have e3 : ((j : Int)).toNat = j := Int.toNat_natCast j
      rw [e3] at e1 ⊢
      obtain ⟨a', b, e4, h1, h2, h3⟩ := o.obj j _ _ hst e1
      cases e4
      have z := (List.pairwise_flatten.mp o.nd).1 _ (List.mem_of_getElem? hst)
      exact ⟨_, b, rfl, (List.pairwise_cons.mp z).1 b List.mem_cons_self, hst, e1, h1, h2, h3⟩
  · cases h
theorem draw_some {t l : PyData} {S : Store} {r : Res Int} (h : drawD t l S = r) (hb : r ≠ .bad) : ∃ k ns c i, tokAt t S = some (k, .draws ns c) ∧ l = .int i ∧ 0 < i ∧ i < 1000000 ∧ ns ≠ [] ∧ r = .ok (drawF ns c i).1 (S.set k (.draws (drawF ns c i).2 (c + 1))) := by
  unfold drawD at h
  split at h
  · rename_i k ns c i e1
    split at h
    · rename_i hz
      simp only [Bool.and_eq_true, decide_eq_true_eq] at hz
      refine ⟨k, ns, c, i, e1, rfl, hz.1, hz.2.1, fun e => ?_, h.symm⟩
      rw [e] at hz
      exact absurd hz.2.2 (by decide)
    · exact absurd h.symm hb
  · exact absurd h.symm hb
abbrev drwF (ft fl : En → M PyData) : En → M PyData := fun δ => M.bnd (ft δ) fun x => M.bnd (fl δ) fun y => M.bnd (drawD x y) fun r => M.ret (.int r)
abbrev pckF (ft fl : En → M PyData) : En → M PyData := fun δ => M.bnd (ft δ) fun x => M.bnd (fl δ) fun y => pickD x y
theorem RQ.nb {α : Type} {E : XK} {w : Wd} {r : Res α} {P : Wd → Store → α → Prop} (h : RQ G E w r P) : r ≠ .bad := fun e => by
  rw [e] at h
  exact h
theorem bnd_nb {α β : Type} {x : M α} {f : α → M β} {S : Store} (h : M.bnd x f S ≠ .bad) : x S ≠ .bad := fun e => h (by unfold M.bnd; rw [e])
theorem de_draw {t l : Expr} {ft fl : En → M PyData} {p pos : Pos} (c : XOk G T X W n) (hg : L2.Gl X "_law_draw") (ht : PE X t (tD G W ft)) (hl : PE X l (tD G W fl)) (h1 : nsB t = true) (h2 : nsB l = true) :
    PE X (.Call (.Name "_law_draw" p) [t, l] [] pos) (tD G W (drwF ft fl)) :=
  (pe_callT c c.tb.draw hg (by decide +kernel) (pa_cons ht (pa_cons hl pa_nil (nsB_ok h2 [] X.env)) (nsB_ok h1 [l] X.env)) (by rw [List.all_cons, List.all_cons, h1, h2] <;> rfl)).imp fun σ H Q ⟨w, S, δ, e, k, er, q⟩ => by
    refine ⟨w, S, δ, e, k, er, (RQ.bnd q).imp fun w1 S1 dx a1 k1 _ q1 x rx => ?_⟩
    refine ⟨w1, S1, δ, rfl, k1, er.adv a1, (RQ.bnd q1).imp fun w2 S2 dy a2 k2 _ q2 y ry => ?_⟩
    obtain ⟨j, ns, c, i, e1, rfl, h3, h4, h5, e2⟩ := draw_some (r := drawD dx dy S2) rfl (bnd_nb q2.nb)
    cases ry
    obtain ⟨a, b, rfl, hab, g1, g2, g3, g4, g5⟩ := tok_at k2 (a2.rep rx) e1
    obtain ⟨a3, k3⟩ := draw_world (c' := c + 1) (ns' := (drawF ns c i).2) k2 g1 g2 (by rw [drawF_len]; exact g5)
    refine ⟨a, b, ns, c, i, rfl, hab, g3, g4, h5, g5, h3, h4, ?_⟩
    have q3 := RQ.bnd q2
    rw [e2] at q3
    exact q3 _ a3 k3 _ (Adv.refl _) k3 _ (.int _)
theorem intsD_map : ∀ ns : List Int, intsD (ns.map PyData.int) = some ns
  | [] => rfl
  | n :: ns => by
    show (intsD (ns.map PyData.int)).map (n :: ·) = some (n :: ns)
    rw [intsD_map ns]
    rfl
theorem de_start {s : Expr} {f : En → M PyData} {p pos : Pos} (c : XOk G T X W n) (hg : L2.Gl X "_law_start") (hs : PE X s (tD G W f)) (h1 : nsB s = true) :
    PE X (.Call (.Name "_law_start" p) [s] [] pos) (tD G W fun δ => M.bnd (f δ) fun x => startD x) :=
  (pe_callT c c.tb.start hg (by decide +kernel) (pa_cons hs pa_nil (nsB_ok h1 [] X.env)) (by rw [List.all_cons, h1] <;> rfl)).imp fun σ H Q ⟨w, S, δ, e, k, er, q⟩ => by
    refine ⟨w, S, δ, e, k, er, (RQ.bnd q).imp fun w1 S1 dx a1 k1 _ q1 x rx => ?_⟩
    have q2 := q1
    unfold startD at q2
    split at q2
    · rename_i xs
      cases rx with
      | scr hl hz =>
        rename_i a ns
        have ei : intsD (ns.map PyData.int) = some ns := intsD_map ns
        rw [ei] at q2
        have q3 : RQ G (XKs W σ) w1 (.ok (tokD S1.length) (S1 ++ [.draws (if ns.isEmpty then [0] else ns) 0])) (fun w' _ d => ∀ v, RepW G w' v d → Q v w'.H) := q2
        have hsz : (if ns.isEmpty then [0] else ns).length ≤ sizeLine := by
          split
          · decide
          · exact hz
        refine ⟨a, ns, rfl, sql_mono (vis_H w1) hl, hz, fun p1 p2 H' n1 n2 np kp g1 g2 => ?_⟩
        have nh1 := k1.newH n1
        have nh2 := k1.newH n2
        have na1 := k1.nadr n1
        have na2 := k1.nadr n2
        have adv : Adv w1 ⟨fun b => w1.hs b ∨ (b = p1 ∨ b = p2), w1.st ++ [[p1, p2]], H'⟩ := by
          refine ⟨⟨_, rfl⟩, fun b h => .inl h, fun b h n => ?_, fun b o _ h => kp b o h, fun b h _ => ?_, fun b h n => ?_⟩
          · rcases h with h | h | h
            · exact absurd h n
            · rw [h]; exact n1
            · rw [h]; exact n2
          · cases e : w1.H b with
            | none => exact absurd e (k1.ne b h)
            | some o => exact kp b o e
          · have h' : b ∈ (w1.st ++ [[p1, p2]]).flatten := h
            rw [List.flatten_append, List.mem_append] at h'
            rcases h' with h' | h'
            · exact absurd h' n
            · have h'' : b = p1 ∨ b = p2 := by simpa using h'
              rcases h'' with h'' | h''
              · rw [h'']; exact nh1
              · rw [h'']; exact nh2
        refine q3 ⟨fun b => w1.hs b ∨ (b = p1 ∨ b = p2), w1.st ++ [[p1, p2]], H'⟩ adv ⟨fun b h => ?_, by rw [List.length_append, List.length_append, k1.len] <;> rfl, fun j as ob e1 e2 => ?_, fun b h => ?_, ?_⟩ (.ref p1) (.tok (k := S1.length) (as := [p2]) ?_)
        · rcases h with h | h | h
          · cases e : w1.H b with
            | none => exact absurd e (k1.ne b h)
            | some o =>
              show H' b ≠ none
              rw [kp b o e]
              exact fun z => by cases z
          · rw [h]
            show H' p1 ≠ none
            rw [g1]
            exact fun z => by cases z
          · rw [h]
            show H' p2 ≠ none
            rw [g2]
            exact fun z => by cases z
        · by_cases ej : j < w1.st.length
          · have e1' : w1.st[j]? = some as := by
              have z : (w1.st ++ [[p1, p2]])[j]? = some as := e1
              rw [List.getElem?_append_left ej] at z
              exact z
            rw [List.getElem?_append_left (by rw [← k1.len]; exact ej)] at e2
            refine (k1.obj j as ob e1' e2).imp (fun b hb => ?_) adv.vis adv.st
            have hh := k1.hid b (mem_adr e1' hb)
            cases e : w1.H b with
            | none => exact absurd e (k1.ne b hh)
            | some o => exact kp b o e
          · have z : (w1.st ++ [[p1, p2]])[j]? = some as := e1
            have hj : j = w1.st.length := by
              have := (List.getElem?_eq_some_iff.mp z).1
              rw [List.length_append] at this
              have h1 : ([[p1, p2]] : List SA).length = 1 := rfl
              omega
            subst hj
            rw [List.getElem?_append_right (Nat.le_refl _), Nat.sub_self] at z
            cases z
            rw [k1.len, List.getElem?_append_right (Nat.le_refl _), Nat.sub_self] at e2
            cases e2
            exact ⟨p1, p2, rfl, g1, g2, hsz⟩
        · have h' : b ∈ (w1.st ++ [[p1, p2]]).flatten := h
          rw [List.flatten_append, List.mem_append] at h'
          rcases h' with h' | h'
          · exact .inl (k1.hid b h')
          · exact .inr (by simpa using h')
        · show (w1.st ++ [[p1, p2]]).flatten.Nodup
          rw [List.flatten_append]
          refine List.nodup_append.mpr ⟨k1.nd, ?_, fun x h1 y h2 e => ?_⟩
          · simp [np]
          · have h3 : y = p1 ∨ y = p2 := by simpa using h2
            rcases h3 with h3 | h3
            · exact na1 (by rw [← h3, ← e]; exact h1)
            · exact na2 (by rw [← h3, ← e]; exact h1)
        · show (w1.st ++ [[p1, p2]])[S1.length]? = some [p1, p2]
          rw [← k1.len, List.getElem?_append_right (Nat.le_refl _), Nat.sub_self]
          rfl
    · exact q2.elim
end
end PyD

namespace PyD
open PySem PySem.Spec PyProof.Rows L2
section
variable {G : Gx} {T : Tb} {X : Cx} {W : WX} {n : Nat}
inductive RLS (G : Gx) (w : Wd) : List V → List PyData → Prop
  | nil : RLS G w [] []
  | cons {v : V} {d : PyData} {vs : List V} {ds : List PyData} : RepS G w v d → RLS G w vs ds → RLS G w (v :: vs) (d :: ds)
def tLS (G : Gx) (W : WX) (f : En → M (List PyData)) : TA := fun σ H Q => Go G W f σ H fun _ w' _ ds => ∀ vs, RLS G w' vs ds → Q vs w'.H
theorem das_nil : PA X [] (tLS G W fun _ => M.ret []) := pa_nil.imp fun σ H Q ⟨w, S, δ, e, k, er, q⟩ => by
  subst e
  exact q w (Adv.refl w) k [] .nil
theorem das_cons {e : Expr} {es : List Expr} {f : En → M PyData} {g : En → M (List PyData)} (h : PE X e (tS G W f)) (hr : PA X es (tLS G W g)) (hs : nsB e = true) :
    PA X (e :: es) (tLS G W fun δ => M.bnd (f δ) fun d => M.bnd (g δ) fun ds => M.ret (d :: ds)) :=
  (pa_cons h hr (nsB_ok hs es X.env)).imp fun σ H Q ⟨w, S, δ, e, k, er, q⟩ => by
    refine ⟨w, S, δ, e, k, er, (RQ.bnd q).imp fun w1 S1 d a1 k1 _ q1 v r => ?_⟩
    refine ⟨w1, S1, δ, rfl, k1, er.adv a1, (RQ.bnd q1).imp fun w2 S2 ds a2 k2 _ q2 vs rs => ?_⟩
    exact q2 w2 (Adv.refl w2) k2 (v :: vs) (.cons (a2.repS r) rs)
/-- the own lists of a world -/
def Wd.ow (w : Wd) : Addr → Prop := fun b => w.hs b ∧ b ∉ adr w.st
theorem RepS.bare {w : Wd} {st : List SA} {v : V} {d : PyData} (r : RepS G w v d) (h : noTok d = true) : Rep G st (vis (w.bare.sub w.ow).hs (w.bare.sub w.ow).H) v d := by
  rcases r with r | ⟨p, vs, ds, rfl, rfl, h1, h2, h3, h4, h5⟩
  · exact (r.mono (vis_sub (w := w) (A := w.ow)) ⟨[], (List.append_nil _).symm⟩).noTok h
  · have hd : PyData.plainAll ds = true := by
      unfold noTok at h
      split at h
      · rename_i z; cases z
      · simpa [PyData.plain] using h
    exact .lst (vis_some.mpr ⟨fun q => q.2 ⟨h1, h2⟩, h3⟩) h4 ((h5.mono (vis_sub (w := w) (A := w.ow)) ⟨[], (List.append_nil _).symm⟩).plain_st ds vs hd)
theorem RLS.bare {w : Wd} {st : List SA} : ∀ {vs : List V} {ds : List PyData}, RLS G w vs ds → ds.all noTok = true → RepL G st (vis (w.bare.sub w.ow).hs (w.bare.sub w.ow).H) vs ds
  | _, _, .nil, _ => .nil
  | _, _, .cons a b, h => by
    rw [List.all_cons, Bool.and_eq_true] at h
    exact .cons (a.bare h.1) (RLS.bare b h.2)
def Wd.rev (w' w : Wd) : Wd := ⟨fun b => w'.hs b ∨ w.ow b, w.st, w'.H⟩
theorem revw_ok {w w' : Wd} {S : Store} (k : Ok G w S) (a : Adv (w.bare.sub w.ow) w') (k' : Ok G w' []) : Adv w (w'.rev w) ∧ Ok G (w'.rev w) S := by
  have same : ∀ b, w.hs b → w'.H b = w.H b := fun b h => by
    by_cases q : b ∈ adr w.st
    · exact a.own b ⟨h, fun z => z.2 q⟩ (by simp [Wd.bare, Wd.sub, adr])
    · cases e : w.H b with
      | none => exact absurd e (k.ne b h)
      | some o => exact a.keep b o (fun z => z.2 ⟨h, q⟩) e
  have sub : ∀ b, w.hs b → (w'.rev w).hs b := fun b h => by
    by_cases q : b ∈ adr w.st
    · exact .inl (a.sub b ⟨h, fun z => z.2 q⟩)
    · exact .inr ⟨h, q⟩
  have new : ∀ b, (w'.rev w).hs b → ¬ w.hs b → w.H b = none := fun b h n => by
    rcases h with h | h
    · exact a.new b h fun z => n z.1
    · exact absurd h.1 n
  have keep : ∀ b o, ¬ w.hs b → w.H b = some o → (w'.rev w).H b = some o := fun b o h e => a.keep b o (fun z => h z.1) e
  have A : Adv w (w'.rev w) := ⟨⟨[], (List.append_nil _).symm⟩, sub, new, keep, fun b h _ => same b h, fun b h n => absurd h n⟩
  refine ⟨A, ⟨fun b h => ?_, k.len, fun j as o h1 h2 => ?_, fun b h => sub b (k.hid b h), k.nd⟩⟩
  · rcases h with h | h
    · exact k'.ne b h
    · show w'.H b ≠ none
      rw [same b h.1]
      exact k.ne b h.1
  · exact (k.obj j as o h1 h2).imp (fun b hb => same b (k.hid b (mem_adr h1 hb))) A.vis ⟨[], (List.append_nil _).symm⟩
theorem Rep.scl {st st' : List SA} {H H' : Hp} {v : V} {d : PyData} (r : Rep G st H v d) (h : sclD d = true) : Rep G st' H' v d := by
  cases d <;> first | (cases h; done) | skip
  · cases r; exact .non
  · cases r; exact .bl _
  · cases r; exact .int _
  · cases r; exact .str _
abbrev calRF (c : List PyData → M PyData) (g : En → M (List PyData)) : En → M PyData := fun δ => M.bnd (g δ) fun ds => pureC ds (sclR (c ds))
theorem go_callR {c : List PyData → M PyData} {g : En → M (List PyData)} {fr : Bool} (hl : fr = true → ∀ ds S r S', c ds S = .ok r S' → ∃ es, r = .list es) {σ : L2.St} {H : Hp} {Q : VK} (h : tD G W (calRF c g) σ H Q) : tCallS (spD G c fr) (WE W) (tLS G W g) σ H Q := by
  obtain ⟨w, S, δ, e, k, er, q⟩ := h
  refine ⟨w, S, δ, e, k, er, (RQ.bnd q).imp fun w1 S1 ds a1 k1 _ q1 vs rs => ?_⟩
  unfold pureC at q1
  split at q1
  · rename_i hz
    refine ⟨w1.bare.sub w1.ow, [], ds, rfl, k1.bare.sub fun b _ => by simp [Wd.bare, adr], rs.bare hz, ?_⟩
    unfold sclR at q1
    cases e0 : c ds [] with
    | bad =>
      rw [e0] at q1
      exact q1
    | ok d s =>
      rw [e0] at q1
      dsimp only at q1
      by_cases hs : sclD d = true
      · rw [if_pos hs] at q1
        cases s with
        | cons _ _ => exact q1.elim
        | nil =>
          intro w' a k'
          obtain ⟨a2, k2⟩ := revw_ok k1 a k'
          cases fr with
          | false => exact L2.iteF fun v r => q1 (w'.rev w1) a2 k2 v (Rep.scl r hs)
          | true =>
            obtain ⟨es, rfl⟩ := hl rfl _ _ _ _ e0
            cases hs
      · rw [if_neg hs] at q1
        exact q1.elim
    | exc j s =>
      rw [e0] at q1
      cases s with
      | cons _ _ => exact q1.elim
      | nil =>
        intro w' a k'
        obtain ⟨a2, k2⟩ := revw_ok k1 a k'
        exact q1 (w'.rev w1) a2 k2
  · exact q1.elim
theorem de_callR {f : Nat} {d : DefI} {e : Expr} {es : List Expr} {g : En → M (List PyData)} {p pos : Pos} (c : XOk G T X W n) (hd : T.ds.lookup f = some d) (hg : L2.Gl X d.name) (hdb : (d.name == ("__debug__" : Str)) = false) (ha : PA X (e :: es) (tLS G W g)) (hs : (e :: es).all nsB = true) :
    PE X (.Call (.Name d.name p) (e :: es) [] pos) (tD G W (calRF (T.call n f) g)) := (pe_callT c (c.tb.fn f d hd) hg hdb ha hs).imp fun σ H Q q => go_callR (fun hf => call_list hd hf) q
end
end PyD

namespace PyD
open PySem PySem.Spec PyProof.Rows L2
section
variable {P : Program} {w : World} {A : Around} {E : Value → Shared → Prop} {s : Shared}
/-- an empty set object -/
abbrev set0 (w : World) : Obj := { cls := .type "set", dict := none, data := .set #[] 0 (.fresh 0 0 (!w.params.followText "set-order")) }
theorem call_set_lstI {l : Addr} {items : Array Value} (ns : List Int) {Q : Value → Shared → Prop} (hh : A.handled = none) (hl : s.heap.IsList l items) (hit : IntsAre items.toList ns) (hb : ns.length + 1 < scanBound)
    (h : ∀ (h' : Heap) (tk c : Nat), SetR w h' s.heap.objs.size (fun j => decide (j ∈ ns)) c → (∀ b o, s.heap.get? b = some o → h'.get? b = some o) → Q (.ref s.heap.objs.size) { s with heap := h', toks := tk }) :
    wpAny (model P w) A (call (.type "set") [.ref l]) Q E s := by
  have hsz : items.size = ns.length := by
    have q := IntsAre.length hit
    rw [Array.length_toList] at q
    exact q
  obtain ⟨c, tl, hmro⟩ := F.called_set.mro
  have hmade := F.called_set.made
  have hsub := F.called_set.sub
  refine wpAny_call (codeAny_of_tree ?_)
  show wpAny _ _ (callAny (.type "set") _) _ _ _
  refine wpAny_pure ⟨Code.quiet_builtin _ (by decide +kernel), codeAny_builtin F.entry_type_call ?_⟩
  rw [Around.under_plain (weight_type_call_type "set" [.ref l] []) rfl]
  have h1 := F.called_set.notType
  have h2 := F.called_set.canCreate
  have hct := F.typeCall_set_1 (.ref l)
  repeat (any_goals (first | assumption | wp_step))
  refine codeAny_mono (code_set_led1 (.ref l) (E := E) (Q₁ := fun obj s₁ => obj = .ref s.heap.objs.size ∧ s₁ = { s with heap := s.heap.push (set0 w) }) ⟨rfl, rfl⟩) fun r s₁ hr => ?_
  rcases r with e | fl
  · exact hr
  cases fl with
  | ret obj =>
    obtain ⟨rfl, rfl⟩ := hr
    have hS : (s.heap.push (set0 w)).get? s.heap.objs.size = some (set0 w) := Heap.get?_push_size _ rfl
    have hT : Shared.TypeIs { s with heap := s.heap.push (set0 w) } (.ref s.heap.objs.size) "set" := ⟨_, hS, rfl⟩
    have hli := F.called_set.init.lookup
    have hbi := F.called_set.init.bind (.ref s.heap.objs.size)
    repeat (any_goals (first | assumption | wp_step))
    refine codeAny_mono (codeAny_call_builtin (R := wants (fun r s₂ => r = .none ∧ ∃ h' tk c, s₂ = { s with heap := h', toks := tk } ∧ SetR w h' s.heap.objs.size (fun j => decide (j ∈ ns)) c ∧
        (∀ b o, s.heap.get? b = some o → h'.get? b = some o)) E) F.called_set.init.plain F.entry_set_init (check_set_init_1 hT ?_)) fun r₂ s₂ hr₂ => ?_
    · obtain ⟨ol, hol, hcl, nl, hdl⟩ := hl
      obtain ⟨ocls, odict, odata, oslots⟩ := ol
      simp only at hcl hdl
      subst hcl; subst hdl
      have hol' : (s.heap.push (set0 w)).get? l = some { cls := .type "list", dict := odict, data := .seq items nl, slots := oslots } := Heap.get?_push_of_some _ hol
      have hsls := F.sub_list_set
      have hslf := F.sub_list_frozenset
      have hne : (Value.type "list" == Value.type "dict") = false := by decide
      have hl1 : (s.heap.push (set0 w)).IsList l items := ⟨_, hol', rfl, nl, rfl⟩
      unfold Builtin.«set.__init__» noKeywords Builtin.Frozenset.updateFrom
      generalize hPI : pyIter = PI
      wp_walk
      subst hPI
      refine wpAny_pyIter_list hl1 ?_
      refine wpAny_bind (wpAny_runValue ?_)
      have lt : l < s.heap.objs.size := Heap.lt_size hol
      have hh3 : A.in1.in1.in1.handled = none := by simp [hh]
      have hneI : l ≠ (s.heap.push (set0 w)).objs.size := by
        rw [Heap.size_push]; exact Nat.ne_of_lt (Nat.lt_succ_of_lt lt)
      have hSf : s.heap.objs.size ∉ [(s.heap.push (set0 w)).objs.size, l] := by
        rw [Heap.size_push]; simp only [List.mem_cons, List.mem_singleton, List.not_mem_nil, or_false, not_or]
        exact ⟨Nat.ne_of_lt (Nat.lt_succ_self _), Nat.ne_of_gt lt⟩
      have hval : ∀ (i : Nat) (v : Value), items[i]? = some v → ∃ k t, ns[i]? = some k ∧ v = .int k t := fun i v hv => by
        have hi : i < ns.length := by rw [← hsz]; exact (Array.getElem?_eq_some_iff.mp hv).1
        obtain ⟨t, e⟩ := PyProof.Rows.IntsAre.int_at hit i v (by rw [Array.getElem?_toList]; exact hv)
        refine ⟨ns[i], t, List.getElem?_eq_getElem hi, ?_⟩
        rw [e, List.getD_eq_getElem?_getD, List.getElem?_eq_getElem hi] <;> rfl
      refine set_update_ints ((Walks.list hh3 _ l hneI items).toS) s.heap.objs.size hSf ns hsz hb hval (items.size - 0) 0 _ (by omega) (Nat.zero_le _) ⟨⟨_, Heap.get?_push_size _ rfl, rfl, rfl⟩, (hl1.push _)⟩
        ⟨0, Nat.le_refl 0, setR_new_at (Heap.get?_push_of_some _ hS)⟩ ?_
      intro s' c' hm hc' hS'
      obtain ⟨h', g2, d', tk', os'⟩ := s'
      have eg : g2 = s.gens := hm.gens
      have ed : d' = s.drawn := hm.drawn
      have eo : os' = s.os := hm.os
      subst eg; subst ed; subst eo
      show wpAny _ _ _ _ _ _
      refine wpAny_pure ?_
      show wpAny _ _ (ret Value.none) _ _ _
      refine wpAny_pure ⟨rfl, h', tk', c', rfl, hS', fun b o e => ?_⟩
      have hb0 : b < s.heap.objs.size := Heap.lt_size e
      refine hm.heap b o ?_ (Heap.get?_push_of_some _ (Heap.get?_push_of_some _ e))
      rw [Heap.size_push]
      simp only [List.mem_cons, List.mem_singleton, List.not_mem_nil, or_false, not_or]
      exact ⟨Nat.ne_of_lt hb0, Nat.ne_of_lt (Nat.lt_succ_of_lt hb0)⟩
    · rcases r₂ with e | fl₂
      · exact hr₂
      cases fl₂ with
      | ret r =>
        obtain ⟨rfl, h', tk, c', rfl, hS', hk'⟩ := hr₂
        repeat (any_goals (first | assumption | wp_step))
        exact h _ _ _ hS' hk'
      | _ => exact hr₂.elim
  | _ => exact hr.elim
end
end PyD

namespace PyD
open PySem PySem.Spec PyProof.Rows L2
section
variable {G : Gx} {T : Tb} {X : Cx} {W : WX} {n : Nat}
theorem de_pick {t l : Expr} {ft fl : En → M PyData} {p pos : Pos} (c : XOk G T X W n) (hp : T.pk = true) (hg : L2.Gl X "_law_pick") (ht : PE X t (tD G W ft)) (hl : PE X l (tS G W fl)) (h1 : nsB t = true) (h2 : nsB l = true) :
    PE X (.Call (.Name "_law_pick" p) [t, l] [] pos) (tD G W (pckF ft fl)) :=
  (pe_callT c (c.tb.pick hp) hg (by decide +kernel) (pa_cons ht (pa_cons hl pa_nil (nsB_ok h2 [] X.env)) (nsB_ok h1 [l] X.env)) (by rw [List.all_cons, List.all_cons, h1, h2] <;> rfl)).imp fun σ H Q ⟨w, S, δ, e, k, er, q⟩ => by
    refine ⟨w, S, δ, e, k, er, (RQ.bnd q).imp fun w1 S1 dx a1 k1 _ q1 x rx => ?_⟩
    refine ⟨w1, S1, δ, rfl, k1, er.adv a1, (RQ.bnd q1).imp fun w2 S2 dy a2 k2 hfl q2 y ry => ?_⟩
    cases dy <;> try (exact q2.elim)
    clear hfl
    rename_i xs
    have q2' : RQ G (XKs W σ) w2 (M.bnd (drawD dx (.int xs.length)) (fun r => M.opt xs[r.toNat]?) S2) (fun w' _ d => ∀ v, RepW G w' v d → Q v w'.H) := q2
    obtain ⟨j, ns, c', i, e1, e0, h3, h4, h5, e2⟩ := draw_some (r := drawD dx (.int xs.length) S2) rfl (bnd_nb q2'.nb)
    cases e0
    obtain ⟨a, b, rfl, hab, g1, g2, g3, g4, g5⟩ := tok_at k2 (a2.rep rx) e1
    obtain ⟨a3, k3⟩ := draw_world (c' := c' + 1) (ns' := (drawF ns c' xs.length).2) k2 g1 g2 (by rw [drawF_len]; exact g5)
    have pne : ∀ z, z ∈ adr w2.st → ∀ pp us, w2.H pp = some (.lst us) → (w2.hs pp → pp ∉ adr w2.st) → pp ≠ z := fun z hz pp us hh hn e => by
      subst e
      exact hn (k2.hid _ hz) hz
    have ha : a ∈ adr w2.st := mem_adr g1 List.mem_cons_self
    have hb : b ∈ adr w2.st := mem_adr g1 (List.mem_cons_of_mem _ List.mem_cons_self)
    have fin : ∀ pp us, w2.H pp = some (.lst us) → (w2.hs pp → pp ∉ adr w2.st) → RepLW G w2 us xs → spPick [.ref a, .ref pp] w2.H Q (WE W σ) := fun pp us hh hn rr => by
      refine ⟨a, b, pp, ns, c', us, rfl, hab, pne a ha pp us hh hn, pne b hb pp us hh hn, g3, g4, h5, g5, hh, by rw [rr.length]; omega, by rw [rr.length]; omega, fun v hv => ?_⟩
      rw [rr.length] at hv ⊢
      obtain ⟨d, hd, rd⟩ := rr.get hv
      have q3 := RQ.bnd q2'
      rw [e2] at q3
      have q4 : RQ G (XKs W σ) _ (M.opt xs[(drawF ns c' xs.length).1.toNat]? _) _ := q3 _ a3 k3
      rw [hd] at q4
      exact q4 _ (Adv.refl _) k3 v (a3.rep rd)
    rcases ry with ry | ⟨pp, us, ds, rfl, e4, z1, z2, z3, z4, z5⟩
    · cases ry with
      | lst hv hz hr =>
        obtain ⟨n1, n2⟩ := vis_some.mp hv
        exact fin _ _ n2 (fun z => absurd z n1) hr
    · cases e4
      exact fin pp us z3 (fun _ => z2) z5
theorem go1 {f : En → M PyData} {o : PyData → Option PyData} {r : List V → Hp → VK → Prop} (hs : CalS G r o) {σ : L2.St} {H : Hp} {Q : VK} (h : tD G W (fun δ => M.bnd (f δ) fun x => M.opt (o x)) σ H Q) : tCB r (tCons (tS G W f) tNil) σ H Q := by
  obtain ⟨w, S, δ, e, k, er, q⟩ := h
  refine ⟨w, S, δ, e, k, er, (RQ.bnd q).imp fun w1 S1 dx a1 k1 _ q1 x rx => ?_⟩
  obtain ⟨d, e2, q2⟩ := RQ.opt' k1 q1
  exact hs w1 S1 x dx d Q k1 rx e2 fun w' v a k' rv => q2 w' a k' v rv
theorem go1O {f : En → M PyData} {o : PyData → Option PyData} {r : List V → Hp → VK → Prop} (hs : CalO G r o) {σ : L2.St} {H : Hp} {Q : VK} (h : tO G W (fun δ => M.bnd (f δ) fun x => M.opt (o x)) σ H Q) : tCB r (tCons (tS G W f) tNil) σ H Q := by
  obtain ⟨w, S, δ, e, k, er, q⟩ := h
  refine ⟨w, S, δ, e, k, er, (RQ.bnd q).imp fun w1 S1 dx a1 k1 _ q1 x rx => ?_⟩
  obtain ⟨d, e2, q2⟩ := RQ.opt' k1 q1
  obtain ⟨ds, e3, _⟩ := q2 w1 (Adv.refl w1) k1
  subst e3
  exact hs w1 S1 x dx ds Q k1 rx e2 fun w' p vs a k' ow => by
    obtain ⟨ds', e4, q4⟩ := q2 w' a k'
    cases e4
    exact q4 p vs (ow.from a1)
/-- a built-in's name -/
structure BlT (X : Cx) (x : Str) : Prop where
  g : L2.Gl X x
  m : X.mg x = none
  n : x ≠ "__name__"
  d : (x == ("__debug__" : Str)) = false
variable {a : Expr} {x : Str} {p pos : Pos} {f : En → M PyData} {o : PyData → Option PyData} {r : List V → Hp → VK → Prop} {id : String}
theorem de_cal (hc : CallR X (.builtin id) r) (hs : CalS G r o) (b : BlT X x) (hv : bootBuiltins x = some (.builtin id)) (ha : PE X a (tS G W f)) (h1 : nsB a = true) :
    PE X (.Call (.Name x p) [a] [] pos) (tD G W fun δ => M.bnd (f δ) fun d => M.opt (o d)) := (pe_callB hc b.g b.m hv (pa_cons ha pa_nil (nsB_ok h1 [] X.env)) b.n b.d (nsB_ok h1 [] X.env) rfl).imp fun σ H Q q => go1 hs q
theorem do_cal (hc : CallR X (.builtin id) r) (hs : CalO G r o) (b : BlT X x) (hv : bootBuiltins x = some (.builtin id)) (ha : PE X a (tS G W f)) (h1 : nsB a = true) :
    PE X (.Call (.Name x p) [a] [] pos) (tO G W fun δ => M.bnd (f δ) fun d => M.opt (o d)) := (pe_callB hc b.g b.m hv (pa_cons ha pa_nil (nsB_ok h1 [] X.env)) b.n b.d (nsB_ok h1 [] X.env) rfl).imp fun σ H Q q => go1O hs q
theorem de_ty (hc : CallR X (.type id) r) (hs : CalS G r o) (b : BlT X x) (hv : bootBuiltins x = some (.type id)) (ha : PE X a (tS G W f)) (h1 : nsB a = true) :
    PE X (.Call (.Name x p) [a] [] pos) (tD G W fun δ => M.bnd (f δ) fun d => M.opt (o d)) := (pe_callTy hc b.g b.m hv (pa_cons ha pa_nil (nsB_ok h1 [] X.env)) b.n b.d (nsB_ok h1 [] X.env) rfl).imp fun σ H Q q => go1 hs q
theorem do_ty (hc : CallR X (.type id) r) (hs : CalO G r o) (b : BlT X x) (hv : bootBuiltins x = some (.type id)) (ha : PE X a (tS G W f)) (h1 : nsB a = true) :
    PE X (.Call (.Name x p) [a] [] pos) (tO G W fun δ => M.bnd (f δ) fun d => M.opt (o d)) := (pe_callTy hc b.g b.m hv (pa_cons ha pa_nil (nsB_ok h1 [] X.env)) b.n b.d (nsB_ok h1 [] X.env) rfl).imp fun σ H Q q => go1O hs q
def Bi.name : Bi → Str
  | .len => "len" | .list => "list" | .tup => "tuple" | .srt => "sorted" | .sum => "sum" | .max => "max" | .min => "min" | .abs => "abs" | .all => "all" | .any => "any" | .str => "str" | .int => "int"
theorem de_bi (c : XOk G T X W n) (fb : Bi) (b : BlT X fb.name) (ha : PE X a (tS G W f)) (h1 : nsB a = true) : PE X (.Call (.Name fb.name p) [a] [] pos) (tD G W fun δ => M.bnd (f δ) fun d => M.opt (biD fb d)) := by
  have hu := c.u65
  cases fb with
  | len => exact de_cal (by rw [← c.K]; exact call_len) (cs_len (G := G)) b (by decide +kernel) ha h1
  | list => exact de_ty (by rw [← c.K]; exact call_list_of) ((co_list (G := G)).vis fun dx d e => by cases dx <;> first | (simp [biD] at e; done) | exact ⟨_, (Option.some.inj e).symm⟩) b (by decide +kernel) ha h1
  | tup => exact de_ty (by rw [← c.K]; exact call_tuple_of) (cs_tup (G := G)) b (by decide +kernel) ha h1
  | srt => exact de_cal (o := biD .srt) (by rw [← c.K]; exact cr_srt hu) ((co_srt (G := G)).vis fun dx d e => by
      cases dx <;> try (simp [biD] at e; done)
      all_goals exact ⟨_, (srtD_some e).2⟩) b (by decide +kernel) ha h1
  | sum => exact de_cal (by rw [← c.K]; exact cr_sum c.calm) (cs_sum (G := G)) b (by decide +kernel) ha h1
  | max => exact de_cal (by rw [← c.K]; exact cr_max c.calm) (cs_max (G := G)) b (by decide +kernel) ha h1
  | min => exact de_cal (by rw [← c.K]; exact cr_min c.calm) (cs_min (G := G)) b (by decide +kernel) ha h1
  | abs => exact de_cal call_abs (cs_abs (G := G)) b (by decide +kernel) ha h1
  | all => exact de_cal (by rw [← c.K]; exact cr_all c.calm) (cs_all (G := G)) b (by decide +kernel) ha h1
  | any => exact de_cal (by rw [← c.K]; exact cr_any c.calm) (cs_any (G := G)) b (by decide +kernel) ha h1
  | str => exact de_ty call_str_int (cs_str (G := G)) b (by decide +kernel) ha h1
  | int => exact de_ty call_int_str (cs_int (G := G)) b (by decide +kernel) ha h1
theorem do_list (c : XOk G T X W n) (b : BlT X "list") (ha : PE X a (tS G W f)) (h1 : nsB a = true) : PE X (.Call (.Name "list" p) [a] [] pos) (tO G W fun δ => M.bnd (f δ) fun d => M.opt (biD .list d)) :=
  do_ty (by rw [← c.K]; exact call_list_of) (co_list (G := G)) b (by decide +kernel) ha h1
theorem do_srt (c : XOk G T X W n) (b : BlT X "sorted") (ha : PE X a (tS G W f)) (h1 : nsB a = true) : PE X (.Call (.Name "sorted" p) [a] [] pos) (tO G W fun δ => M.bnd (f δ) fun d => M.opt (biD .srt d)) :=
  do_cal (by rw [← c.K]; exact cr_srt c.u65) (co_srt (G := G)) b (by decide +kernel) ha h1
abbrev mx2F (k : Bool) (fa fb : En → M PyData) : En → M PyData := fun δ => M.bnd (fa δ) fun x => M.bnd (fb δ) fun y => match x, y with
  | .int i, .int j => M.ret (.int (if k then (if j > i then j else i) else (if j < i then j else i)))
  | _, _ => M.bad
theorem go_two {fa fb : En → M PyData} {g : PyData → PyData → M PyData} {R : List V → Hp → VK → Prop} {σ : L2.St} {H : Hp} {Q : VK} (h : tD G W (fun δ => M.bnd (fa δ) fun x => M.bnd (fb δ) fun y => g x y) σ H Q)
    (q : ∀ w S x y dx dy, Ok G w S → RepS G w x dx → RepS G w y dy → RQ G (XKs W σ) w (g dx dy S) (fun w' _ d => ∀ v, RepW G w' v d → Q v w'.H) → R [x, y] w.H Q) : tCB R (tCons (tS G W fa) (tCons (tS G W fb) tNil)) σ H Q := by
  obtain ⟨w, S, δ, e, k, er, h⟩ := h
  refine ⟨w, S, δ, e, k, er, (RQ.bnd h).imp fun w1 S1 dx a1 k1 _ h1 x rx => ?_⟩
  refine ⟨w1, S1, δ, rfl, k1, er.adv a1, (RQ.bnd h1).imp fun w2 S2 dy a2 k2 _ h2 y ry => ?_⟩
  exact q w2 S2 x y dx dy k2 (a2.repS rx) ry h2
theorem de_mx2 {k : Bool} {e2 : Expr} {fa fb : En → M PyData} (c : XOk G T X W n) (b : BlT X (if k then "max" else "min")) (ha : PE X a (tS G W fa)) (hb : PE X e2 (tS G W fb)) (h1 : nsB a = true) (h2 : nsB e2 = true) :
    PE X (.Call (.Name (if k then "max" else "min") p) [a, e2] [] pos) (tD G W (mx2F k fa fb)) := by
  have hpa : PA X [a, e2] (tCons (tS G W fa) (tCons (tS G W fb) tNil)) := pa_cons ha (pa_cons hb pa_nil (nsB_ok h2 [] X.env)) (nsB_ok h1 [e2] X.env)
  have hany : (backTo pos (starEach [e2] X.env)).any (·.1) = false := nsB_any (by rw [List.all_cons, h2] <;> rfl)
  cases k with
  | true =>
    refine (pe_callB (call_max2 c.calm) b.g b.m (by decide +kernel) hpa b.n b.d (nsB_ok h1 [e2] X.env) hany).imp fun σ H Q q => go_two q fun w S x y dx dy k rx ry h => ?_
    cases dx <;> cases dy <;> try (exact h.elim)
    exact ⟨_, _, by rw [rx.int, ry.int], h w (Adv.refl w) k _ (.int _)⟩
  | false =>
    refine (pe_callB (call_min2 c.calm) b.g b.m (by decide +kernel) hpa b.n b.d (nsB_ok h1 [e2] X.env) hany).imp fun σ H Q q => go_two q fun w S x y dx dy k rx ry h => ?_
    cases dx <;> cases dy <;> try (exact h.elim)
    exact ⟨_, _, by rw [rx.int, ry.int], h w (Adv.refl w) k _ (.int _)⟩
def Ty.nm : Ty → String
  | .int => "int" | .bool => "bool" | .tup => "tuple" | .list => "list" | .str => "str" | _ => "ValueError"
def tyOf : PyData → String
  | .none => "NoneType" | .bool _ => "bool" | .int _ => "int" | .str _ => "str" | .list _ => "list" | .tuple _ => "tuple" | .dict _ => "dict"
theorem RepS.ty {w : Wd} {v : V} {d : PyData} (r : RepS G w v d) (h : ∀ k, d ≠ .dict k) : TyOf G.K w.H v (.type (tyOf d)) := by
  cases d with
  | none => rw [r.non]; exact .non
  | bool b => rw [r.bl]; exact .bl b
  | int i => rw [r.int]; exact .int i
  | str x => rw [r.str]; exact .str x
  | list xs => obtain ⟨a, vs, rfl, _, _, h1⟩ := r.list; exact .lst (h1 w (Adv.refl w))
  | tuple xs => obtain ⟨a, vs, rfl, _, _, h1⟩ := r.tup; exact .tup (h1 w (Adv.refl w))
  | dict k => exact absurd rfl (h k)
def rIsD (K : PySem.W.Frag) : List V → Hp → VK → Prop := fun xs H Q => ∃ (x : V) (u c : String) (b : Bool), xs = [x, .ty c] ∧ TyOf K H x (.type u) ∧ PySem.W.kitOne K (.type u) (.type c) = some b ∧ Q (.bl b) H
theorem cr_isD : CallR X (.builtin "isinstance") (rIsD X.K) := by
  intro pins s σ H xs us Q I r h
  obtain ⟨x, u, c, b, rfl, ty, e, q⟩ := h
  obtain ⟨u1, u2, rfl, r1, r2⟩ := vals2 r
  cases (show u2 = Value.type c from r2)
  exact isinst_ok I r1 ty e fun tk => ⟨.bl b, H, I.tok tk, rfl, q⟩
theorem isi_kit {d : PyData} {t : Ty} {b : Bool} (h : isiD t d = some b) (h1 : ∀ k, t ≠ .exc k) (h2 : t ≠ .ve) (K : PySem.W.Frag) : (∀ k, d ≠ .dict k) ∧ PySem.W.kitOne K (.type (tyOf d)) (.type t.nm) = some b := by
  cases t <;> first
    | exact absurd rfl (h1 _)
    | exact absurd rfl h2
    | (cases d <;> first
        | (cases h; done)
        | (cases h; exact ⟨fun k e => (by cases e), kit_ty (by dsimp only [tyOf, Ty.nm]; decide +kernel)⟩))
theorem de_isi {t : Ty} {px : Pos} (c : XOk G T X W n) (h1 : ∀ k, t ≠ .exc k) (h2 : t ≠ .ve) (b : BlT X "isinstance") (bt : BlT X t.nm) (ha : PE X a (tS G W f)) (hn : nsB a = true) :
    PE X (.Call (.Name "isinstance" p) [a, .Name t.nm px] [] pos) (tD G W fun δ => M.bnd (f δ) fun d => M.opt ((isiD t d).map .bool)) := by
  have hty : bootBuiltins (t.nm : Str) = some (.type t.nm) := by cases t <;> first | decide +kernel | exact absurd rfl (h1 _) | exact absurd rfl h2
  have hpa : PA X [a, .Name t.nm px] (tCons (tS G W f) (tCons (tC (.ty t.nm)) tNil)) := pa_cons ha (pa_cons (pe_bltn bt.g bt.m hty rfl bt.n bt.d) pa_nil rfl) (nsB_ok hn _ X.env)
  refine (pe_callB (show CallR X (.builtin "isinstance") (rIsD G.K) by rw [← c.K]; exact cr_isD) b.g b.m (by decide +kernel) hpa b.n b.d (nsB_ok hn _ X.env) rfl).imp fun σ H Q ⟨w, S, δ, e, k, er, q⟩ => ?_
  refine ⟨w, S, δ, e, k, er, (RQ.bnd q).imp fun w1 S1 dx a1 k1 _ q1 v rv => ?_⟩
  obtain ⟨d, e2, q2⟩ := RQ.opt' k1 q1
  obtain ⟨bb, e3, rfl⟩ := Option.map_eq_some_iff.mp e2
  obtain ⟨g1, g2⟩ := isi_kit e3 h1 h2 G.K
  exact ⟨v, _, _, bb, rfl, rv.ty g1, g2, q2 w1 (Adv.refl w1) k1 _ (.bl _)⟩
/-- an error's value, its class asked -/
def rIsX (G : Gx) : List V → Hp → VK → Prop := fun xs H Q => ∃ (a : Addr) (C : Addr) (c : V) (cv : Value) (b : Bool), xs = [.ref a, c] ∧ H a = some (ExK (.ref C) none a) ∧ ExcC G.K C ∧ (∀ u, L2.RelV c u → u = cv) ∧ PySem.W.kitOne G.K (.ref C) cv = some b ∧ Q (.bl b) H
theorem cr_isX (hK : X.K = G.K) : CallR X (.builtin "isinstance") (rIsX G) := by
  intro pins s σ H xs us Q I r h
  obtain ⟨a, D, c, cv, b, rfl, ha, C, hcv, e, q⟩ := h
  obtain ⟨u1, u2, rfl, r1, r2⟩ := vals2 r
  cases r1
  have ec := hcv _ r2
  subst ec
  obtain ⟨⟨oe, vs, hget, hz, hv⟩, _⟩ := I.hok a _ ha
  have J : PySem.W.InstAt s.heap a oe D none := by
    obtain ⟨oc, od, oda, osl⟩ := oe
    obtain ⟨h1, h2⟩ := hz
    dsimp only at h1 h2 hv
    subst h1 h2 hv
    exact ⟨hget, rfl, rfl, trivial⟩
  rw [← hK] at C e
  exact PySem.W.kia_one (PySem.W.handS_kitx_exc C.hg C.hk C.hs C.hd C.ha C.hn C.ht C.hm) I.kIn J e (fun z => nomatch z) fun tk => ⟨.bl b, H, I.kept (t' := tk) fun _ _ z => z, rfl, q⟩
/-- every error in sight is one of the table's -/
theorem go_isx {u : V} {uv : Value} {t : Ty} {e2 : Expr} {te : TE} (hru : ∀ z, L2.RelV u z → z = uv) (hk : ∀ k : Nat, k < 7 → ∃ b, isiD t (excD k) = some b ∧ ExcC G.K (G.C k) ∧ PySem.W.kitOne G.K (.ref (G.C k)) uv = some b)
    (hd : ∀ d b, isiD t d = some b → ∃ k : Int, d = .dict [(.int k, .none)] ∧ k.toNat < 7) {σ : L2.St} {H : Hp} {Q : VK} (h : tD G W (fun δ => M.bnd (f δ) fun d => M.opt ((isiD t d).map .bool)) σ H Q) :
    tCB (rIsX G) (tCons (tS G W f) (tCons (tC u) tNil)) σ H Q := by
  obtain ⟨w, S, δ, e, k, er, q⟩ := h
  refine ⟨w, S, δ, e, k, er, (RQ.bnd q).imp fun w1 S1 dx a1 k1 hfl q1 v rv => ?_⟩
  obtain ⟨d, e2, q2⟩ := RQ.opt' k1 q1
  obtain ⟨bb, e3, rfl⟩ := Option.map_eq_some_iff.mp e2
  obtain ⟨kk, rfl, hlt⟩ := hd _ _ e3
  have rv' : RepW G w1 v (.dict [(.int kk, .none)]) := by
    rcases rv with rv | ⟨_, _, _, _, z, _⟩
    · exact rv
    · cases z
  cases rv' with
  | exc hx =>
    rename_i aa k2
    have e6 : ((k2 : Int)).toNat = k2 := Int.toNat_natCast k2
    rw [e6] at hlt
    obtain ⟨b, h1, h2, h3⟩ := hk k2 hlt
    have e7 : some b = some bb := h1.symm.trans e3
    cases e7
    exact ⟨aa, G.C k2, u, uv, _, rfl, (vis_some.mp hx).2, h2, hru, h3, q2 w1 (Adv.refl w1) k1 _ (.bl _)⟩
theorem isx_dict {t : Ty} (ht : (∃ j, t = .exc j) ∨ t = .ve) : ∀ d b, isiD t d = some b → ∃ k : Int, d = .dict [(.int k, .none)] ∧ k.toNat < 7 := by
  intro d b h
  rcases ht with ⟨j, rfl⟩ | rfl
  · unfold isiD at h
    split at h <;> first
      | (cases h; done)
      | skip
    all_goals first
      | (rename_i k h1 h2; simp at h2; done)
      | skip
    all_goals first
      | (split at h
         · exact ⟨_, rfl, ‹_›⟩
         · cases h)
      | simp_all
  · unfold isiD at h
    split at h <;> first
      | (cases h; done)
      | skip
    all_goals first
      | (split at h
         · exact ⟨_, rfl, ‹_›⟩
         · cases h)
      | simp_all
def allE (T : Tb) : Prop := ∀ k : Nat, k < 7 → ∃ z, T.es.lookup k = some z
theorem de_isx {j : Nat} {y : Str} {px : Pos} (c : XOk G T X W n) (hj : T.es.lookup j = some y) (hgy : L2.Gl X y) (hdy : (y == ("__debug__" : Str)) = false) (b : BlT X "isinstance") (ha : PE X a (tS G W f)) (hn : nsB a = true) (hal : allE T) (hxi : T.xi = true) :
    PE X (.Call (.Name "isinstance" p) [a, .Name y px] [] pos) (tD G W fun δ => M.bnd (f δ) fun d => M.opt ((isiD (.exc j) d).map .bool)) := by
  have ey := c.tb.es j y hj
  have hpa : PA X [a, .Name y px] (tCons (tS G W f) (tCons (tC (.ref (G.C j))) tNil)) := pa_cons ha (pa_cons (pe_glob (v := .ref (G.C j)) hgy ey.at_ rfl hdy) pa_nil rfl) (nsB_ok hn _ X.env)
  refine (pe_callB (cr_isX (G := G) c.K) b.g b.m (by decide +kernel) hpa b.n b.d (nsB_ok hn _ X.env) rfl).imp fun σ H Q q => go_isx (u := .ref (G.C j)) (e2 := a) (te := tC .non) (uv := .ref (G.C j)) (fun z hz => hz) (fun k hk => ?_) (isx_dict (.inl ⟨j, rfl⟩)) q
  obtain ⟨z, hz⟩ := hal k hk
  refine ⟨subE k j, ?_, (c.tb.isx hxi k z hz).1, (c.tb.isx hxi k z hz).2.2 j y hj⟩
  show (if ((k : Int)).toNat < 7 then some (subE ((k : Int)).toNat j) else none) = _
  rw [Int.toNat_natCast, if_pos hk]
theorem de_isv {px : Pos} (c : XOk G T X W n) (bv : BlT X "ValueError") (b : BlT X "isinstance") (ha : PE X a (tS G W f)) (hn : nsB a = true) (hal : allE T) (hxi : T.xi = true) :
    PE X (.Call (.Name "isinstance" p) [a, .Name "ValueError" px] [] pos) (tD G W fun δ => M.bnd (f δ) fun d => M.opt ((isiD .ve d).map .bool)) := by
  have hpa : PA X [a, .Name "ValueError" px] (tCons (tS G W f) (tCons (tC (.ty "ValueError")) tNil)) := pa_cons ha (pa_cons (pe_bltn bv.g bv.m (by decide +kernel) rfl bv.n bv.d) pa_nil rfl) (nsB_ok hn _ X.env)
  refine (pe_callB (cr_isX (G := G) c.K) b.g b.m (by decide +kernel) hpa b.n b.d (nsB_ok hn _ X.env) rfl).imp fun σ H Q q => go_isx (u := .ty "ValueError") (e2 := a) (te := tC .non) (uv := .type "ValueError") (fun z hz => hz) (fun k hk => ?_) (isx_dict (.inr rfl)) q
  obtain ⟨z, hz⟩ := hal k hk
  refine ⟨true, ?_, (c.tb.isx hxi k z hz).1, (c.tb.isx hxi k z hz).2.1⟩
  show (if ((k : Int)).toNat < 7 then some true else none) = _
  rw [Int.toNat_natCast, if_pos hk]
end
end PyD

namespace PyD
open PySem PySem.Spec PyProof.Rows L2
section
variable {G : Gx} {T : Tb} {X : Cx} {W : WX} {n : Nat}
theorem insI_mem (x : Int) : ∀ (l : List Int) (k : Int), k ∈ insI x l ↔ k = x ∨ k ∈ l
  | [], k => by simp [insI]
  | y :: ys, k => by
    unfold insI
    split
    · simp
    · split
      · rename_i h
        subst h
        simp
      · rw [List.mem_cons, insI_mem x ys k, List.mem_cons]
        constructor
        · rintro (h | h | h) <;> simp [h]
        · rintro (h | h | h) <;> simp [h]
theorem setI_mem : ∀ (l : List Int) (k : Int), k ∈ setI l ↔ k ∈ l
  | [], k => by simp [setI]
  | x :: xs, k => by
    unfold setI
    rw [insI_mem, setI_mem xs k, List.mem_cons]
theorem insI_sorted (x : Int) : ∀ {l : List Int}, l.Pairwise (· < ·) → (insI x l).Pairwise (· < ·)
  | [], _ => by simp [insI]
  | y :: ys, h => by
    have h' := List.pairwise_cons.mp h
    unfold insI
    split
    · rename_i hlt
      refine List.pairwise_cons.mpr ⟨fun z hz => ?_, h⟩
      rcases List.mem_cons.mp hz with e | e
      · rw [e]; exact hlt
      · exact Int.lt_trans hlt (h'.1 z e)
    · split
      · exact h
      · refine List.pairwise_cons.mpr ⟨fun z hz => ?_, insI_sorted x h'.2⟩
        rcases (insI_mem x ys z).mp hz with e | e
        · rw [e]; omega
        · exact h'.1 z e
theorem setI_sorted : ∀ l : List Int, (setI l).Pairwise (· < ·)
  | [] => List.Pairwise.nil
  | x :: xs => insI_sorted x (setI_sorted xs)
theorem sorted_ext : ∀ {l l' : List Int}, l.Pairwise (· < ·) → l'.Pairwise (· < ·) → (∀ k, k ∈ l ↔ k ∈ l') → l = l'
  | [], [], _, _, _ => rfl
  | [], y :: ys, _, _, h => absurd ((h y).mpr List.mem_cons_self) (by simp)
  | x :: xs, [], _, _, h => absurd ((h x).mp List.mem_cons_self) (by simp)
  | x :: xs, y :: ys, h1, h2, h => by
    have p1 := List.pairwise_cons.mp h1
    have p2 := List.pairwise_cons.mp h2
    have e : x = y := by
      rcases List.mem_cons.mp ((h x).mp List.mem_cons_self) with e | e
      · exact e
      · rcases List.mem_cons.mp ((h y).mpr List.mem_cons_self) with e' | e'
        · exact e'.symm
        · have := p1.1 y e'
          have := p2.1 x e
          omega
    subst e
    refine congrArg (x :: ·) (sorted_ext p1.2 p2.2 fun k => ?_)
    constructor
    · intro hk
      rcases List.mem_cons.mp ((h k).mp (List.mem_cons_of_mem _ hk)) with e | e
      · have := p1.1 k hk
        omega
      · exact e
    · intro hk
      rcases List.mem_cons.mp ((h k).mpr (List.mem_cons_of_mem _ hk)) with e | e
      · have := p2.1 k hk
        omega
      · exact e
theorem setR_card {w : World} {h : Heap} {a : Addr} {ns : List Int} {c : Nat} (R : SetR w h a (fun j => decide (j ∈ ns)) c) : c = (setI ns).length := by
  obtain ⟨o, es, ep, t, _, _, _, _, nd, hm, _, _, hn, _⟩ := R
  have p : (es.toList.map keyOf).Perm (setI ns) := (List.perm_ext_iff_of_nodup nd ((setI_sorted ns).imp fun {x y} h e => by omega)).mpr fun k => by
    rw [← hm k, decide_eq_true_eq, setI_mem]
  have l := p.length_eq
  rw [List.length_map, Array.length_toList] at l
  omega
def rSetT (K : PySem.W.Frag) (w : World) : List V → Hp → VK → Prop := fun vs H Q => ∃ (p : Addr) (ns : List Int), vs = [.ref p] ∧ (SqT K H p (ns.map V.int) ∨ SqL K H p (ns.map V.int)) ∧ ns.length ≤ 4000 ∧ ∀ (a : Addr) (c : Nat), H a = none → c = (setI ns).length → Q (.ref a) (upd H a (SetO w a (fun j => decide (j ∈ ns)) c))
theorem cr_setT (hc : X.calm = true) : CallR X (.type "set") (rSetT X.K X.w) := by
  intro pins s σ H vs us Q I r h
  obtain ⟨p, ns, rfl, hq, hl, q⟩ := h
  rw [Vals.ref1 r]
  rcases hq with hq | hq
  · obtain ⟨its, rv, pt, hz⟩ := I.tuple hq
    have hi : IntsAre its.toArray.toList ns := ints_of_vals rv
    refine call_set_tupI ns (I.ok.hd hc) (show s.heap.IsTuple p its.toArray from pt) hi (by unfold scanBound; omega) fun h' tk c R1 hcn k => ?_
    exact ⟨.ref s.heap.objs.size, _, I.laid (t' := tk) k (Nat.le_refl _) (setO_new R1), rfl, q _ c (I.hok.fresh (Nat.le_refl _)) (setR_card R1)⟩
  · obtain ⟨its, rv, pt, hz⟩ := I.list hq
    have hi : IntsAre its.toArray.toList ns := ints_of_vals rv
    refine call_set_lstI ns (I.ok.hd hc) pt.isList hi (by unfold scanBound; omega) fun h' tk c R1 k => ?_
    exact ⟨.ref s.heap.objs.size, _, I.laid (t' := tk) k (Nat.le_refl _) (setO_new R1), rfl, q _ c (I.hok.fresh (Nat.le_refl _)) (setR_card R1)⟩
theorem do_srs {a : Expr} {f : En → M PyData} {p p2 q pos : Pos} (c : XOk G T X W n) (b : BlT X "sorted") (b2 : BlT X "set") (ha : PE X a (tS G W f)) (h1 : nsB a = true) :
    PE X (.Call (.Name "sorted" p) [.Call (.Name "set" p2) [a] [] q] [] pos) (tO G W fun δ => M.bnd (f δ) fun d => M.opt (srsD d)) := by
  have h2 : PE X (.Call (.Name "set" p2) [a] [] q) (tCB (rSetT G.K X.w) (tCons (tS G W f) tNil)) := by
    rw [← c.K]
    exact pe_callTy (cr_setT c.calm) b2.g b2.m PyProof.Rows.boot_set (pa_cons ha pa_nil (nsB_ok h1 [] X.env)) b2.n b2.d (nsB_ok h1 [] X.env) rfl
  refine (pe_callB (cr_sortedSet c.calm) b.g b.m (by decide +kernel) (pa_cons h2 pa_nil rfl) b.n b.d rfl rfl).imp fun σ H Q ⟨w, S, δ, e, k, er, q⟩ => ?_
  refine ⟨w, S, δ, e, k, er, (RQ.bnd q).imp fun w1 S1 dx a1 k1 _ q1 x rx => ?_⟩
  obtain ⟨d, e2, q2⟩ := RQ.opt' k1 q1
  have main : ∀ (p0 : Addr) (ns : List Int), x = .ref p0 → (SqT G.K w1.H p0 (ns.map V.int) ∨ SqL G.K w1.H p0 (ns.map V.int)) → (setI ns).length ≤ 60 ∧ ns.length ≤ 4000 → d = .list ((setI ns).map .int) → rSetT G.K X.w [x] w1.H fun v H1 => rSortedSet X.w [v] H1 Q := by
    intro p0 ns ex hs hl ed
    subst ed
    refine ⟨p0, ns, by rw [ex], hs, hl.2, fun a cc ha hcc => ?_⟩
    have a2 := Adv.new1 (o := SetO X.w a (fun j => decide (j ∈ ns)) cc) k1 ha
    have k2 := k1.new1 (o := SetO X.w a (fun j => decide (j ∈ ns)) cc) ha
    refine ⟨a, _, cc, rfl, upd_same, by omega, fun ns' p' hs hm hln hp => ?_⟩
    have e5 : ns' = setI ns := sorted_ext hs (setI_sorted ns) fun j => by rw [hm, decide_eq_true_eq, setI_mem]
    have hz : (ns'.map V.int).length ≤ sizeLine := by
      rw [List.length_map, hln, sizeLine_eq]
      omega
    obtain ⟨a3, k3, o3⟩ := new_own (vs := ns'.map V.int) (ds := (setI ns).map .int) k2 hp hz (by rw [e5]; exact RepL.of_ints _)
    obtain ⟨es, e6, q3⟩ := q2 _ (a2.trans a3) k3
    cases e6
    exact q3 p' _ ((o3.from a2).from a1)
  cases dx <;> try (cases e2; done)
  all_goals
    rename_i xs
    obtain ⟨ns, e3, e4⟩ := Option.bind_eq_some_iff.mp e2
    split at e4
    · rename_i hl
      cases e4
      rw [intsD_eq e3] at rx
      first
        | (obtain ⟨p0, vs, rfl, z1, r1, g1⟩ := rx.tup
           rw [r1.ints] at g1
           exact main p0 ns rfl (.inl (.inl (.inl (g1 w1 (Adv.refl w1))))) hl rfl)
        | (obtain ⟨p0, vs, rfl, z1, r1, g1⟩ := rx.list
           rw [r1.ints] at g1
           exact main p0 ns rfl (.inr (.inl (.inl (g1 w1 (Adv.refl w1))))) hl rfl)
    · cases e4
theorem rangeD_some {i j : Int} {ds : List PyData} (h : rangeD i j = some ds) : RgOk i j ∧ (rgV i j).length ≤ sizeLine ∧ ∀ st H, RepL G st H (rgV i j) ds := by
  unfold rangeD at h
  split at h
  · rename_i hb
    cases h
    simp only [Bool.and_eq_true, decide_eq_true_eq] at hb
    refine ⟨⟨by omega, by omega, by omega, by omega, by omega⟩, ?_, fun st H => ?_⟩
    · rw [rgV_length, sizeLine_eq]
      omega
    · unfold rgV
      generalize (List.range (j - i).toNat) = l
      induction l with
      | nil => exact .nil
      | cons x xs ih => exact .cons (.int _) ih
  · cases h
theorem rangeI_some {a b : PyData} {ds : List PyData} (h : rangeI a b = some ds) : ∃ i j, a = .int i ∧ b = .int j ∧ rangeD i j = some ds := by
  unfold rangeI at h
  split at h
  · exact ⟨_, _, rfl, rfl, h⟩
  · cases h
theorem do_lrg {a : Expr} {f : En → M PyData} {p p2 q pos : Pos} (c : XOk G T X W n) (b : BlT X "list") (b2 : BlT X "range") (ha : PE X a (tS G W f)) (h1 : nsB a = true) :
    PE X (.Call (.Name "list" p) [.Call (.Name "range" p2) [a] [] q] [] pos) (tO G W fun δ => M.bnd (f δ) fun d => M.opt ((rangeI (.int 0) d).map .list)) :=
  (pe_listRg c.calm b.g b.m (prg_1 b2.g b2.m ha (nsB_ok h1 [] X.env))).imp fun σ H Q ⟨w, S, δ, e, k, er, q⟩ => by
    refine ⟨w, S, δ, e, k, er, (RQ.bnd q).imp fun w1 S1 dx a1 k1 _ q1 x rx => ?_⟩
    obtain ⟨d, e2, q2⟩ := RQ.opt' k1 q1
    obtain ⟨ds, e3, rfl⟩ := Option.map_eq_some_iff.mp e2
    obtain ⟨i, j, e4, rfl, e5⟩ := rangeI_some e3
    cases e4
    obtain ⟨h2, h3, h4⟩ := rangeD_some (G := G) e5
    refine ⟨j, rx.int, h2, fun p hp => ?_⟩
    obtain ⟨a3, k3, o3⟩ := new_own (ds := ds) k1 hp h3 (h4 _ _)
    obtain ⟨es, e6, q3⟩ := q2 _ a3 k3
    cases e6
    exact q3 p _ (o3.from a1)
theorem do_lrg2 {a a' : Expr} {f f' : En → M PyData} {p p2 q pos : Pos} (c : XOk G T X W n) (b : BlT X "list") (b2 : BlT X "range") (ha : PE X a (tS G W f)) (ha' : PE X a' (tS G W f')) (h1 : nsB a = true) (h1' : nsB a' = true) :
    PE X (.Call (.Name "list" p) [.Call (.Name "range" p2) [a, a'] [] q] [] pos) (tO G W fun δ => M.bnd (f δ) fun x => M.bnd (f' δ) fun y => M.opt ((rangeI x y).map .list)) :=
  (pe_listRg c.calm b.g b.m (prg_2 b2.g b2.m ha ha' (nsB_ok h1 [a'] X.env) (nsB_ok h1' [] X.env) (nsB_any (by rw [List.all_cons, h1'] <;> rfl)))).imp fun σ H Q h =>
    go2 hP_O h fun w S x y dx dy d k rx ry e q => by
      obtain ⟨ds, e3, rfl⟩ := Option.map_eq_some_iff.mp e
      obtain ⟨i, j, rfl, rfl, e5⟩ := rangeI_some e3
      obtain ⟨h2, h3, h4⟩ := rangeD_some (G := G) e5
      refine ⟨i, j, rx.int, ry.int, h2, fun p hp => ?_⟩
      obtain ⟨a3, k3, o3⟩ := new_own (ds := ds) k hp h3 (h4 _ _)
      obtain ⟨es, e6, q3⟩ := q _ a3 k3
      cases e6
      exact q3 p _ o3
theorem de_trg {a : Expr} {f : En → M PyData} {p p2 q pos : Pos} (c : XOk G T X W n) (b : BlT X "tuple") (b2 : BlT X "range") (ha : PE X a (tS G W f)) (h1 : nsB a = true) :
    PE X (.Call (.Name "tuple" p) [.Call (.Name "range" p2) [a] [] q] [] pos) (tD G W fun δ => M.bnd (f δ) fun d => M.opt ((rangeI (.int 0) d).map .tuple)) :=
  (pe_tupRg c.calm b.g b.m (prg_1 b2.g b2.m ha (nsB_ok h1 [] X.env))).imp fun σ H Q ⟨w, S, δ, e, k, er, q⟩ => by
    refine ⟨w, S, δ, e, k, er, (RQ.bnd q).imp fun w1 S1 dx a1 k1 _ q1 x rx => ?_⟩
    obtain ⟨d, e2, q2⟩ := RQ.opt' k1 q1
    obtain ⟨ds, e3, rfl⟩ := Option.map_eq_some_iff.mp e2
    obtain ⟨i, j, e4, rfl, e5⟩ := rangeI_some e3
    cases e4
    obtain ⟨h2, h3, h4⟩ := rangeD_some (G := G) e5
    refine ⟨j, rx.int, h2, fun p hp => ?_⟩
    obtain ⟨a3, k3, r3⟩ := new_tup (ds := ds) k1 hp h3 (h4 _ _)
    exact q2 _ a3 k3 _ r3
variable {a b : Expr} {fa fb : En → M PyData} {pos p2 : Pos}
theorem de_idx (c : XOk G T X W n) (ha : PE X a (tS G W fa)) (hb : PE X b (tS G W fb)) (hs : nslB b = true) : PE X (.Subscript a b pos) (tD G W fun δ => M.bnd (fa δ) fun x => M.bnd (fb δ) fun y => M.opt (idxD x y)) := by
  have h : IxR X (rIx G.K) := by rw [← c.K]; exact ix_seq
  exact (pe_ix h ha hb (nslB_ok hs)).imp fun _ _ _ q => go_op os_idx q
def tP (G : Gx) (W : WX) (f : En → M (Option Int)) : TO := fun σ H Q => Go G W f σ H fun _ w' _ o => Q o w'.H
theorem _root_.L2.PO.imp {X : Cx} {e : Option Expr} {t t' : TO} (h : PO X e t) (i : ∀ σ H Q, t' σ H Q → t σ H Q) : PO X e t' := ⟨fun pins s σ H Q I q => h.run pins s σ H Q I (i σ H Q q)⟩
theorem dp_none : PO X none (tP G W fun _ => M.ret none) := po_none.imp fun σ H Q ⟨w, S, δ, e, k, er, q⟩ => by
  subst e
  exact q w (Adv.refl w) k
abbrev prtF (f : En → M PyData) : En → M (Option Int) := fun δ => M.bnd (f δ) fun d => match d with
  | .int i => M.ret (some i)
  | _ => M.bad
theorem dp_some (h : PE X a (tS G W fa)) : PO X (some a) (tP G W (prtF fa)) := (po_some h).imp fun σ H Q ⟨w, S, δ, e, k, er, q⟩ => by
  refine ⟨w, S, δ, e, k, er, (RQ.bnd q).imp fun w1 S1 d a1 k1 _ q1 v rv => ?_⟩
  cases d <;> try (exact q1.elim)
  exact ⟨_, rv.int, q1 w1 (Adv.refl w1) k1⟩
abbrev rSlA (K : PySem.W.Frag) : V → Option Int → Option Int → Hp → VK → Prop := fun x lo hi H Q => rSlL K x lo hi H Q ∨ rSlS x lo hi H Q
abbrev slcF (fa : En → M PyData) (fl fh : En → M (Option Int)) : En → M PyData := fun δ => M.bnd (fa δ) fun x => M.bnd (fl δ) fun l => M.bnd (fh δ) fun h => M.opt (slcD l h x)
theorem cut_rep {st : List SA} {H : Hp} {vs : List V} {ds : List PyData} (r : RepL G st H vs ds) (lo hi : Option Int) : RepL G st H (cutV vs lo hi) (cutD ds lo hi) := by
  unfold cutV cutD
  rw [← r.length]
  exact (r.drop _).take _
theorem go_slc {lo hi : Option Expr} {fl fh : En → M (Option Int)} {P : Wd → Wd → Store → PyData → Prop} (hP : ∀ w w1 w' S b, Adv w w1 → P w w' S b → P w1 w' S b) {σ : L2.St} {H : Hp} {R : V → Option Int → Option Int → Hp → Prop}
    (h : Go G W (slcF fa fl fh) σ H P) (q : ∀ w S x dx l u d, Ok G w S → RepS G w x dx → slcD l u dx = some d → (∀ w', Adv w w' → Ok G w' S → P w w' S d) → R x l u w.H) :
    tS G W fa σ H fun x H1 => tP G W fl σ H1 fun l H2 => tP G W fh σ H2 fun u H3 => R x l u H3 := by
  obtain ⟨w, S, δ, e, k, er, h⟩ := h
  refine ⟨w, S, δ, e, k, er, (RQ.bnd h).imp fun w1 S1 dx a1 k1 _ h1 x rx => ?_⟩
  refine ⟨w1, S1, δ, rfl, k1, er.adv a1, (RQ.bnd h1).imp fun w2 S2 l a2 k2 _ h2 => ?_⟩
  refine ⟨w2, S2, δ, rfl, k2, (er.adv a1).adv a2, (RQ.bnd h2).imp fun w3 S3 u a3 k3 _ h3 => ?_⟩
  obtain ⟨d, e3, h4⟩ := RQ.opt' k3 h3
  exact q w3 S3 x dx l u d k3 (a3.repS (a2.repS rx)) e3 fun w' a k => hP _ _ _ _ _ ((a1.trans a2).trans a3) (h4 w' a k)
theorem do_slc {lo hi : Option Expr} {fl fh : En → M (Option Int)} (c : XOk G T X W n) (ha : PE X a (tS G W fa)) (hl : PO X lo (tP G W fl)) (hh : PO X hi (tP G W fh)) : PE X (.Subscript a (.Slice lo hi none p2) pos) (tO G W (slcF fa fl fh)) := by
  have hs : SlR X (rSlL G.K) := by rw [← c.K]; exact sl_list
  refine (pe_slice hs ha hl hh).imp fun σ H Q h => go_slc (lo := lo) (hi := hi) hP_O h fun w S x dx l u d k rx e q => ?_
  obtain ⟨es, rfl, _⟩ := q w (Adv.refl w) k
  cases dx <;> first
    | (cases e; done)
    | skip
  · exfalso
    have e' : (if _ then some (PyData.str _) else none) = some (PyData.list es) := e
    split at e' <;> cases e'
  · cases e
    obtain ⟨p0, vs, rfl, z1, r1, g1⟩ := rx.list
    refine ⟨p0, vs, rfl, .inl (.inl (g1 w (Adv.refl w))), fun p hp => ?_⟩
    obtain ⟨a3, k3, o3⟩ := new_own k hp (Nat.le_trans (cutV_length vs l u) z1) (cut_rep r1 l u)
    obtain ⟨es, e6, q3⟩ := q _ a3 k3
    cases e6
    exact q3 p _ o3
theorem de_slc {lo hi : Option Expr} {fl fh : En → M (Option Int)} (c : XOk G T X W n) (ha : PE X a (tS G W fa)) (hl : PO X lo (tP G W fl)) (hh : PO X hi (tP G W fh)) : PE X (.Subscript a (.Slice lo hi none p2) pos) (tD G W (slcF fa fl fh)) := by
  have hs : SlR X (rSlA G.K) := by rw [← c.K]; exact sl_list.or sl_str
  refine (pe_slice hs ha hl hh).imp fun σ H Q h => go_slc (lo := lo) (hi := hi) hP_D h fun w S x dx l u d k rx e q => ?_
  cases dx <;> first
    | (cases e; done)
    | skip
  · rename_i z
    have e' : (if z.length ≤ lineD then some (PyData.str ⟨(cutD z.cps.toList l u).toArray⟩) else none) = some d := e
    split at e'
    · rename_i hz
      cases e'
      exact .inr ⟨z, rx.str, lineD_le hz, q w (Adv.refl w) k _ (.str _)⟩
    · cases e'
  · cases e
    obtain ⟨p0, vs, rfl, z1, r1, g1⟩ := rx.list
    refine .inl ⟨p0, vs, rfl, .inl (.inl (g1 w (Adv.refl w))), fun p hp => ?_⟩
    obtain ⟨a3, k3, o3⟩ := new_own k hp (Nat.le_trans (cutV_length vs l u) z1) (cut_rep r1 l u)
    obtain ⟨a4, k4, r4⟩ := o3.show a3 k3
    exact q _ a4 k4 _ r4
abbrev revF (fa : En → M PyData) : En → M PyData := fun δ => M.bnd (fa δ) fun x => match x with
  | .list xs => M.ret (.list xs.reverse)
  | .tuple xs => M.ret (.tuple xs.reverse)
  | _ => M.bad
theorem do_rev {kk : Nat} {p1 p3 p4 : Pos} (c : XOk G T X W n) (ha : PE X a (tS G W fa)) : PE X (.Subscript a (.Slice none none (some (.UnaryOp .USub (.Constant (.int 1) kk p1) p3)) p4) pos) (tO G W (revF fa)) :=
  (pe_revA ha).imp fun σ H Q ⟨w, S, δ, e, k, er, q⟩ => by
    refine ⟨w, S, δ, e, k, er, (RQ.bnd q).imp fun w1 S1 dx a1 k1 _ q1 x rx => ?_⟩
    cases dx <;> try (exact q1.elim)
    · obtain ⟨p0, vs, rfl, z1, r1, g1⟩ := rx.list
      rw [c.K]
      refine ⟨p0, vs, rfl, .inl ⟨.inl (.inl (g1 w1 (Adv.refl w1))), fun p hp => ?_⟩⟩
      obtain ⟨a3, k3, o3⟩ := new_own k1 hp (by rw [List.length_reverse]; exact z1) r1.reverse
      obtain ⟨es, e6, q3⟩ := q1 _ a3 k3
      cases e6
      exact q3 p _ (o3.from a1)
    · obtain ⟨es, e6, q3⟩ := q1 _ (Adv.refl w1) k1
      cases e6
theorem de_rev {kk : Nat} {p1 p3 p4 : Pos} (c : XOk G T X W n) (ha : PE X a (tS G W fa)) : PE X (.Subscript a (.Slice none none (some (.UnaryOp .USub (.Constant (.int 1) kk p1) p3)) p4) pos) (tD G W (revF fa)) :=
  (pe_revA ha).imp fun σ H Q ⟨w, S, δ, e, k, er, q⟩ => by
    refine ⟨w, S, δ, e, k, er, (RQ.bnd q).imp fun w1 S1 dx a1 k1 _ q1 x rx => ?_⟩
    cases dx <;> try (exact q1.elim)
    · obtain ⟨p0, vs, rfl, z1, r1, g1⟩ := rx.list
      rw [c.K]
      refine ⟨p0, vs, rfl, .inl ⟨.inl (.inl (g1 w1 (Adv.refl w1))), fun p hp => ?_⟩⟩
      obtain ⟨a3, k3, o3⟩ := new_own k1 hp (by rw [List.length_reverse]; exact z1) r1.reverse
      obtain ⟨a4, k4, r4⟩ := o3.show a3 k3
      exact q1 _ a4 k4 _ r4
    · obtain ⟨p0, vs, rfl, z1, r1, g1⟩ := rx.tup
      rw [c.K]
      refine ⟨p0, vs, rfl, .inr ⟨.inl (.inl (g1 w1 (Adv.refl w1))), fun p hp => ?_⟩⟩
      obtain ⟨a3, k3, r3⟩ := new_tup k1 hp (by rw [List.length_reverse]; exact z1) r1.reverse
      exact q1 _ a3 k3 _ r3
def lnB (apos cpos : Pos) : Bool := apos.endLine == cpos.line
theorem few1 {o : Expr} (h1 : nsB o = true) (cpos : Pos) (env : Env) : ((backTo cpos (starEach [o] env)).all (fun x => !x.1) && (backToKw cpos (keywordEach [] env)).all (fun x => x.1.isSome)
      && decide (([o] : List Expr).length + ([] : List Keyword).length + (if ([] : List Keyword).isEmpty then 0 else 1) < 30)) = true := by
  rw [nsB_all (by rw [List.all_cons, h1] <;> rfl)]
  rfl
abbrev bmF (g : PyData → PyData → Option PyData) (fa fb : En → M PyData) : En → M PyData := fun δ => M.bnd (fa δ) fun x => match x with
  | .list xs => M.bnd (fb δ) fun y => M.opt (g (.list xs) y)
  | _ => M.bad
theorem go_bm {r : V → List V → Hp → VK → Prop} {g : PyData → PyData → Option PyData} (hr : ∀ (w : Wd) (S : Store) (x y : V) (ds : List PyData) (dy d : PyData) (Q : VK), Ok G w S → RepS G w x (.list ds) → RepS G w y dy → g (.list ds) dy = some d → (∀ v, RepW G w v d → Q v w.H) → r x [y] w.H Q)
    {σ : L2.St} {H : Hp} {Q : VK} (h : tD G W (bmF g fa fb) σ H Q) : tBM G.K "list" r (tS G W fa) (tCons (tS G W fb) tNil) σ H Q := by
  obtain ⟨w, S, δ, e, k, er, q⟩ := h
  refine ⟨w, S, δ, e, k, er, (RQ.bnd q).imp fun w1 S1 dx a1 k1 e1 q1 x rx => ?_⟩
  cases dx <;> try (exact q1.elim)
  refine ⟨?_, w1, S1, δ, rfl, k1, er.adv a1, (RQ.bnd q1).imp fun w2 S2 dy a2 k2 _ q2 y ry => ?_⟩
  · obtain ⟨p0, vs, rfl, z1, r1, g1⟩ := rx.list
    exact .inl ⟨rfl, vs, .inl (.inl (g1 w1 (Adv.refl w1)))⟩
  · obtain ⟨d, e3, q3⟩ := RQ.opt' k2 q2
    exact hr w2 S2 x y _ dy d Q k2 (a2.repS rx) ry e3 fun v rv => q3 w2 (Adv.refl w2) k2 v rv
theorem de_cnt {apos cpos : Pos} (c : XOk G T X W n) (ha : PE X a (tS G W fa)) (hb : PE X b (tS G W fb)) (h1 : nsB b = true) (h2 : atB a = true) (h3 : lnB apos cpos = true) :
    PE X (.Call (.Attribute a "count" apos) [b] [] cpos) (tD G W (bmF cntD fa fb)) := by
  have hm : MtR X "list.count" (rCntA G.K) := by rw [← c.K]; exact mt_cntA c.u65
  have hz : PE X (.Call (.Attribute a "count" apos) [b] [] cpos) (tBM G.K "list" (rCntA G.K) (tS G W fa) (tCons (tS G W fb) tNil)) := by
    have z := pe_bm (T := "list") PySem.F.plainAttrs_list PySem.F.slot_list_count PySem.F.type_list_count hm ha (pa_cons hb pa_nil (nsB_ok h1 [] X.env)) (atB_ok h2 _ _) (few1 h1 cpos X.env) h3 (nsB_ok h1 [] X.env) rfl
    rw [c.K] at z
    exact z
  refine hz.imp fun σ H Q q => go_bm (fun w S x y ds dy d Q k rx ry e q => ?_) q
  have e' : (if okD dy && ds.all okD then some (PyData.int (ds.countP fun y => PyData.eqv y dy)) else none) = some d := e
  split at e'
  · rename_i hok
    cases e'
    rw [Bool.and_eq_true] at hok
    exact ⟨y, dy, ds, rfl, rx.dpl (okAll hok.2).1, ry.dp (okD_plain hok.1), hok.1, hok.2, q _ (.int _)⟩
  · cases e'
theorem de_ind {apos cpos : Pos} (c : XOk G T X W n) (ha : PE X a (tS G W fa)) (hb : PE X b (tS G W fb)) (h1 : nsB b = true) (h2 : atB a = true) (h3 : lnB apos cpos = true) :
    PE X (.Call (.Attribute a "index" apos) [b] [] cpos) (tD G W (bmF indD fa fb)) := by
  have hm : MtR X "list.index" (rIndA G.K) := by rw [← c.K]; exact mt_indA c.u65
  have hz : PE X (.Call (.Attribute a "index" apos) [b] [] cpos) (tBM G.K "list" (rIndA G.K) (tS G W fa) (tCons (tS G W fb) tNil)) := by
    have z := pe_bm (T := "list") PySem.F.plainAttrs_list PySem.F.slot_list_index PySem.F.type_list_index hm ha (pa_cons hb pa_nil (nsB_ok h1 [] X.env)) (atB_ok h2 _ _) (few1 h1 cpos X.env) h3 (nsB_ok h1 [] X.env) rfl
    rw [c.K] at z
    exact z
  refine hz.imp fun σ H Q q => go_bm (fun w S x y ds dy d Q k rx ry e q => ?_) q
  have e' : (if okD dy && ds.all okD then (ds.findIdx? fun y => PyData.eqv y dy).map fun (j : Nat) => PyData.int (j : Nat) else none) = some d := e
  split at e'
  · rename_i hok
    rw [Bool.and_eq_true] at hok
    obtain ⟨j, e4, rfl⟩ := Option.map_eq_some_iff.mp e'
    exact ⟨y, dy, ds, j, rfl, rx.dpl (okAll hok.2).1, ry.dp (okD_plain hok.1), hok.1, hok.2, e4, q _ (.int _)⟩
  · cases e'
end
end PyD

namespace PyD
open PySem PySem.Spec PyProof.Rows L2
section
variable {G : Gx} {T : Tb} {X : Cx} {W : WX} {n : Nat} {a b : Expr} {fa fb : En → M PyData} {pos p2 : Pos}
theorem strsD_eq : ∀ {xs : List PyData} {ys : List Str}, strsD xs = some ys → xs = ys.map .str
  | [], ys, h => by cases h; rfl
  | x :: xs, ys, h => by
    cases x <;> try (simp [strsD] at h; done)
    obtain ⟨r, e1, rfl⟩ := Option.map_eq_some_iff.mp (show (strsD xs).map _ = some ys from h)
    rw [strsD_eq e1]
    rfl
theorem RepL.strs {st : List SA} {H : Hp} : ∀ {vs : List V} {ys : List Str}, RepL G st H vs (ys.map .str) → vs = ys.map V.str
  | _, [], r => by cases r; rfl
  | _, y :: ys, r => by
    cases r with
    | cons a b =>
      cases a
      rw [RepL.strs b]
      rfl
theorem RepL.of_strs {st : List SA} {H : Hp} : ∀ ys : List Str, RepL G st H (ys.map V.str) (ys.map .str)
  | [] => .nil
  | y :: ys => .cons (.str y) (RepL.of_strs ys)
abbrev stF (o : PyData → PyData → Option PyData) (fa fb : En → M PyData) : En → M PyData := fun δ => M.bnd (fa δ) fun x => match x with
  | .str s => M.bnd (fb δ) fun y => M.opt (o (.str s) y)
  | _ => M.bad
theorem go_st {o : PyData → PyData → Option PyData} {P : Wd → Wd → Store → PyData → Prop} (hP : ∀ w w1 w' S b, Adv w w1 → P w w' S b → P w1 w' S b) {r : V → List V → Hp → VK → Prop} {σ : L2.St} {H : Hp} {Q : VK} (h : Go G W (stF o fa fb) σ H P)
    (q : ∀ w S s y dy d, Ok G w S → RepS G w y dy → o (.str s) dy = some d → (∀ w', Adv w w' → Ok G w' S → P w w' S d) → r (.str s) [y] w.H Q) : tM1 r (tS G W fa) (tS G W fb) σ H Q := by
  obtain ⟨w, S, δ, e, k, er, h⟩ := h
  refine ⟨w, S, δ, e, k, er, (RQ.bnd h).imp fun w1 S1 dx a1 k1 _ h1 x rx => ?_⟩
  cases dx <;> try (exact h1.elim)
  rename_i s _
  have ex := rx.str
  subst ex
  refine ⟨⟨s, rfl⟩, w1, S1, δ, rfl, k1, er.adv a1, (RQ.bnd h1).imp fun w2 S2 dy a2 k2 _ h2 y ry => ?_⟩
  obtain ⟨d, e3, h3⟩ := RQ.opt' k2 h2
  exact q w2 S2 s y dy d k2 ry e3 fun w' a k => hP _ _ _ _ _ (a1.trans a2) (h3 w' a k)
theorem de_joi {apos cpos : Pos} (c : XOk G T X W n) (ha : PE X a (tS G W fa)) (hb : PE X b (tS G W fb)) (h1 : nsB b = true) (h2 : atB a = true) (h3 : lnB apos cpos = true) :
    PE X (.Call (.Attribute a "join" apos) [b] [] cpos) (tD G W (stF joiD fa fb)) := by
  refine (pe_join ha hb (nsB_ok h1 [] X.env) (atB_ok h2 _ _) h3).imp fun σ H Q h => go_st hP_D h fun w S s y dy d k ry e q => ?_
  rw [c.K]
  have main : ∀ (p : Addr) (ys : List Str), y = .ref p → (SqL G.K w.H p (ys.map V.str) ∨ SqT G.K w.H p (ys.map V.str)) → (ys.map (·.length)).sum + ys.length * s.length ≤ lineD → d = .str (Txt.join s ys) →
      ∃ a p, ∃ ys : List Str, V.str s = .str a ∧ [y] = [.ref p] ∧ (SqL G.K w.H p (ys.map V.str) ∨ SqT G.K w.H p (ys.map V.str)) ∧ (ys.map (·.length)).sum + ys.length * a.length ≤ 16777216 ∧ Q (.str (Txt.join a ys)) w.H := by
    intro p ys ey hs hl ed
    subst ed
    exact ⟨s, p, ys, rfl, by rw [ey], hs, Nat.le_trans hl (by decide), q w (Adv.refl w) k _ (.str _)⟩
  cases dy <;> try (simp [joiD] at e; done)
  all_goals
    rename_i xs
    obtain ⟨ys, e3, e4⟩ := Option.bind_eq_some_iff.mp e
    split at e4
    · rename_i hl
      cases e4
      rw [strsD_eq e3] at ry
      first
        | (obtain ⟨p0, vs, rfl, z1, r1, g1⟩ := ry.list
           rw [r1.strs] at g1
           exact main p0 ys rfl (.inl (.inl (.inl (g1 w (Adv.refl w))))) hl rfl)
        | (obtain ⟨p0, vs, rfl, z1, r1, g1⟩ := ry.tup
           rw [r1.strs] at g1
           exact main p0 ys rfl (.inr (.inl (.inl (g1 w (Adv.refl w))))) hl rfl)
    · cases e4
theorem do_spl {apos cpos : Pos} (c : XOk G T X W n) (ha : PE X a (tS G W fa)) (hb : PE X b (tS G W fb)) (h1 : nsB b = true) (h2 : atB a = true) (h3 : lnB apos cpos = true) :
    PE X (.Call (.Attribute a "split" apos) [b] [] cpos) (tO G W (stF splD fa fb)) := by
  refine (pe_split ha hb (nsB_ok h1 [] X.env) (atB_ok h2 _ _) h3).imp fun σ H Q h => go_st hP_O h fun w S s y dy d k ry e q => ?_
  cases dy <;> try (simp [splD] at e; done)
  rename_i t
  have ey := ry.str
  subst ey
  have e' : (if (t.length == 0) = false ∧ s.length ≤ 1000 ∧ (Txt.split s t).length ≤ 2000 then some (PyData.list ((Txt.split s t).map .str)) else none) = some d := e
  split at e'
  · rename_i hl
    cases e'
    refine ⟨s, t, rfl, rfl, hl.1, by rw [sizeLine_eq]; omega, fun p hp => ?_⟩
    obtain ⟨a3, k3, o3⟩ := new_own (vs := (Txt.split s t).map V.str) (ds := (Txt.split s t).map .str) k hp (by rw [List.length_map, sizeLine_eq]; omega) (RepL.of_strs _)
    obtain ⟨es, e6, q3⟩ := q _ a3 k3
    cases e6
    exact q3 p _ o3
  · cases e'
abbrev fsF (z : Str) (fa fb : En → M PyData) : En → M PyData := fun δ => if z.length ≤ 1000 then (M.bnd (fa δ) fun x => M.bnd (M.opt (fmtD x)) fun s => M.bnd (fb δ) fun y => M.bnd (M.opt (fmtD y)) fun t => M.ret (.str (Str.empty ++ s ++ z ++ t))) else M.bad
theorem tok_str {y : Str} (h : y.length ≤ 1000) : y.length ≤ sizeLine := by rw [sizeLine_eq]; omega
theorem go_fmt {σ : L2.St} {H : Hp} {Q : VK} {fa : En → M PyData} {R : En → Str → M PyData} {P : Wd → Wd → Store → PyData → Prop} (hP : ∀ w w1 w' S b, Adv w w1 → P w w' S b → P w1 w' S b)
    (h : Go G W (fun δ => M.bnd (fa δ) fun x => M.bnd (M.opt (fmtD x)) fun s => R δ s) σ H P) (q : ∀ (s : Str) (H1 : Hp), s.length ≤ 1000 → Go G W (fun δ => R δ s) σ H1 P → Q (.str s) H1) :
    tFmt (tS G W fa) σ H Q := by
  obtain ⟨w, S, δ, e, k, er, h⟩ := h
  refine ⟨w, S, δ, e, k, er, (RQ.bnd h).imp fun w1 S1 dx a1 k1 _ h1 x rx => ?_⟩
  obtain ⟨s, e3, h3⟩ := RQ.opt' k1 (RQ.bnd h1)
  have g : Go G W (fun δ => R δ s) σ w1.H P := by
    have z := h3 w1 (Adv.refl w1) k1
    exact ⟨w1, S1, δ, rfl, k1, er.adv a1, z.imp fun w' S' d a k _ p => hP _ _ _ _ _ a1 p⟩
  cases dx <;> try (simp [fmtD] at e3; done)
  · rename_i i _
    have e4 : (if i.natAbs < 2 ^ 64 ∧ (strI i).length ≤ 1000 then some (strI i) else none) = some s := e3
    split at e4
    · rename_i hl
      cases e4
      refine .inr ⟨i, rx.int, ?_, q _ _ hl.2 g⟩
      have : i.natAbs.log2 < 64 := by
        by_cases h0 : i.natAbs = 0
        · rw [h0]; decide
        · exact (Nat.log2_lt h0).mpr hl.1
      omega
    · cases e4
  · rename_i y _
    have e4 : (if y.length ≤ 1000 then some y else none) = some s := e3
    split at e4
    · rename_i hl
      cases e4
      exact .inl ⟨_, rx.str, tok_str hl, q _ _ hl g⟩
    · cases e4
theorem len_ap (x y : Str) : (x ++ y).length = x.length + y.length := by
  show (Str.append x y).length = _
  simp [Str.append, Str.length]
theorem go_fs3 {z : Str} {σ : L2.St} {H : Hp} {Q : VK} (h : tD G W (fsF z fa fb) σ H Q) : tJs [tFmt (tS G W fa), tC (.str z), tFmt (tS G W fb)] Str.empty σ H fun out H1 => Q (.str out) H1 := by
  by_cases hz : z.length ≤ 1000
  · have h' : tD G W (fun δ => M.bnd (fa δ) fun x => M.bnd (M.opt (fmtD x)) fun s => M.bnd (fb δ) fun y => M.bnd (M.opt (fmtD y)) fun t => M.ret (.str (Str.empty ++ s ++ z ++ t))) σ H Q := by
      obtain ⟨w, S, δ, e, k, er, q⟩ := h
      rw [show fsF z fa fb δ = _ from if_pos hz] at q
      exact ⟨w, S, δ, e, k, er, q⟩
    refine go_fmt hP_D (R := fun δ s => M.bnd (fb δ) fun y => M.bnd (M.opt (fmtD y)) fun t => M.ret (.str (Str.empty ++ s ++ z ++ t))) h' fun s H1 hs h1 => ?_
    have e0 : (Str.empty ++ s).length ≤ 1000 := by rw [len_ap]; show 0 + s.length ≤ 1000; omega
    refine ⟨s, rfl, tok_str e0, z, rfl, by rw [len_ap, sizeLine_eq]; omega, ?_⟩
    refine go_fmt hP_D (R := fun δ t => M.ret (.str (Str.empty ++ s ++ z ++ t))) h1 fun t H2 ht h2 => ?_
    refine ⟨t, rfl, by rw [len_ap, len_ap, sizeLine_eq]; omega, ?_⟩
    obtain ⟨w, S, δ, e, k, er, q⟩ := h2
    subst e
    exact q w (Adv.refl w) k _ (.str _)
  · obtain ⟨w, S, δ, e, k, er, q⟩ := h
    rw [show fsF z fa fb δ = _ from if_neg hz] at q
    exact q.elim
theorem de_fs3 {z : Str} {kk : Nat} {p1 p2 p3 pos : Pos} (ha : PE X a (tS G W fa)) (hb : PE X b (tS G W fb)) : PE X (.JoinedStr [.FormattedValue a (-1) none p1, .Constant (.str z) kk p2, .FormattedValue b (-1) none p3] pos) (tD G W (fsF z fa fb)) :=
  (pe_joined (.cons (pe_fmt ha) (.cons pe_str (.cons (pe_fmt hb) .nil)))).imp fun σ H Q h => go_fs3 h
end
end PyD

namespace PyD
open PySem PySem.Spec PyProof.Rows L2
section
variable {G : Gx} {w w' w0 : Wd} {S : Store} {k : Nat} {as : SA} {p : Addr} {o : HO} {ob : SObj}
/-- hidden objects in sight for a while -/
def Wd.revA (w' w : Wd) (A : Addr → Prop) : Wd := ⟨fun b => w'.hs b ∨ A b, w.st, w'.H⟩
theorem revA_ok {A : Addr → Prop} (hA : ∀ b, A b → w.hs b) (k : Ok G w S) (a : Adv (w.bare.sub A) w') (k' : Ok G w' []) : Adv w (w'.revA w A) ∧ Ok G (w'.revA w A) S := by
  have same : ∀ b, w.hs b → w'.H b = w.H b := fun b h => by
    by_cases q : A b
    · cases e : w.H b with
      | none => exact absurd e (k.ne b h)
      | some o => exact a.keep b o (fun z => z.2 q) e
    · exact a.own b ⟨h, q⟩ (by simp [Wd.bare, Wd.sub, adr])
  have sub : ∀ b, w.hs b → (w'.revA w A).hs b := fun b h => by
    by_cases q : A b
    · exact .inr q
    · exact .inl (a.sub b ⟨h, q⟩)
  have new : ∀ b, (w'.revA w A).hs b → ¬ w.hs b → w.H b = none := fun b h n => by
    rcases h with h | h
    · exact a.new b h fun z => n z.1
    · exact absurd (hA b h) n
  have keep : ∀ b o, ¬ w.hs b → w.H b = some o → (w'.revA w A).H b = some o := fun b o h e => a.keep b o (fun z => h z.1) e
  have AA : Adv w (w'.revA w A) := ⟨⟨[], (List.append_nil _).symm⟩, sub, new, keep, fun b h _ => same b h, fun b h n => absurd h n⟩
  refine ⟨AA, ⟨fun b h => ?_, k.len, fun j as o h1 h2 => ?_, fun b h => sub b (k.hid b h), k.nd⟩⟩
  · rcases h with h | h
    · exact k'.ne b h
    · show w'.H b ≠ none
      rw [same b (hA b h)]
      exact k.ne b (hA b h)
  · exact (k.obj j as o h1 h2).imp (fun b hb => same b (k.hid b (mem_adr h1 hb))) AA.vis ⟨[], (List.append_nil _).symm⟩
/-- a store's object is written -/
theorem st_put (ok : Ok G w S) (h1 : w.st[k]? = some as) (hp : p ∈ as) (hr : SObjR G (w.put p o) as ob) : Adv w (w.put p o) ∧ Ok G (w.put p o) (S.set k ob) := by
  have ha : p ∈ adr w.st := mem_adr h1 hp
  have out : ∀ x, x ∉ adr w.st → upd w.H p o x = w.H x := fun x hx => upd_ne fun e => hx (by rw [e]; exact ha)
  have adv : Adv w (w.put p o) := ⟨⟨[], (List.append_nil _).symm⟩, fun _ h => h, fun x h n => absurd h n, fun x u n h => (out x fun z => n (ok.hid x z)).trans h, fun x _ n => out x n, fun x h n => absurd h n⟩
  refine ⟨adv, ⟨fun x h => ?_, by rw [List.length_set]; exact ok.len, fun j bs ob' e1 e2 => ?_, ok.hid, ok.nd⟩⟩
  · show upd w.H p o x ≠ none
    by_cases e : x = p
    · rw [e, upd_same]
      exact fun z => by cases z
    · rw [upd_ne e]
      exact ok.ne x h
  · have e1' : w.st[j]? = some bs := e1
    by_cases e : j = k
    · subst e
      rw [h1] at e1'
      cases e1'
      rw [List.getElem?_set_self (by rw [← ok.len]; exact (List.getElem?_eq_some_iff.mp h1).1)] at e2
      cases e2
      exact hr
    · rw [List.getElem?_set_ne (fun z => e z.symm)] at e2
      have dis := adr_disj ok.nd e1' h1 e
      exact (ok.obj j bs ob' e1' e2).imp (fun x hx => upd_ne fun q => dis x hx (by rw [q]; exact hp)) adv.vis ⟨[], (List.append_nil _).symm⟩
/-- hidden objects become the store's -/
def Wd.reg (w : Wd) (as : SA) : Wd := ⟨w.hs, w.st ++ [as], w.H⟩
theorem Adv.reg (a : Adv w0 w) (h : ∀ b ∈ as, ¬ w0.hs b) : Adv w0 (w.reg as) where
  st := by
    obtain ⟨m, e⟩ := a.st
    exact ⟨m ++ [as], by show w.st ++ [as] = _; rw [e, List.append_assoc]⟩
  sub := a.sub
  new := a.new
  keep := a.keep
  own := a.own
  fresh := fun b hb n => by
    have h' : b ∈ (w.st ++ [as]).flatten := hb
    rw [List.flatten_append, List.mem_append] at h'
    rcases h' with h' | h'
    · exact a.fresh b h' n
    · exact h b (by simpa using h')
theorem Ok.reg (ok : Ok G w S) (h1 : ∀ b ∈ as, w.hs b) (h2 : ∀ b ∈ as, b ∉ adr w.st) (nd : as.Nodup) (hr : SObjR G w as ob) : Ok G (w.reg as) (S ++ [ob]) := by
  have vs : ∀ b o, vis w.hs w.H b = some o → vis (w.reg as).hs (w.reg as).H b = some o := fun _ _ h => h
  refine ⟨ok.ne, ?_, fun j bs ob' e1 e2 => ?_, fun b hb => ?_, ?_⟩
  · show (w.st ++ [as]).length = _
    rw [List.length_append, List.length_append, ok.len]
    rfl
  · by_cases ej : j < w.st.length
    · have e1' : w.st[j]? = some bs := by
        have z : (w.st ++ [as])[j]? = some bs := e1
        rw [List.getElem?_append_left ej] at z
        exact z
      rw [List.getElem?_append_left (by rw [← ok.len]; exact ej)] at e2
      exact (ok.obj j bs ob' e1' e2).imp (fun _ _ => rfl) vs ⟨[as], rfl⟩
    · have z : (w.st ++ [as])[j]? = some bs := e1
      have hj : j = w.st.length := by
        have := (List.getElem?_eq_some_iff.mp z).1
        rw [List.length_append] at this
        have h1 : ([as] : List SA).length = 1 := rfl
        omega
      subst hj
      rw [List.getElem?_append_right (Nat.le_refl _), Nat.sub_self] at z
      cases z
      rw [ok.len, List.getElem?_append_right (Nat.le_refl _), Nat.sub_self] at e2
      cases e2
      exact hr.imp (fun _ _ => rfl) vs ⟨[as], rfl⟩
  · have h' : b ∈ (w.st ++ [as]).flatten := hb
    rw [List.flatten_append, List.mem_append] at h'
    rcases h' with h' | h'
    · exact ok.hid b h'
    · exact h1 b (by simpa using h')
  · show (w.st ++ [as]).flatten.Nodup
    rw [List.flatten_append]
    refine List.nodup_append.mpr ⟨ok.nd, by simpa using nd, fun x hx y hy e => ?_⟩
    exact h2 y (by simpa using hy) (by rw [← e]; exact hx)
theorem reg_tok {a : Addr} {as : List Addr} (ok : Ok G w S) : RepW G (w.reg (a :: as)) (.ref a) (tokD S.length) := by
  refine .tok (k := S.length) (as := as) ?_
  show (w.st ++ [a :: as])[S.length]? = _
  rw [← ok.len, List.getElem?_append_right (Nat.le_refl _), Nat.sub_self]
  rfl
theorem put_repL {vs : List V} {ds : List PyData} (hp : w.hs p) (r : RepLW G w vs ds) : RepLW G (w.put p o) vs ds := by
  have e : vis (w.put p o).hs (w.put p o).H = vis w.hs w.H := vis_put hp
  show RepL G w.st (vis (w.put p o).hs (w.put p o).H) vs ds
  rw [e]
  exact r
end
structure TillW (G : Gx) (w : Wd) (S : Store) (k : Nat) (n : Int) (rows : List PyData) (x dx l : Addr) (vs : List V) : Prop where
  st : w.st[k]? = some [x, dx, l]
  at_ : S[k]? = some (.till n rows)
  ins : w.H x = some (.ins G.T dx [("things", .int n), ("line", .ref l)])
  dct : w.H dx = some (.own x)
  lst : w.H l = some (.lst vs)
  len : vs.length ≤ sizeLine
  rep : RepLW G w vs rows
  nd : [x, dx, l].Nodup
section
variable {G : Gx} {w w' : Wd} {S : Store} {k : Nat} {n : Int} {rows : List PyData} {x dx l : Addr} {vs : List V} {σ : L2.St} {δ : En} {i : Nat}
theorem till_tok {v : V} {t : PyData} (o : Ok G w S) (r : RepW G w v t) (h : tokAt t S = some (k, .till n rows)) : ∃ x dx l vs, v = .ref x ∧ TillW G w S k n rows x dx l vs := by
  unfold tokAt at h
  split at h
  · obtain ⟨ob, e1, e2⟩ := Option.map_eq_some_iff.mp h
    cases e2
    cases r with
    | tok hst =>
      rename_i j a as
      have e3 : ((j : Int)).toNat = j := Int.toNat_natCast j
      rw [e3] at e1 ⊢
      obtain ⟨x, dx, l, vs, e4, h1, h2, h3, h4, h5⟩ := o.obj j _ _ hst e1
      cases e4
      exact ⟨a, dx, l, vs, rfl, hst, e1, h1, h2, h3, h4, h5, (List.pairwise_flatten.mp o.nd).1 _ (List.mem_of_getElem? hst)⟩
  · cases h
theorem till_w (o : Ok G w S) (er : ER G w σ δ) (h : tillAt δ i S = some (k, n, rows)) : ∃ x dx l vs, σ[i]? = some (some (.ref x)) ∧ TillW G w S k n rows x dx l vs := by
  unfold tillAt at h
  split at h
  · rename_i t e
    split at h
    · rename_i k' n' rows' e2
      cases h
      obtain ⟨v, h1, h2⟩ := er.val i t e
      obtain ⟨x, dx, l, vs, rfl, T⟩ := till_tok o h2 e2
      exact ⟨x, dx, l, vs, h1, T⟩
    · cases h
  · cases h
theorem valAt_w {j : Nat} {y : PyData} (er : ER G w σ δ) (h : valAt δ j = some y) : ∃ v, σ[j]? = some (some v) ∧ RepW G w v y := by
  unfold valAt at h
  split at h
  · rename_i d e
    cases h
    exact er.val j _ e
  · cases h
theorem RQ.withT {E : XK} {α : Type} {f : Nat → Int → List PyData → M α} {P : Wd → Store → α → Prop} (h : RQ G E w (withT δ i f S) P) : ∃ k n rows, tillAt δ i S = some (k, n, rows) ∧ RQ G E w (f k n rows S) P := by
  unfold PyD.withT at h
  split at h
  · rename_i k n rows e
    exact ⟨k, n, rows, e, h⟩
  · exact h.elim
theorem TillW.hs (t : TillW G w S k n rows x dx l vs) (o : Ok G w S) : w.hs l := o.hid l (mem_adr t.st (by simp))
theorem TillW.lne (t : TillW G w S k n rows x dx l vs) : x ≠ l ∧ dx ≠ l := by
  have z := t.nd
  simp only [List.nodup_cons, List.mem_cons, List.mem_nil_iff, or_false, not_or, List.not_mem_nil, not_false_eq_true, List.nodup_nil, and_true] at z
  exact ⟨z.1.2, z.2⟩
/-- the line is written -/
theorem TillW.put (t : TillW G w S k n rows x dx l vs) (o : Ok G w S) {us : List V} {es : List PyData} (hz : us.length ≤ sizeLine) (r : RepLW G w us es) :
    Adv w (w.put l (.lst us)) ∧ Ok G (w.put l (.lst us)) (S.set k (.till n es)) := by
  obtain ⟨n1, n2⟩ := t.lne
  exact st_put o t.st (by simp) ⟨x, dx, l, us, rfl, (upd_ne n1).trans t.ins, (upd_ne n2).trans t.dct, upd_same, hz, put_repL (t.hs o) r⟩
/-- the line in sight -/
theorem TillW.see (t : TillW G w S k n rows x dx l vs) (o : Ok G w S) (h : (PyData.list rows).plain = true) : RepW G (w.bare.sub fun b => b = l) (.ref l) (.list rows) := by
  have h' : PyData.plainAll rows = true := by simpa [PyData.plain] using h
  refine .lst (vis_some.mpr ⟨fun q => q.2 rfl, t.lst⟩) t.len ?_
  exact ((t.rep.mono (vis_sub (w := w) (A := fun b => b = l)) ⟨[], (List.append_nil _).symm⟩).plain_st rows vs h')
end
theorem lk_things {n : Int} {l : Addr} : ([("things", V.int n), ("line", .ref l)] : List (Str × V)).lookup ("things" : Str) = some (.int n) := by
  rw [List.lookup_cons]
  simp
theorem tl_ne : (("line" : Str) == ("things" : Str)) = false := by decide +kernel
theorem lk_line {n : Int} {l : Addr} : ([("things", V.int n), ("line", .ref l)] : List (Str × V)).lookup ("line" : Str) = some (.ref l) := by
  rw [List.lookup_cons, tl_ne, List.lookup_cons]
  simp
theorem lk_no {n : Int} {l : Addr} {m : Str} (h1 : (m == ("things" : Str)) = false) (h2 : (m == ("line" : Str)) = false) : ([("things", V.int n), ("line", .ref l)] : List (Str × V)).lookup m = none := by
  rw [List.lookup_cons, h1, List.lookup_cons, h2]
  rfl
end PyD

namespace PyD
open PySem PySem.Spec PyProof.Rows L2

/-- what stands in sight stays -/
structure Kp (w w' : Wd) : Prop where
  st : ∃ m, w'.st = w.st ++ m
  vis : ∀ b o, vis w.hs w.H b = some o → PyD.vis w'.hs w'.H b = some o
theorem Adv.kp {w w' : Wd} (a : Adv w w') : Kp w w' := ⟨a.st, a.vis⟩
theorem Kp.refl (w : Wd) : Kp w w := (Adv.refl w).kp
theorem Kp.trans {w w1 w2 : Wd} (a : Kp w w1) (b : Kp w1 w2) : Kp w w2 := ⟨by
  obtain ⟨m, e⟩ := a.st
  obtain ⟨m', e'⟩ := b.st
  exact ⟨m ++ m', by rw [e', e, List.append_assoc]⟩, fun x o h => b.vis x o (a.vis x o h)⟩
theorem Kp.rep {G : Gx} {w w' : Wd} (a : Kp w w') {v : V} {d : PyData} (r : RepW G w v d) : RepW G w' v d := r.mono a.vis a.st
theorem Kp.repL {G : Gx} {w w' : Wd} (a : Kp w w') {v : List V} {d : List PyData} (r : RepLW G w v d) : RepLW G w' v d := r.mono a.vis a.st
/-- two modes: lists of one's own may be walked; only what is in sight -/
def RepM (G : Gx) : Bool → Wd → V → PyData → Prop
  | true => RepS G
  | false => RepW G
def RlM : Bool → Wd → Wd → Prop
  | true => Adv
  | false => Kp
theorem RlM.refl (h : Bool) (w : Wd) : RlM h w w := by
  cases h with
  | true => exact Adv.refl w
  | false => exact Kp.refl w
theorem RlM.kp {h : Bool} {w w' : Wd} (r : RlM h w w') : Kp w w' := by
  cases h with
  | true => exact Adv.kp r
  | false => exact r
section
variable {G : Gx} {h : Bool} {w w' : Wd} {v : V} {d : PyData} {ds : List PyData}
theorem RepM.adv (r : RepM G h w v d) (a : Adv w w') : RepM G h w' v d := by
  cases h with
  | true => exact a.repS r
  | false => exact a.rep r
theorem RepM.s (r : RepM G h w v d) : RepS G w v d := by
  cases h with
  | true => exact r
  | false => exact .inl r
theorem RepM.list (r : RepM G h w v (.list ds)) : ∃ a vs, v = .ref a ∧ vs.length ≤ sizeLine ∧ RepLW G w vs ds ∧ ∀ w', RlM h w w' → w'.H a = some (.lst vs) := by
  cases h with
  | true => exact RepS.list r
  | false =>
    cases (show RepW G w v (.list ds) from r) with
    | lst h1 z r1 => exact ⟨_, _, rfl, z, r1, fun w' k => (vis_some.mp (k.vis _ _ h1)).2⟩
theorem RepM.tup (r : RepM G h w v (.tuple ds)) : ∃ a vs, v = .ref a ∧ vs.length ≤ sizeLine ∧ RepLW G w vs ds ∧ ∀ w', RlM h w w' → w'.H a = some (.tup vs) := by
  cases h with
  | true => exact RepS.tup r
  | false =>
    cases (show RepW G w v (.tuple ds) from r) with
    | tup h1 z r1 => exact ⟨_, _, rfl, z, r1, fun w' k => (vis_some.mp (k.vis _ _ h1)).2⟩
end
def tM (G : Gx) (W : WX) (h : Bool) (f : En → M PyData) : TE := fun σ H Q => Go G W f σ H fun _ w' _ d => ∀ v, RepM G h w' v d → Q v w'.H

/-- a walk over data, while worlds stand so -/
structure WkOk (G : Gx) (Rl : Wd → Prop) (J : It) (its : List PyData) : Prop where
  ex : ∃ Gd Y, Walk J its.length Gd Y ∧ (∀ w', Rl w' → Gd w'.H) ∧ ∀ i w' S x H', Rl w' → Ok G w' S → i < its.length → Y i w'.H x H' → ∃ w'' d, Adv w' w'' ∧ Ok G w'' S ∧ w''.H = H' ∧ its[i]? = some d ∧ RepW G w'' x d
  len : its.length ≤ sizeLine
section
variable {G : Gx} {Rl : Wd → Prop} {vs us : List V} {ds es : List PyData} {a b : Addr}
theorem wk_list (hz : vs.length ≤ sizeLine) (h1 : ∀ w', Rl w' → w'.H a = some (.lst vs)) (h2 : ∀ w', Rl w' → RepLW G w' vs ds) (hl : vs.length = ds.length) : WkOk G Rl (Itl G.K a) ds := by
  refine ⟨⟨fun H => SqL G.K H a vs, YAt vs, by rw [← hl]; exact walk_list, fun w' r => .inl (.inl (h1 w' r)), fun i w' S x H' r k hi y => ?_⟩, by omega⟩
  obtain ⟨rfl, e⟩ := y
  obtain ⟨d, h3, h4⟩ := (h2 w' r).get e
  exact ⟨w', d, Adv.refl _, k, rfl, h3, h4⟩
theorem wk_tup (hz : vs.length ≤ sizeLine) (h1 : ∀ w', Rl w' → w'.H a = some (.tup vs)) (h2 : ∀ w', Rl w' → RepLW G w' vs ds) (hl : vs.length = ds.length) : WkOk G Rl (Itt G.K a) ds := by
  refine ⟨⟨fun H => SqT G.K H a vs, YAt vs, by rw [← hl]; exact walk_tup, fun w' r => .inl (.inl (h1 w' r)), fun i w' S x H' r k hi y => ?_⟩, by omega⟩
  obtain ⟨rfl, e⟩ := y
  obtain ⟨d, h3, h4⟩ := (h2 w' r).get e
  exact ⟨w', d, Adv.refl _, k, rfl, h3, h4⟩
theorem wk_str {z : Str} (hz : z.length ≤ 1000) : WkOk G Rl (Its z) (z.cps.toList.map fun c => PyData.str ⟨#[c]⟩) := by
  have hl : (z.cps.toList.map fun c => PyData.str ⟨#[c]⟩).length = z.cps.size := by rw [List.length_map, Array.length_toList]
  refine ⟨⟨_, _, by rw [hl]; exact walk_str, fun _ _ => trivial, fun i w' S x H' r k hi y => ?_⟩, by rw [hl, sizeLine_eq]; have : z.cps.size ≤ 1000 := hz; omega⟩
  obtain ⟨rfl, c, e, rfl⟩ := y
  exact ⟨w', _, Adv.refl _, k, rfl, by rw [List.getElem?_map, Array.getElem?_toList, e]; rfl, .str _⟩
theorem wk_range {i j : Int} (h : rangeD i j = some ds) : WkOk G Rl (Itr i (j - i).toNat) ds := by
  unfold rangeD at h
  split at h
  · rename_i hb
    cases h
    simp only [Bool.and_eq_true, decide_eq_true_eq] at hb
    refine ⟨⟨_, _, by rw [List.length_map, List.length_range]; exact walk_range, fun _ _ => trivial, fun m w' S x H' _ k hi y => ?_⟩, by rw [List.length_map, List.length_range, sizeLine_eq]; omega⟩
    rw [List.length_map, List.length_range] at hi
    obtain ⟨rfl, rfl⟩ := y
    exact ⟨w', _, Adv.refl _, k, rfl, by rw [List.getElem?_map, List.getElem?_range hi] <;> rfl, .int _⟩
  · cases h
theorem pair_new {w : Wd} {S : Store} {T : Addr} {x y : V} {dx dy : PyData} (k : Ok G w S) (hT : w.H T = none) (rx : RepW G w x dx) (ry : RepW G w y dy) :
    ∃ w'', Adv w w'' ∧ Ok G w'' S ∧ w''.H = upd w.H T (.tup [x, y]) ∧ RepW G w'' (.ref T) (pairD dx dy) := by
  obtain ⟨a3, k3, r3⟩ := new_tup (vs := [x, y]) (ds := [dx, dy]) k hT (by rw [sizeLine_eq, List.length_cons, List.length_cons, List.length_nil]; decide) (.cons rx (.cons ry .nil))
  exact ⟨_, a3, k3, rfl, r3⟩
theorem wk_enum (hz : vs.length ≤ sizeLine) (h1 : ∀ w', Rl w' → w'.H a = some (.lst vs)) (h2 : ∀ w', Rl w' → RepLW G w' vs ds) (hl : vs.length = ds.length) {its : List PyData} (he : enumD (.list ds) = some its) : WkOk G Rl (Ite G.K a) its := by
  cases he
  have hlen : ((List.range ds.length).map (fun i => PyData.int (i : Nat)) |>.zipWith pairD <| ds).length = vs.length := by
    rw [List.length_zipWith, List.length_map, List.length_range, hl, Nat.min_self]
  refine ⟨⟨fun H => SqL G.K H a vs, YPair (fun i => some (.int (i : Nat))) (fun i => vs[i]?), by rw [hlen]; exact walk_enum, fun w' r => .inl (.inl (h1 w' r)), fun i w' S x H' r k hi y => ?_⟩, by omega⟩
  obtain ⟨T, x1, y1, rfl, hT, rfl, e1, e2⟩ := y
  cases e1
  obtain ⟨d, h3, h4⟩ := (h2 w' r).get e2
  obtain ⟨w'', a3, k3, e3, r3⟩ := pair_new k hT (.int (i : Nat)) h4
  refine ⟨w'', _, a3, k3, e3, ?_, r3⟩
  rw [List.getElem?_zipWith, List.getElem?_map, List.getElem?_range (by omega), h3]
  rfl
theorem wk_zip (hz : vs.length ≤ sizeLine) (h1 : ∀ w', Rl w' → w'.H a = some (.lst vs)) (h2 : ∀ w', Rl w' → RepLW G w' vs ds) (hl : vs.length = ds.length)
    (h1' : ∀ w', Rl w' → w'.H b = some (.lst us)) (h2' : ∀ w', Rl w' → RepLW G w' us es) (hl' : us.length = es.length) : WkOk G Rl (Itz G.K a b) (List.zipWith pairD ds es) := by
  have hlen : (List.zipWith pairD ds es).length = min vs.length us.length := by
    rw [List.length_zipWith, hl, hl']
  refine ⟨⟨_, _, walk_zip hlen, fun w' r => ⟨.inl (.inl (h1 w' r)), .inl (.inl (h1' w' r))⟩, fun i w' S x H' r k hi y => ?_⟩, by omega⟩
  obtain ⟨T, x1, y1, rfl, hT, rfl, e1, e2⟩ := y
  obtain ⟨d, h3, h4⟩ := (h2 w' r).get e1
  obtain ⟨d', h3', h4'⟩ := (h2' w' r).get e2
  obtain ⟨w'', a3, k3, e3, r3⟩ := pair_new k hT h4 h4'
  refine ⟨w'', _, a3, k3, e3, ?_, r3⟩
  rw [List.getElem?_zipWith, h3, h3']
end
def SrcOk (G : Gx) (W : WX) (h : Bool) (X : Cx) (tg iter : Expr) (f : En → M (List PyData)) : Prop :=
  ∃ wi, PI X tg iter wi ∧ ∀ σ H R, Go G W f σ H (fun _ w' _ its => ∀ J, WkOk G (RlM h w') J its → R J w'.H) → wi σ H R
section
variable {G : Gx} {T : Tb} {X : Cx} {W : WX} {n : Nat} {h : Bool} {tg e e2 : Expr} {f f2 : En → M PyData}
theorem pi_or {wi wi' : TI} (h1 : PI X tg e wi) (h2 : PI X tg e wi') : PI X tg e (fun σ H R => wi σ H R ∨ wi' σ H R) := ⟨fun pins s σ H R I q => q.elim (h1.run pins s σ H R I) (h2.run pins s σ H R I)⟩
abbrev itF (f : En → M PyData) : En → M (List PyData) := fun δ => M.bnd (f δ) fun x => M.opt (itemsD x)
theorem src_it (c : XOk G T X W n) (he : PE X e (tM G W h f)) : SrcOk G W h X tg e (itF f) := by
  refine ⟨_, pi_or (pi_or (pi_list he) (pi_tup he)) (pi_str he), fun σ H R q => ?_⟩
  rw [c.K]
  obtain ⟨w, S, δ, e0, k, er, q⟩ := q
  cases hf : f δ S with
  | bad =>
    have q1 := RQ.bnd q
    rw [hf] at q1
    exact q1.elim
  | exc j s =>
    have q1 := RQ.bnd q
    rw [hf] at q1
    exact .inl (.inl ⟨w, S, δ, e0, k, er, by rw [hf]; exact q1⟩)
  | ok d s =>
    have q1 := RQ.bnd q
    rw [hf] at q1
    have q2 : ∀ w', Adv w w' → Ok G w' s → ∃ its, itemsD d = some its ∧ ∀ w2, Adv w' w2 → Ok G w2 s → ∀ J, WkOk G (RlM h w2) J its → R J w2.H := fun w' a k' => RQ.opt' k' (q1 w' a k')
    cases d with
    | tuple xs =>
      refine .inl (.inr ⟨w, S, δ, e0, k, er, ?_⟩)
      rw [hf]
      intro w' a k' v rv
      obtain ⟨its, z, q3⟩ := q2 w' a k'
      cases z
      obtain ⟨p, vs, rfl, hz, rl, g1⟩ := rv.tup
      exact ⟨p, rfl, ⟨vs, .inl (.inl (g1 w' (RlM.refl h w')))⟩, q3 w' (Adv.refl _) k' _ (wk_tup hz g1 (fun w2 r => r.kp.repL rl) rl.length)⟩
    | list xs =>
      refine .inl (.inl ⟨w, S, δ, e0, k, er, ?_⟩)
      rw [hf]
      intro w' a k' v rv
      obtain ⟨its, z, q3⟩ := q2 w' a k'
      cases z
      obtain ⟨p, vs, rfl, hz, rl, g1⟩ := rv.list
      exact ⟨p, rfl, ⟨vs, .inl (.inl (g1 w' (RlM.refl h w')))⟩, q3 w' (Adv.refl _) k' _ (wk_list hz g1 (fun w2 r => r.kp.repL rl) rl.length)⟩
    | str z0 =>
      refine .inr ⟨w, S, δ, e0, k, er, ?_⟩
      rw [hf]
      intro w' a k' v rv
      obtain ⟨its, z, q3⟩ := q2 w' a k'
      have z' : (if z0.length ≤ 1000 then some (z0.cps.toList.map fun c => PyData.str ⟨#[c]⟩) else none) = some its := z
      split at z'
      · rename_i hz
        cases z'
        exact ⟨z0, rv.s.str, q3 w' (Adv.refl _) k' _ (wk_str hz)⟩
      · cases z'
    | _ =>
      refine .inl (.inl ⟨w, S, δ, e0, k, er, ?_⟩)
      rw [hf]
      intro w' a k' v rv
      obtain ⟨its, z, q3⟩ := q2 w' a k'
      cases z
theorem ns1 (h : nsB e = true) (env : Env) : starEach [e] env = [(false, eval e env)] := nsB_ok h [] env
abbrev rg1F (f : En → M PyData) : En → M (List PyData) := fun δ => M.bnd (f δ) fun x => M.opt (rangeI (.int 0) x)
theorem src_rg1 {p pos : Pos} (b : BlT X "range") (he : PE X e (tM G W h f)) (h1 : nsB e = true) : SrcOk G W h X tg (.Call (.Name "range" p) [e] [] pos) (rg1F f) := by
  refine ⟨_, pi_range1 b.g b.m (pa_cons he pa_nil (nsB_ok h1 [] X.env)) (ns1 h1 X.env), fun σ H R ⟨w, S, δ, e0, k, er, q⟩ => ?_⟩
  refine ⟨w, S, δ, e0, k, er, (RQ.bnd q).imp fun w1 S1 dx a1 k1 _ q1 x rx => ?_⟩
  obtain ⟨d, e2, q2⟩ := RQ.opt' k1 q1
  obtain ⟨i, j, e4, rfl, e5⟩ := rangeI_some e2
  cases e4
  obtain ⟨h2, h3, h4⟩ := rangeD_some (G := G) e5
  have z := q2 w1 (Adv.refl w1) k1 (Itr 0 (j - 0).toNat) (wk_range e5)
  rw [Int.sub_zero] at z
  exact ⟨j, by rw [rx.s.int], h2.2.2.1, h2.2.2.2.1, z⟩
abbrev rg2F (f f2 : En → M PyData) : En → M (List PyData) := fun δ => M.bnd (f δ) fun x => M.bnd (f2 δ) fun y => M.opt (rangeI x y)
theorem src_rg2 {p pos : Pos} (b : BlT X "range") (he : PE X e (tM G W h f)) (he2 : PE X e2 (tM G W h f2)) (h1 : nsB e = true) (h2 : nsB e2 = true) : SrcOk G W h X tg (.Call (.Name "range" p) [e, e2] [] pos) (rg2F f f2) := by
  refine ⟨_, pi_range2 b.g b.m (pa_cons he (pa_cons he2 pa_nil (nsB_ok h2 [] X.env)) (nsB_ok h1 [e2] X.env)) (by rw [nsB_ok h1, ns1 h2]) (ns1 h2 X.env), fun σ H R ⟨w, S, δ, e0, k, er, q⟩ => ?_⟩
  refine ⟨w, S, δ, e0, k, er, (RQ.bnd q).imp fun w1 S1 dx a1 k1 _ q1 x rx => ?_⟩
  refine ⟨w1, S1, δ, rfl, k1, er.adv a1, (RQ.bnd q1).imp fun w2 S2 dy a2 k2 _ q2 y ry => ?_⟩
  obtain ⟨d, e2, q3⟩ := RQ.opt' k2 q2
  obtain ⟨i, j, rfl, rfl, e5⟩ := rangeI_some e2
  obtain ⟨h2, h3, h4⟩ := rangeD_some (G := G) e5
  exact ⟨i, j, by rw [rx.s.int, ry.s.int], ⟨h2.1, h2.2.1, h2.2.2.1, h2.2.2.2.1⟩, q3 w2 (Adv.refl w2) k2 _ (wk_range e5)⟩
abbrev enuF (f : En → M PyData) : En → M (List PyData) := fun δ => M.bnd (f δ) fun x => M.opt (enumD x)
theorem src_enu {elts : List Expr} {kk : Nat} {tpos p pos : Pos} (c : XOk G T X W n) (b : BlT X "enumerate") (he : PE X e (tM G W h f)) (h1 : nsB e = true) : SrcOk G W h X (.Tuple elts kk tpos) (.Call (.Name "enumerate" p) [e] [] pos) (enuF f) := by
  refine ⟨_, pi_enum b.g b.m (pa_cons he pa_nil (nsB_ok h1 [] X.env)) (ns1 h1 X.env), fun σ H R ⟨w, S, δ, e0, k, er, q⟩ => ?_⟩
  rw [c.K]
  refine ⟨w, S, δ, e0, k, er, (RQ.bnd q).imp fun w1 S1 dx a1 k1 _ q1 x rx => ?_⟩
  obtain ⟨its, e2, q2⟩ := RQ.opt' k1 q1
  cases dx <;> try (cases e2; done)
  obtain ⟨p0, vs, rfl, hz, rl, g1⟩ := rx.list
  exact ⟨p0, vs, rfl, .inl (.inl (g1 w1 (RlM.refl h w1))), q2 w1 (Adv.refl w1) k1 _ (wk_enum hz g1 (fun w2 r => r.kp.repL rl) rl.length e2)⟩
abbrev zipF (f f2 : En → M PyData) : En → M (List PyData) := fun δ => M.bnd (f δ) fun x => M.bnd (f2 δ) fun y => M.opt (zipD x y)
theorem src_zip {elts : List Expr} {kk : Nat} {tpos p pos : Pos} (c : XOk G T X W n) (b : BlT X "zip") (he : PE X e (tM G W h f)) (he2 : PE X e2 (tM G W h f2)) (h1 : nsB e = true) (h2 : nsB e2 = true) : SrcOk G W h X (.Tuple elts kk tpos) (.Call (.Name "zip" p) [e, e2] [] pos) (zipF f f2) := by
  refine ⟨_, pi_zip b.g b.m (pa_cons he (pa_cons he2 pa_nil (nsB_ok h2 [] X.env)) (nsB_ok h1 [e2] X.env)) (nsB_ok h1 [e2] X.env) (nsB_any (by rw [List.all_cons, h2] <;> rfl)), fun σ H R ⟨w, S, δ, e0, k, er, q⟩ => ?_⟩
  rw [c.K]
  refine ⟨w, S, δ, e0, k, er, (RQ.bnd q).imp fun w1 S1 dx a1 k1 _ q1 x rx => ?_⟩
  refine ⟨w1, S1, δ, rfl, k1, er.adv a1, (RQ.bnd q1).imp fun w2 S2 dy a2 k2 _ q2 y ry => ?_⟩
  obtain ⟨its, e2, q3⟩ := RQ.opt' k2 q2
  cases dx <;> try (cases e2; done)
  cases dy <;> try (cases e2; done)
  cases e2
  obtain ⟨p0, vs, rfl, hz, rl, g1⟩ := (rx.adv a2).list
  obtain ⟨p1, us, rfl, hz', rl', g1'⟩ := ry.list
  exact ⟨p0, p1, vs, us, rfl, .inl (.inl (g1 w2 (RlM.refl h w2))), .inl (.inl (g1' w2 (RlM.refl h w2))), q3 w2 (Adv.refl w2) k2 _ (wk_zip hz g1 (fun w2 r => r.kp.repL rl) rl.length g1' (fun w2 r => r.kp.repL rl') rl'.length)⟩
end
end PyD

namespace PyD
open PySem PySem.Spec PyProof.Rows L2

def snocO {α : Type} (acc : List α) : Option α → List α
  | none => acc
  | some y => acc ++ [y]
def M.lstA (f : PyData → M (Option PyData)) : List PyData → List PyData → M (List PyData)
  | acc, [] => M.ret acc
  | acc, x :: xs => M.bnd (M.nox (f x)) fun r => M.lstA f (snocO acc r) xs
theorem lst_acc (f : PyData → M (Option PyData)) : ∀ (xs acc : List PyData) (S : Store), M.bnd (M.lst f xs) (fun rs => M.ret (acc ++ rs)) S = M.lstA f acc xs S
  | [], acc, S => by
    show Res.ok (acc ++ []) S = Res.ok acc S
    rw [List.append_nil]
  | x :: xs, acc, S => by
    show M.bnd (M.bnd (M.nox (f x)) fun r => M.bnd (M.lst f xs) fun rs => M.ret (consO r rs)) (fun rs => M.ret (acc ++ rs)) S = M.bnd (M.nox (f x)) (fun r => M.lstA f (snocO acc r) xs) S
    unfold M.bnd
    cases M.nox (f x) S with
    | bad => rfl
    | exc k s => rfl
    | ok r s =>
      show _ = M.lstA f (snocO acc r) xs s
      rw [← lst_acc f xs (snocO acc r) s]
      unfold M.bnd
      dsimp only
      cases M.lst f xs s with
      | bad => rfl
      | exc k s => rfl
      | ok rs s =>
        show Res.ok (acc ++ consO r rs) s = Res.ok (snocO acc r ++ rs) s
        cases r with
        | none => rfl
        | some y =>
          show Res.ok (acc ++ (y :: rs)) s = Res.ok (acc ++ [y] ++ rs) s
          rw [List.append_assoc] <;> rfl
theorem bnd_assoc {α β γ : Type} (x : M α) (f : α → M β) (g : β → M γ) (S : Store) : M.bnd (M.bnd x f) g S = M.bnd x (fun a => M.bnd (f a) g) S := by
  unfold M.bnd
  cases x S <;> rfl
theorem bnd_ok {α β : Type} {x : M α} {f : α → M β} {S S' : Store} {a : α} (h : x S = .ok a S') : M.bnd x f S = f a S' := by
  unfold M.bnd
  rw [h]
section
variable {G : Gx} {E E0 : XK} {w : Wd} {S : Store} {α β : Type}
theorem RQ.nox {x : M α} {g : α → M β} {P : Wd → Store → β → Prop} (h : RQ G E w (M.bnd (M.nox x) g S) P) : RQ G E0 w (x S) fun _ S' a => x S = .ok a S' ∧ RQ G E w (g a S') P := by
  unfold M.bnd M.nox at h
  cases hx : x S with
  | bad => rw [hx] at h; exact h.elim
  | exc k s => rw [hx] at h; exact h.elim
  | ok a s =>
    rw [hx] at h
    exact fun _ _ _ => ⟨rfl, h⟩
end
abbrev W0 : WX := fun _ _ _ _ => False
abbrev elF (fc fe : En → M PyData) : En → M (Option PyData) := fun δ => M.bnd (fc δ) fun b => match b with
  | .bool true => M.bnd (fe δ) fun y => M.ret (some y)
  | .bool false => M.ret none
  | _ => M.bad
abbrev itmF (t : Tg) (fc fe : En → M PyData) (δ : En) : PyData → M (Option PyData) := fun x => match t.set x (wipeD δ t.vs) with
  | some δ' => elF fc fe δ'
  | none => M.bad
abbrev lcF (t : Tg) (fs : En → M (List PyData)) (fc fe : En → M PyData) : En → M PyData := fun δ => M.bnd (fs δ) fun its => M.bnd (M.lst (itmF t fc fe δ) its) fun ys => M.ret (.list ys)
abbrev yesF : En → M PyData := fun _ => M.ret (.bool true)
theorem wipe_at (σ : L2.St) (k : Nat) : ∀ vs : List Nat, (wipe σ vs)[k]? = if k ∈ vs then (if k < σ.length then some none else none) else σ[k]?
  | [] => by rw [if_neg (by simp)] <;> rfl
  | v :: vs => by
    show ((wipe σ vs).set v none)[k]? = _
    by_cases e : v = k
    · subst e
      rw [if_pos List.mem_cons_self]
      by_cases hl : v < σ.length
      · rw [if_pos hl, List.getElem?_set_self (by rw [wipe_length]; exact hl)]
      · rw [if_neg hl, List.getElem?_eq_none (by rw [List.length_set, wipe_length]; omega)]
    · rw [List.getElem?_set_ne e, wipe_at σ k vs]
      have e2 : (k ∈ v :: vs) = (k ∈ vs) := by
        rw [List.mem_cons]
        exact propext ⟨fun h => h.resolve_left fun z => e z.symm, .inr⟩
      simp only [e2]
theorem wipe_same {σ σ' : L2.St} {vs : List Nat} (hl : σ'.length = σ.length) (h : ∀ k, k ∉ vs → σ'[k]? = σ[k]?) : wipe σ' vs = wipe σ vs := by
  refine List.ext_getElem? fun k => ?_
  rw [wipe_at, wipe_at, hl]
  by_cases e : k ∈ vs
  · rw [if_pos e, if_pos e]
  · rw [if_neg e, if_neg e, h k e]
theorem wipeD_length (δ : En) : ∀ vs : List Nat, (wipeD δ vs).length = δ.length
  | [] => rfl
  | v :: vs => by
    show ((wipeD δ vs).set v .non).length = _
    rw [List.length_set, wipeD_length δ vs]
section
variable {G : Gx} {w : Wd} {σ : L2.St} {δ : En} {v : V} {d : PyData}
theorem set_get {α : Type} {l : List α} {i k : Nat} {x y : α} (h : (l.set i x)[k]? = some y) : (i = k ∧ i < l.length ∧ x = y) ∨ (i ≠ k ∧ l[k]? = some y) := by
  by_cases e : i = k
  · subst e
    by_cases hl : i < l.length
    · rw [List.getElem?_set_self hl] at h
      exact .inl ⟨rfl, hl, Option.some.inj h⟩
    · rw [List.getElem?_eq_none (by rw [List.length_set]; omega)] at h
      cases h
  · rw [List.getElem?_set_ne e] at h
    exact .inr ⟨e, h⟩
theorem ER.set (e : ER G w σ δ) (i : Nat) (r : RepW G w v d) : ER G w (σ.set i (some v)) (δ.set i (.val d)) where
  len := by rw [List.length_set, List.length_set]; exact e.len
  val := fun k d' h => by
    rcases set_get h with ⟨rfl, hl, z⟩ | ⟨hne, h⟩
    · cases z
      exact ⟨v, List.getElem?_set_self (Nat.lt_of_lt_of_le hl e.len), r⟩
    · rw [List.getElem?_set_ne hne]
      exact e.val k d' h
  own := fun k ds h => by
    rcases set_get h with ⟨rfl, hl, z⟩ | ⟨hne, h⟩
    · cases z
    · rw [List.getElem?_set_ne hne]
      exact e.own k ds h
theorem ER.drop (e : ER G w σ δ) (i : Nat) (u : Option V) : ER G w (σ.set i u) (δ.set i .non) where
  len := by rw [List.length_set, List.length_set]; exact e.len
  val := fun k d' h => by
    rcases set_get h with ⟨rfl, hl, z⟩ | ⟨hne, h⟩
    · cases z
    · rw [List.getElem?_set_ne hne]
      exact e.val k d' h
  own := fun k ds h => by
    rcases set_get h with ⟨rfl, hl, z⟩ | ⟨hne, h⟩
    · cases z
    · rw [List.getElem?_set_ne hne]
      exact e.own k ds h
theorem ER.wipe (e : ER G w σ δ) : ∀ vs : List Nat, ER G w (L2.wipe σ vs) (wipeD δ vs)
  | [] => e
  | v :: vs => (ER.wipe e vs).drop v none
end
def tgT (K : PySem.W.Frag) : Tg → TG
  | .one i => gName i
  | .two i j => gTup K 2 (gCons (gName i) (gCons (gName j) gNil))
  | .three i j k => gTup K 3 (gCons (gName i) (gCons (gName j) (gCons (gName k) gNil)))
theorem tg_go {G : Gx} {t : Tg} {d : PyData} {δ δ' : En} {w : Wd} {v : V} {σ : L2.St} {Q : L2.St → Hp → Prop} (h : t.set d δ = some δ') (r : RepW G w v d) (er : ER G w σ δ)
    (q : ∀ σ', ER G w σ' δ' → σ'.length = σ.length → (∀ k, k ∉ t.vs → σ'[k]? = σ[k]?) → Q σ' w.H) : tgT G.K t v σ w.H Q := by
  cases t with
  | one i =>
    cases h
    exact q _ (er.set i r) List.length_set fun k hk => List.getElem?_set_ne fun e => hk (by subst e; exact List.mem_cons_self)
  | two i j =>
    cases d <;> try (cases h; done)
    rename_i xs
    match xs, h, r with
    | [a, b], h, r =>
      cases h
      cases r with
      | tup hv hz rl =>
        rename_i p vs
        match vs, rl, hv with
        | _, .cons r1 (.cons r2 .nil), hv =>
          refine ⟨p, _, rfl, .inl (.inl (vis_some.mp hv).2), rfl, _, _, rfl, _, _, rfl, rfl, ?_⟩
          refine q _ ((er.set i r1).set j r2) (by rw [List.length_set, List.length_set]) fun k hk => ?_
          have h1 : j ≠ k := fun e => hk (by subst e; exact List.mem_cons_of_mem _ List.mem_cons_self)
          have h2 : i ≠ k := fun e => hk (by subst e; exact List.mem_cons_self)
          rw [List.getElem?_set_ne h1, List.getElem?_set_ne h2]
  | three i j k0 =>
    cases d <;> try (cases h; done)
    rename_i xs
    match xs, h, r with
    | [a, b, c], h, r =>
      cases h
      cases r with
      | tup hv hz rl =>
        rename_i p vs
        match vs, rl, hv with
        | _, .cons r1 (.cons r2 (.cons r3 .nil)), hv =>
          refine ⟨p, _, rfl, .inl (.inl (vis_some.mp hv).2), rfl, _, _, rfl, _, _, rfl, _, _, rfl, rfl, ?_⟩
          refine q _ (((er.set i r1).set j r2).set k0 r3) (by rw [List.length_set, List.length_set, List.length_set]) fun k hk => ?_
          have h0 : k0 ≠ k := fun e => hk (by subst e; exact List.mem_cons_of_mem _ (List.mem_cons_of_mem _ List.mem_cons_self))
          have h1 : j ≠ k := fun e => hk (by subst e; exact List.mem_cons_of_mem _ List.mem_cons_self)
          have h2 : i ≠ k := fun e => hk (by subst e; exact List.mem_cons_self)
          rw [List.getElem?_set_ne h0, List.getElem?_set_ne h1, List.getElem?_set_ne h2]
theorem Adv.put' {w w' : Wd} {p : Addr} {o : HO} (a : Adv w w') (h1 : w.H p = none) (h2 : ¬ w.hs p) : Adv w (w'.put p o) where
  st := a.st
  sub := a.sub
  new := a.new
  keep := fun b u n h => by
    have nb : b ≠ p := fun q => by
      rw [q, h1] at h
      cases h
    exact (upd_ne nb).trans (a.keep b u n h)
  own := fun b h n => by
    have nb : b ≠ p := fun q => h2 (by rw [← q]; exact h)
    exact (upd_ne nb).trans (a.own b h n)
  fresh := a.fresh
theorem put_rep {G : Gx} {w : Wd} {p : Addr} {o : HO} {vs : List V} {ds : List PyData} (hp : w.hs p) (r : RepLW G w vs ds) : RepLW G (w.put p o) vs ds := by
  have e : vis (w.put p o).hs (w.put p o).H = vis w.hs w.H := vis_put hp
  show RepL G w.st (vis (w.put p o).hs (w.put p o).H) vs ds
  rw [e]
  exact r
section
variable {G : Gx} {X : Cx} {W : WX} {n : Nat} {fs : En → M (List PyData)} {fc fe : En → M PyData} {t : Tg} {wi : TI} {σ : L2.St} {H : Hp} {Q : VK}
theorem go_lc (hsrc : ∀ σ H R, Go G W fs σ H (fun _ w' _ its => ∀ J, WkOk G (RlM true w') J its → R J w'.H) → wi σ H R) (h : tO G W (lcF t fs fc fe) σ H Q) :
    tLc wi (tgT G.K t) (tT G W0 fc) (tD G W0 fe) t.vs σ H Q := by
  obtain ⟨w, S, δ, e, k, er, q⟩ := h
  refine hsrc σ H _ ⟨w, S, δ, e, k, er, (RQ.bnd q).imp fun w1 S1 its a1 k1 _ q1 J wk => ?_⟩
  intro D hD
  obtain ⟨⟨Gd, Y, wal, hGd, hY⟩, hlen⟩ := wk
  have nD := k1.newH hD
  have aD := k1.nadr hD
  have er1 : ER G w1 (wipe σ t.vs) (wipeD δ t.vs) := (er.adv a1).wipe t.vs
  obtain ⟨a2, k2, o2⟩ := new_own (vs := []) (ds := []) k1 hD (Nat.zero_le _) .nil
  refine lc_it wal (fun i H' => ∃ w' S' acc vs, w'.H = H' ∧ Ok G w' S' ∧ Adv w1 w' ∧ w'.hs D ∧ D ∉ adr w'.st ∧ w'.H D = some (.lst vs) ∧ RepLW G w' vs acc ∧ acc.length ≤ i ∧
    RQ G (XKs W σ) w1 (M.bnd (M.lstA (itmF t fc fe δ) acc (its.drop i)) (fun ys => M.ret (.list ys)) S') fun w' _ d => ∃ ds, d = PyData.list ds ∧ ∀ p vs, OwnR G w w' p vs ds → Q (.ref p) w'.H) ?_ ?_ ?_ ?_
  · refine ⟨_, S1, [], [], rfl, k2, a2, o2.hs, o2.na, o2.at_, .nil, Nat.le_refl _, ?_⟩
    have e2 : M.bnd (M.lst (itmF t fc fe δ) its) (fun ys => M.ret (PyData.list ys)) S1 = M.bnd (M.lstA (itmF t fc fe δ) [] its) (fun ys => M.ret (PyData.list ys)) S1 := by
      unfold M.bnd
      rw [← lst_acc]
      unfold M.bnd
      cases M.lst (itmF t fc fe δ) its S1 <;> rfl
    rw [List.drop_zero, ← e2]
    exact q1
  · rintro i H' hi ⟨w', S', acc, vs, rfl, k', a', _⟩
    exact hGd w' a'
  · rintro i x H1 H2 hi ⟨w', S', acc, vs, rfl, k', a', h1, h2, h3, h4, h5, q2⟩ hy
    obtain ⟨w'', d, a3, k3, rfl, hd, rd⟩ := hY i w' S' x H2 a' k' hi hy
    have ed : its.drop i = d :: its.drop (i + 1) := by
      obtain ⟨hl, e⟩ := List.getElem?_eq_some_iff.mp hd
      rw [List.drop_eq_getElem_cons hl, e]
    rw [ed] at q2
    have q3 : RQ G (XKs W σ) w1 (M.bnd (M.nox (itmF t fc fe δ d)) (fun r => M.bnd (M.lstA (itmF t fc fe δ) (snocO acc r) (its.drop (i + 1))) fun ys => M.ret (PyData.list ys)) S') fun w' _ d => ∃ ds, d = PyData.list ds ∧ ∀ p vs, OwnR G w w' p vs ds → Q (.ref p) w'.H := by
      rw [← bnd_assoc]
      exact q2
    have q4 := RQ.nox (E0 := XKs W0 σ) q3
    cases hset : t.set d (wipeD δ t.vs) with
    | none =>
      have e5 : itmF t fc fe δ d S' = .bad := by
        show (match t.set d (wipeD δ t.vs) with
          | some δ' => elF fc fe δ'
          | none => M.bad) S' = .bad
        rw [hset]
        rfl
      rw [e5] at q4
      exact q4.elim
    | some δ' =>
      have e5 : ∀ s, itmF t fc fe δ d s = elF fc fe δ' s := fun s => by
        show (match t.set d (wipeD δ t.vs) with
          | some δ' => elF fc fe δ'
          | none => M.bad) s = _
        rw [hset]
      have av := a'.trans a3
      refine tg_go hset rd (er1.adv av) fun σ2 er2 hl2 hs2 => ⟨?_, ?_⟩
      · refine wipe_same (by rw [hl2, wipe_length]) fun k hk => ?_
        rw [hs2 k hk, wipe_at, if_neg hk]
      · rw [e5] at q4
        have keepD : ∀ w5, Adv w'' w5 → w5.hs D ∧ D ∉ adr w5.st ∧ w5.H D = some (.lst vs) ∧ RepLW G w5 vs acc := fun w5 a5 => by
          have a6 := a3.trans a5
          exact ⟨a6.sub D h1, fun z => a6.fresh D z h2 h1, (a6.own D h1 h2).trans h3, a6.repL h4⟩
        refine ⟨w'', S', δ', rfl, k3, er2, (RQ.bnd (RQ.from av q4)).imp fun w4 S4 b a4 k4 e4 q5 => ?_⟩
        cases b <;> try (exact q5.elim)
        rename_i b
        refine ⟨b, rfl, ?_⟩
        cases b with
        | false =>
          refine L2.iteF ?_
          obtain ⟨e6, q6⟩ := q5 w4 (Adv.refl w4) k4
          obtain ⟨g1, g2, g3, g4⟩ := keepD w4 a4
          exact ⟨w4, S4, acc, vs, rfl, k4, av.trans a4, g1, g2, g3, g4, Nat.le_succ_of_le h5, q6⟩
        | true =>
          refine iteT ⟨w4, S4, δ', rfl, k4, er2.adv a4, (RQ.bnd q5).imp fun w5 S5 y a5 k5 _ q6 v rv => ?_⟩
          obtain ⟨e6, q7⟩ := q6 w5 (Adv.refl w5) k5
          obtain ⟨g1, g2, g3, g4⟩ := keepD w5 (a4.trans a5)
          have hvl : vs.length ≤ i := by rw [h4.length]; exact h5
          refine ⟨vs, g3, by omega, w5.put D (.lst (vs ++ [v])), S5, acc ++ [y], vs ++ [v], rfl, k5.put g1 g2, ((av.trans a4).trans a5).put' hD nD, g1, g2, upd_same, put_rep g1 (g4.append (.cons rv .nil)), ?_, q7⟩
          rw [List.length_append, List.length_cons, List.length_nil]
          omega
  · rintro H' ⟨w', S', acc, vs, rfl, k', a', h1, h2, h3, h4, h5, q2⟩
    rw [List.drop_length] at q2
    obtain ⟨ds, e5, q5⟩ := q2 w' a' k'
    cases e5
    exact q5 D vs ⟨h1, fun z => nD (a1.sub D z), h2, h3, by rw [h4.length]; omega, h4⟩
end
end PyD

namespace PyD
open PySem PySem.Spec PyProof.Rows L2
section
variable {G : Gx} {T : Tb} {X : Cx} {W : WX} {n : Nat}
theorem XOk.blk (c : XOk G T X W n) (s : Shared) (H : Hp) (scope : Scope) (cenv : Env) (fp : List Addr) : XOk G T (X.blk s H scope cenv fp) W0 n where
  calm := c.calm
  nd := c.nd
  room := c.room
  pass := fun σ => passAt (fun u s' ⟨_, _, _, _, _, _, _, _, _, _, _, _, _, _, _, _, w⟩ => w.elim) σ
  K := c.K
  tb := c.tb
/-- not a display of a set -/
def fsB : Expr → Bool
  | .Set _ _ _ => false
  | _ => true
theorem fsB_ok {e : Expr} (h : fsB e = true) (env : Env) : ∀ x, foldedSetIterable e env x = pure x := fun x => by
  cases e <;> first | rfl | cases h
theorem yes_pts {X : Cx} {W : WX} : PTs X [] (tT G W yesF) := ⟨fun pins s σ H Q I ⟨w, S, δ, e, k, er, q⟩ => by
  subst e
  obtain ⟨b, e2, q2⟩ := q w (Adv.refl w) k
  cases e2
  exact pts_nil.run pins s σ w.H Q I q2⟩
variable {elt tg iter : Expr} {ifs : List Expr} {scope : Scope} {own : List (Str × Nat)} {pos : Pos} {fs : En → M (List PyData)} {fc fe : En → M PyData} {t : Tg}
/-- the parts of a comprehension -/
structure LcOk (G : Gx) (T : Tb) (X : Cx) (W : WX) (elt tg iter : Expr) (ifs : List Expr) (scope : Scope) (t : Tg) (fs : En → M (List PyData)) (fc fe : En → M PyData) : Prop where
  src : SrcOk G W true X tg iter fs
  fsb : fsB iter = true
  blk : ∃ own, BlkOk X.N X.env.scope scope own ∧ own.map (·.2) = t.vs
  tg : ∀ (s : Shared) (H : Hp) (C : Addr) (cl : List (Str × Addr)) (fp : List Addr), PG (X.blk s H scope (compEnvC scope cl C X.env) fp) tg (tgT G.K t)
  tst : ∀ (s : Shared) (H : Hp) (C : Addr) (cl : List (Str × Addr)) (fp : List Addr), PTs (X.blk s H scope (compEnvC scope cl C X.env) fp) ifs (tT G W0 fc)
  elt : ∀ (s : Shared) (H : Hp) (C : Addr) (cl : List (Str × Addr)) (fp : List Addr), PE (X.blk s H scope (compEnvC scope cl C X.env) fp) elt (tD G W0 fe)
theorem do_lc (c : XOk G T X W n) (l : LcOk G T X W elt tg iter ifs scope t fs fc fe) : PE X (.ListComp elt [⟨tg, iter, ifs, 0⟩] scope pos) (tO G W (lcF t fs fc fe)) := by
  obtain ⟨own, hb, ho⟩ := l.blk
  obtain ⟨wi, h1, h2⟩ := l.src
  exact (pe_lc c.calm c.nd h1 hb l.tg l.tst l.elt (fsB_ok l.fsb X.env)).imp fun σ H Q q => by
    rw [ho]
    exact go_lc h2 q
theorem bnd_inv {α β : Type} {x : M α} {f : α → M β} {S S2 : Store} {b : β} (h : M.bnd x f S = .ok b S2) : ∃ a S1, x S = .ok a S1 ∧ f a S1 = .ok b S2 := by
  unfold M.bnd at h
  cases e : x S with
  | ok a s =>
    rw [e] at h
    exact ⟨a, s, rfl, h⟩
  | exc k s => rw [e] at h; cases h
  | bad => rw [e] at h; cases h
theorem lc_list {δ : En} {S : Store} {d : PyData} {S' : Store} (h : lcF t fs fc fe δ S = .ok d S') : ∃ ds, d = .list ds := by
  obtain ⟨its, S1, _, h1⟩ := bnd_inv h
  obtain ⟨ys, S2, _, h2⟩ := bnd_inv h1
  cases h2
  exact ⟨_, rfl⟩
/-- a reading in sight from one's own -/
theorem tO_of_tD {f : En → M PyData} (hl : ∀ δ S d S', f δ S = .ok d S' → ∃ ds, d = .list ds) {σ : L2.St} {H : Hp} {Q : VK} (q : tD G W f σ H Q) : tO G W f σ H Q := by
  obtain ⟨w, S, δ, e1, k, er, q⟩ := q
  refine ⟨w, S, δ, e1, k, er, q.imp fun w' S' d a k' e2 z => ?_⟩
  obtain ⟨ds, rfl⟩ := hl _ _ _ _ e2
  refine ⟨ds, rfl, fun p vs o => ?_⟩
  obtain ⟨a2, k2, r2⟩ := o.show a k'
  rw [e2] at q
  exact q _ a2 k2 (.ref p) r2

structure LI (G : Gx) (w0 w : Wd) (σ : L2.St) (δ : En) : Prop where
  adv : Adv w0 w
  er : ER G w σ δ
  own : ∀ (i : Nat) ds p, δ[i]? = some (Slot.own ds) → σ[i]? = some (some (.ref p)) → w0.H p = none ∧ ¬ w0.hs p
  inj : ∀ (i j : Nat) ds es p, δ[i]? = some (Slot.own ds) → δ[j]? = some (Slot.own es) → σ[i]? = some (some (.ref p)) → σ[j]? = some (some (.ref p)) → i = j
variable {w0 w w' : Wd} {σ : L2.St} {δ : En} {i : Nat} {v : V} {d : PyData} {ds : List PyData} {p : Addr} {vs : List V} {S : Store}
theorem LI.step (l : LI G w0 w σ δ) (a : Adv w w') : LI G w0 w' σ δ := ⟨l.adv.trans a, l.er.adv a, l.own, l.inj⟩
theorem LI.setV (l : LI G w0 w σ δ) (i : Nat) (r : RepW G w v d) : LI G w0 w (σ.set i (some v)) (δ.set i (.val d)) where
  adv := l.adv
  er := l.er.set i r
  own := fun k ds p h1 h2 => by
    rcases set_get h1 with ⟨_, _, z⟩ | ⟨hne, h1⟩
    · cases z
    · rw [List.getElem?_set_ne hne] at h2
      exact l.own k ds p h1 h2
  inj := fun k j ds es p h1 h2 h3 h4 => by
    rcases set_get h1 with ⟨_, _, z⟩ | ⟨hk, h1⟩
    · cases z
    · rcases set_get h2 with ⟨_, _, z⟩ | ⟨hj, h2⟩
      · cases z
      · rw [List.getElem?_set_ne hk] at h3
        rw [List.getElem?_set_ne hj] at h4
        exact l.inj k j ds es p h1 h2 h3 h4
theorem LI.drop (l : LI G w0 w σ δ) (i : Nat) (u : Option V) : LI G w0 w (σ.set i u) (δ.set i .non) where
  adv := l.adv
  er := l.er.drop i u
  own := fun k ds p h1 h2 => by
    rcases set_get h1 with ⟨_, _, z⟩ | ⟨hne, h1⟩
    · cases z
    · rw [List.getElem?_set_ne hne] at h2
      exact l.own k ds p h1 h2
  inj := fun k j ds es p h1 h2 h3 h4 => by
    rcases set_get h1 with ⟨_, _, z⟩ | ⟨hk, h1⟩
    · cases z
    · rcases set_get h2 with ⟨_, _, z⟩ | ⟨hj, h2⟩
      · cases z
      · rw [List.getElem?_set_ne hk] at h3
        rw [List.getElem?_set_ne hj] at h4
        exact l.inj k j ds es p h1 h2 h3 h4
theorem Adv.unk {w0 w : Wd} (a : Adv w0 w) {p : Addr} (h1 : w.H p = none) (h2 : ¬ w.hs p) : w0.H p = none ∧ ¬ w0.hs p := by
  have n : ¬ w0.hs p := fun z => h2 (a.sub p z)
  refine ⟨?_, n⟩
  cases e : w0.H p with
  | none => rfl
  | some o =>
    rw [a.keep p o n e] at h1
    cases h1
theorem OwnR.unk (o : OwnR G w w' p vs ds) (a : Adv w w') : w.H p = none ∧ ¬ w.hs p := ⟨a.new p o.hs o.nh, o.nh⟩
theorem LI.setO (l : LI G w0 w σ δ) (a : Adv w w') (i : Nat) (o : OwnR G w w' p vs ds) : LI G w0 w' (σ.set i (some (.ref p))) (δ.set i (.own ds)) where
  adv := l.adv.trans a
  er := ⟨by rw [List.length_set, List.length_set]; exact l.er.len, fun k d' h => by
    rcases set_get h with ⟨rfl, hl, z⟩ | ⟨hne, h⟩
    · cases z
    · rw [List.getElem?_set_ne hne]
      exact (l.er.adv a).val k d' h, fun k es h => by
    rcases set_get h with ⟨rfl, hl, z⟩ | ⟨hne, h⟩
    · cases z
      exact ⟨p, vs, List.getElem?_set_self (Nat.lt_of_lt_of_le hl l.er.len), o.hs, o.na, o.at_, o.len, o.rep⟩
    · rw [List.getElem?_set_ne hne]
      exact (l.er.adv a).own k es h⟩
  own := fun k es q h1 h2 => by
    rcases set_get h1 with ⟨rfl, hl, z⟩ | ⟨hne, h1⟩
    · rw [List.getElem?_set_self (Nat.lt_of_lt_of_le hl l.er.len)] at h2
      cases h2
      obtain ⟨u1, u2⟩ := o.unk a
      exact l.adv.unk u1 u2
    · rw [List.getElem?_set_ne hne] at h2
      exact l.own k es q h1 h2
  inj := fun k j es fs q h1 h2 h3 h4 => by
    have old : ∀ (k : Nat) es q, δ[k]? = some (Slot.own es) → σ[k]? = some (some (.ref q)) → q ≠ p := fun k es q g1 g2 z => by
      obtain ⟨p', vs', e1, e2, _⟩ := l.er.own k es g1
      rw [g2] at e1
      cases e1
      exact o.nh (by rw [← z]; exact e2)
    rcases set_get h1 with ⟨rfl, hl, z⟩ | ⟨hk, h1⟩
    · rcases set_get h2 with ⟨rfl, _, _⟩ | ⟨hj, h2⟩
      · rfl
      · rw [List.getElem?_set_self (Nat.lt_of_lt_of_le hl l.er.len)] at h3
        rw [List.getElem?_set_ne hj] at h4
        cases h3
        exact absurd rfl (old j fs _ h2 h4)
    · rw [List.getElem?_set_ne hk] at h3
      rcases set_get h2 with ⟨rfl, hl, _⟩ | ⟨hj, h2⟩
      · rw [List.getElem?_set_self (Nat.lt_of_lt_of_le hl l.er.len)] at h4
        cases h4
        exact absurd rfl (old k es _ h1 h3)
      · rw [List.getElem?_set_ne hj] at h4
        exact l.inj k j es fs q h1 h2 h3 h4
/-- a list of one's own, written -/
theorem LI.put (l : LI G w0 w σ δ) (k : Ok G w S) (h1 : δ[i]? = some (.own ds)) (h2 : σ[i]? = some (some (.ref p))) {us : List V} {es : List PyData} (hz : us.length ≤ sizeLine) (r : RepLW G w us es) :
    LI G w0 (w.put p (.lst us)) σ (δ.set i (.own es)) ∧ Ok G (w.put p (.lst us)) S := by
  obtain ⟨p', vs', e1, e2, e3, e4, e5, e6⟩ := l.er.own i ds h1
  rw [h2] at e1
  cases e1
  obtain ⟨u1, u2⟩ := l.own i ds p h1 h2
  have oth : ∀ (k : Nat) fs q, i ≠ k → δ[k]? = some (Slot.own fs) → σ[k]? = some (some (.ref q)) → q ≠ p := fun k fs q hne g1 g2 z => hne (l.inj i k ds fs p h1 g1 h2 (by rw [← z]; exact g2))
  have ev : vis (w.put p (.lst us)).hs (w.put p (.lst us)).H = vis w.hs w.H := vis_put e2
  refine ⟨⟨l.adv.put' u1 u2, ⟨by rw [List.length_set]; exact l.er.len, fun k d' h => ?_, fun k fs h => ?_⟩, fun k fs q h3 h4 => ?_, fun k j fs gs q h3 h4 h5 h6 => ?_⟩, k.put e2 e3⟩
  · rcases set_get h with ⟨rfl, hl, z⟩ | ⟨hne, h⟩
    · cases z
    · obtain ⟨v, g1, g2⟩ := l.er.val k d' h
      refine ⟨v, g1, ?_⟩
      show Rep G w.st (vis (w.put p (.lst us)).hs (w.put p (.lst us)).H) v d'
      rw [ev]
      exact g2
  · rcases set_get h with ⟨rfl, hl, z⟩ | ⟨hne, h⟩
    · cases z
      exact ⟨p, us, h2, e2, e3, upd_same, hz, put_rep e2 r⟩
    · obtain ⟨q, ws, g1, g2, g3, g4, g5, g6⟩ := l.er.own k fs h
      exact ⟨q, ws, g1, g2, g3, (upd_ne (oth k fs q hne h g1)).trans g4, g5, put_rep e2 g6⟩
  · rcases set_get h3 with ⟨rfl, hl, z⟩ | ⟨hne, h3⟩
    · rw [h2] at h4
      cases h4
      exact ⟨u1, u2⟩
    · exact l.own k fs q h3 h4
  · have f1 : ∃ fs', δ[k]? = some (Slot.own fs') := by
      rcases set_get h3 with ⟨rfl, _, _⟩ | ⟨_, h3⟩
      · exact ⟨ds, h1⟩
      · exact ⟨fs, h3⟩
    have f2 : ∃ fs', δ[j]? = some (Slot.own fs') := by
      rcases set_get h4 with ⟨rfl, _, _⟩ | ⟨_, h4⟩
      · exact ⟨ds, h1⟩
      · exact ⟨gs, h4⟩
    obtain ⟨fs', f1⟩ := f1
    obtain ⟨gs', f2⟩ := f2
    exact l.inj k j fs' gs' q f1 f2 h5 h6
/-- a list of one's own comes in sight -/
theorem LI.shr (l : LI G w0 w σ δ) (k : Ok G w S) (h1 : δ[i]? = some (.own ds)) (h2 : σ[i]? = some (some (.ref p))) : LI G w0 (w.sub fun b => b = p) σ (δ.set i (.val (.list ds))) ∧ Ok G (w.sub fun b => b = p) S := by
  obtain ⟨p', vs', e1, e2, e3, e4, e5, e6⟩ := l.er.own i ds h1
  rw [h2] at e1
  cases e1
  obtain ⟨u1, u2⟩ := l.own i ds p h1 h2
  have oth : ∀ (k : Nat) fs q, i ≠ k → δ[k]? = some (Slot.own fs) → σ[k]? = some (some (.ref q)) → q ≠ p := fun k fs q hne g1 g2 z => hne (l.inj i k ds fs p h1 g1 h2 (by rw [← z]; exact g2))
  refine ⟨⟨l.adv.subR fun b e => by rw [e]; exact u2, ⟨by rw [List.length_set]; exact l.er.len, fun k d' h => ?_, fun k fs h => ?_⟩, fun k fs q h3 h4 => ?_, fun k j fs gs q h3 h4 h5 h6 => ?_⟩, k.sub fun b e => by rw [e]; exact e3⟩
  · rcases set_get h with ⟨rfl, hl, z⟩ | ⟨hne, h⟩
    · cases z
      exact ⟨.ref p, h2, .lst (vis_some.mpr ⟨fun q => q.2 rfl, e4⟩) e5 (repL_sub e6)⟩
    · obtain ⟨v, g1, g2⟩ := l.er.val k d' h
      exact ⟨v, g1, rep_sub g2⟩
  · rcases set_get h with ⟨rfl, hl, z⟩ | ⟨hne, h⟩
    · cases z
    · obtain ⟨q, ws, g1, g2, g3, g4, g5, g6⟩ := l.er.own k fs h
      exact ⟨q, ws, g1, ⟨g2, oth k fs q hne h g1⟩, g3, g4, g5, repL_sub g6⟩
  · rcases set_get h3 with ⟨rfl, hl, z⟩ | ⟨hne, h3⟩
    · cases z
    · exact l.own k fs q h3 h4
  · rcases set_get h3 with ⟨rfl, _, z⟩ | ⟨_, h3⟩
    · cases z
    · rcases set_get h4 with ⟨rfl, _, z⟩ | ⟨_, h4⟩
      · cases z
      · exact l.inj k j fs gs q h3 h4 h5 h6
/-- the base moved up to here: all but the lists of one's own -/
theorem LI.rebase (l : LI G w0 w σ δ) : ∃ wb, Adv w0 wb ∧ LI G wb w σ δ ∧ wb.st = w.st ∧ ∀ b o, vis w.hs w.H b = some o → vis wb.hs wb.H b = some o := by
  classical
  let A : Addr → Prop := fun b => ∃ (i : Nat) (ds : List PyData), δ[i]? = some (Slot.own ds) ∧ σ[i]? = some (some (.ref b))
  have hu : ∀ b, A b → w0.H b = none ∧ ¬ w0.hs b := fun b ⟨i, ds, h1, h2⟩ => l.own i ds b h1 h2
  have hA : ∀ b, A b → w.hs b ∧ b ∉ adr w.st := fun b ⟨i, ds, h1, h2⟩ => by
    obtain ⟨p', vs', e1, e2, e3, _⟩ := l.er.own i ds h1
    rw [h2] at e1
    cases e1
    exact ⟨e2, e3⟩
  have hH : ∀ b, ¬ A b → (if A b then none else w.H b) = w.H b := fun b n => if_neg n
  refine ⟨⟨fun b => w.hs b ∧ ¬ A b, w.st, fun b => if A b then none else w.H b⟩, ⟨l.adv.st, fun b h => ⟨l.adv.sub b h, fun z => (hu b z).2 h⟩, fun b h n => l.adv.new b h.1 n, fun b o n h => ?_, fun b h n => ?_, l.adv.fresh⟩,
    ⟨⟨⟨[], (List.append_nil _).symm⟩, fun b h => h.1, fun b h n => ?_, fun b o n h => ?_, fun b h n => (hH b h.2).symm, fun b h n => absurd h n⟩, l.er, fun i ds p h1 h2 => ⟨if_pos ⟨i, ds, h1, h2⟩, fun z => z.2 ⟨i, ds, h1, h2⟩⟩, l.inj⟩, rfl, fun b o h => ?_⟩
  · have nA : ¬ A b := fun z => by
      rw [(hu b z).1] at h
      cases h
    exact (hH b nA).trans (l.adv.keep b o n h)
  · exact (hH b fun z => (hu b z).2 h).trans (l.adv.own b h n)
  · by_cases z : A b
    · exact if_pos z
    · exact absurd ⟨h, z⟩ n
  · by_cases z : A b
    · have h' : (if A b then none else w.H b) = some o := h
      rw [if_pos z] at h'
      cases h'
    · have h' : (if A b then none else w.H b) = some o := h
      rw [if_neg z] at h'
      exact h'
  · obtain ⟨n1, h1⟩ := vis_some.mp h
    have nA : ¬ A b := fun z => n1 (hA b z).1
    exact vis_some.mpr ⟨fun z => n1 z.1, (hH b nA).trans h1⟩
end
end PyD

namespace PyD
open PySem PySem.Spec PyProof.Rows L2
section
variable {G : Gx} {T : Tb} {X : Cx} {W : WX} {n : Nat}
/-- what is asked of a statement's result -/
def SQ (G : Gx) (W : WX) (w0 : Wd) (D : Ends) : SRes → Prop
  | .nxt δ S => ∀ w' σ', LI G w0 w' σ' δ → Ok G w' S → D.nx σ' w'.H
  | .ret d S => ∀ w', Adv w0 w' → Ok G w' S → ∀ v, RepW G w' v d → D.rt v w'.H
  | .reto ds S => ∀ w', Adv w0 w' → Ok G w' S → ∀ p vs, OwnR G w0 w' p vs ds → D.rt (.ref p) w'.H
  | .exc k δ S => ∀ w' σ', LI G w0 w' σ' δ → Ok G w' S → W (.ref (G.C k)) none σ' w'.H
  | .bad => False
def tB (G : Gx) (W : WX) (f : En → Store → SRes) : TS := fun D σ H => ∃ w0 w S δ, w.H = H ∧ Ok G w S ∧ LI G w0 w σ δ ∧ SQ G W w0 D (f δ S)
variable {w0 wb w w' : Wd} {σ : L2.St} {H : Hp} {δ δ' : En} {S : Store} {D : Ends} {α : Type}
theorem LI.base (a : Adv w0 wb) (l : LI G wb w σ δ) : LI G w0 w σ δ := ⟨a.trans l.adv, l.er, fun i ds p h1 h2 => a.unk (l.own i ds p h1 h2).1 (l.own i ds p h1 h2).2, l.inj⟩
theorem SQ.base (a : Adv w0 wb) {r : SRes} (h : SQ G W w0 D r) : SQ G W wb D r := by
  cases r with
  | nxt δ S => exact fun w' σ' l k => h w' σ' (l.base a) k
  | ret d S => exact fun w' a' k => h w' (a.trans a') k
  | reto ds S => exact fun w' a' k p vs o => h w' (a.trans a') k p vs (o.from a)
  | exc k δ S => exact fun w' σ' l k => h w' σ' (l.base a) k
  | bad => exact h
theorem SQ.of (l : LI G w0 w σ δ) {r : Res α} {f : α → Store → SRes} (h : SQ G W w0 D (SRes.of r δ f)) : RQ G (XKs W σ) w r fun w' S' d => SQ G W w0 D (f d S') ∧ LI G w0 w' σ δ := by
  cases r with
  | ok a s => exact fun w' a' k => ⟨h, l.step a'⟩
  | exc k s => exact fun w' a' k' => h w' σ (l.step a') k'
  | bad => exact h
theorem SQ.thn {r : SRes} {f : En → Store → SRes} (h : SQ G W w0 D (r.thn f)) (nx : L2.St → Hp → Prop) (hn : ∀ w' σ' δ' S', LI G w0 w' σ' δ' → Ok G w' S' → SQ G W w0 D (f δ' S') → nx σ' w'.H) {bk ct : L2.St → Hp → Prop} :
    SQ G W w0 { D with nx := nx, bk := bk, ct := ct } r := by
  cases r with
  | nxt δ S => exact fun w' σ' l k => hn w' σ' δ S l k h
  | ret d S => exact h
  | reto ds S => exact h
  | exc k δ S => exact h
  | bad => exact h
theorem SQ.nb (h : SQ G W w0 D SRes.bad) : False := h
theorem own_at {i : Nat} {f : List PyData → SRes} (l : LI G w0 w σ δ) (h : SQ G W w0 D (ownAt δ i f)) : ∃ ds p vs, δ[i]? = some (.own ds) ∧ σ[i]? = some (some (.ref p)) ∧ w.H p = some (.lst vs) ∧ vs.length ≤ sizeLine ∧ RepLW G w vs ds ∧ SQ G W w0 D (f ds) := by
  unfold ownAt at h
  split at h
  · rename_i ds e
    obtain ⟨p, vs, h1, h2, h3, h4, h5, h6⟩ := l.er.own i ds e
    exact ⟨ds, p, vs, e, h1, h4, h5, h6, h⟩
  · exact h.elim

theorem s_nil : PSs X [] (tB G W fun δ S => .nxt δ S) := ⟨fun pins s σ H D I ⟨w0, w, S, δ, e, k, l, q⟩ => by
  subst e
  exact pss_nil.run pins s σ w.H D I (q w σ l k)⟩
theorem s_cons {st : Stmt} {rest : List Stmt} {f g : En → Store → SRes} (h1 : PS X st (tB G W f)) (h2 : PSs X rest (tB G W g)) : PSs X (st :: rest) (tB G W fun δ S => (f δ S).thn g) :=
  (pss_cons h1 h2).imp fun D σ H ⟨w0, w, S, δ, e, k, l, q⟩ => ⟨w0, w, S, δ, e, k, l, q.thn _ fun w' σ' δ' S' l' k' q' => ⟨w0, w', S', δ', rfl, k', l', q'⟩⟩
theorem s_pas {pos : Pos} : PS X (.Pass pos) (tB G W fun δ S => .nxt δ S) := ps_pass.imp fun D σ H ⟨w0, w, S, δ, e, k, l, q⟩ => by
  subst e
  exact q w σ l k
variable {f : En → M PyData} {i : Nat} {x : Str} {e : Expr} {pos pos' : Pos}
abbrev asgF (i : Nat) (f : En → M PyData) : En → Store → SRes := fun δ S => SRes.of (f δ S) δ fun d s' => .nxt (δ.set i (.val d)) s'
abbrev ownF (i : Nat) (f : En → M PyData) : En → Store → SRes := fun δ S => SRes.of (f δ S) δ fun d s' => match d with
  | .list ds => .nxt (δ.set i (.own ds)) s'
  | _ => .bad
theorem go_asg (h : tB G W (asgF i f) D σ H) : tD G W f σ H fun x H1 => D.nx (σ.set i (some x)) H1 := by
  obtain ⟨w0, w, S, δ, e, k, l, q⟩ := h
  exact ⟨w, S, δ, e, k, l.er, (q.of l).imp fun w' S' d a k' _ ⟨q', l'⟩ v rv => q' w' _ (l'.setV i rv) k'⟩
theorem go_own (h : tB G W (ownF i f) D σ H) : tO G W f σ H fun x H1 => D.nx (σ.set i (some x)) H1 := by
  obtain ⟨w0, w, S, δ, e, k, l, q⟩ := h
  refine ⟨w, S, δ, e, k, l.er, (q.of l).imp fun w' S' d a k' ee zz => ?_⟩
  obtain ⟨q', l'⟩ := zz; clear ee
  cases d <;> try (exact q'.elim)
  exact ⟨_, rfl, fun p vs o => q' w' _ (l.setO a i o) k'⟩
theorem s_asg (c : XOk G T X W n) (hN : X.N[i]? = some x) (hx : Loc X.env.scope x) (hf : X.fn x = true ∨ X.env.scope.names.lookup x = some .local) (hs : swapsWith e (some (.Name x pos')) pos.line X.env = pure false) (he : PE X e (tD G W f)) :
    PS X (.Assign [.Name x pos'] e pos) (tB G W (asgF i f)) := (ps_set c.nd hN hx he hs hf).imp fun D σ H q => go_asg q
theorem s_own (c : XOk G T X W n) (hN : X.N[i]? = some x) (hx : Loc X.env.scope x) (hf : X.fn x = true ∨ X.env.scope.names.lookup x = some .local) (hs : swapsWith e (some (.Name x pos')) pos.line X.env = pure false) (he : PE X e (tO G W f)) :
    PS X (.Assign [.Name x pos'] e pos) (tB G W (ownF i f)) := (ps_set c.nd hN hx he hs hf).imp fun D σ H q => go_own q
variable {elt tg iter : Expr} {ifs : List Expr} {scope : Scope} {p2 : Pos} {fs : En → M (List PyData)} {fc fe : En → M PyData} {t : Tg}
theorem s_ownC (c : XOk G T X W n) (hN : X.N[i]? = some x) (hx : X.env.scope.names.lookup x = some .local) (hs : swapsWith (.ListComp elt [⟨tg, iter, ifs, 0⟩] scope p2) (some (.Name x pos')) pos.line X.env = pure true)
    (l : LcOk G T X W elt tg iter ifs scope t fs fc fe) : PS X (.Assign [.Name x pos'] (.ListComp elt [⟨tg, iter, ifs, 0⟩] scope p2) pos) (tB G W (ownF i (lcF t fs fc fe))) := by
  obtain ⟨own, hb, ho⟩ := l.blk
  obtain ⟨wi, h1, h2⟩ := l.src
  refine (ps_setLc c.calm c.nd hN hx hs h1 hb l.tg l.tst l.elt (fsB_ok l.fsb X.env)).imp fun D σ H q => ?_
  rw [ho]
  exact go_lc h2 (go_own q)
theorem s_asgC (c : XOk G T X W n) (hN : X.N[i]? = some x) (hx : X.env.scope.names.lookup x = some .local) (hs : swapsWith (.ListComp elt [⟨tg, iter, ifs, 0⟩] scope p2) (some (.Name x pos')) pos.line X.env = pure true)
    (l : LcOk G T X W elt tg iter ifs scope t fs fc fe) : PS X (.Assign [.Name x pos'] (.ListComp elt [⟨tg, iter, ifs, 0⟩] scope p2) pos) (tB G W (asgF i (lcF t fs fc fe))) := by
  obtain ⟨own, hb, ho⟩ := l.blk
  obtain ⟨wi, h1, h2⟩ := l.src
  refine (ps_setLc c.calm c.nd hN hx hs h1 hb l.tg l.tst l.elt (fsB_ok l.fsb X.env)).imp fun D σ H q => ?_
  rw [ho]
  exact go_lc h2 (tO_of_tD (fun _ _ _ _ h => lc_list h) (go_asg q))
theorem tgset_own {d : PyData} (h : t.set d δ = some δ') : ∀ (i : Nat) ds, δ'[i]? = some (Slot.own ds) → i ∉ t.vs ∧ δ[i]? = some (Slot.own ds) := by
  intro k ds hk
  cases t with
  | one i =>
    cases h
    rcases set_get hk with ⟨_, _, z⟩ | ⟨hne, h1⟩
    · cases z
    · exact ⟨fun z => hne (List.mem_singleton.mp z).symm, h1⟩
  | two i j =>
    cases d <;> try (cases h; done)
    rename_i xs
    match xs, h with
    | [a, b], h =>
      cases h
      rcases set_get hk with ⟨_, _, z⟩ | ⟨hne, h1⟩
      · cases z
      · rcases set_get h1 with ⟨_, _, z⟩ | ⟨hne2, h2⟩
        · cases z
        · refine ⟨fun z => ?_, h2⟩
          rcases List.mem_cons.mp z with z | z
          · exact hne2 z.symm
          · exact hne (List.mem_singleton.mp z).symm
  | three i j l =>
    cases d <;> try (cases h; done)
    rename_i xs
    match xs, h with
    | [a, b, c], h =>
      cases h
      rcases set_get hk with ⟨_, _, z⟩ | ⟨hne, h1⟩
      · cases z
      · rcases set_get h1 with ⟨_, _, z⟩ | ⟨hne2, h2⟩
        · cases z
        · rcases set_get h2 with ⟨_, _, z⟩ | ⟨hne3, h3⟩
          · cases z
          · refine ⟨fun z => ?_, h3⟩
            rcases List.mem_cons.mp z with z | z
            · exact hne3 z.symm
            · rcases List.mem_cons.mp z with z | z
              · exact hne2 z.symm
              · exact hne (List.mem_singleton.mp z).symm
theorem LI.tgt {d : PyData} {σ' : L2.St} (l : LI G w0 w σ δ) (h : t.set d δ = some δ') (er : ER G w σ' δ') (hs : ∀ k, k ∉ t.vs → σ'[k]? = σ[k]?) : LI G w0 w σ' δ' where
  adv := l.adv
  er := er
  own := fun i ds p h1 h2 => by
    obtain ⟨n1, g1⟩ := tgset_own h i ds h1
    rw [hs i n1] at h2
    exact l.own i ds p g1 h2
  inj := fun i j ds es p h1 h2 h3 h4 => by
    obtain ⟨n1, g1⟩ := tgset_own h i ds h1
    obtain ⟨n2, g2⟩ := tgset_own h j es h2
    rw [hs i n1] at h3
    rw [hs j n2] at h4
    exact l.inj i j ds es p g1 g2 h3 h4
theorem tg_li {d : PyData} {v : V} {Q : L2.St → Hp → Prop} (l : LI G w0 w σ δ) (h : t.set d δ = some δ') (r : RepW G w v d) (q : ∀ σ', LI G w0 w σ' δ' → Q σ' w.H) : tgT G.K t v σ w.H Q :=
  tg_go h r l.er fun σ' er _ hs => q σ' (l.tgt h er hs)
variable {j : Nat} {y : Str}
abbrev unpF (i j : Nat) (f : En → M PyData) : En → Store → SRes := fun δ S => SRes.of (f δ S) δ fun d s' => match d with
  | .tuple [x, y] => .nxt ((δ.set i (.val x)).set j (.val y)) s'
  | _ => .bad
theorem s_unp {tge : Expr} (c : XOk G T X W n) (he : PE X e (tD G W f)) (hg : PG X tge (tgT G.K (.two i j))) (hs : swapsWithSole [tge] e pos.line X.env = pure false) (hw : swappedStores [tge] e X.env = pure none)
    (h1 : (assignEach [tge] X.env).map (·.2) = [assign tge X.env]) : PS X (.Assign [tge] e pos) (tB G W (unpF i j f)) :=
  (ps_asg he hg hs hw h1).imp fun D σ H ⟨w0, w, S, δ, e, k, l, q⟩ => by
    refine ⟨w, S, δ, e, k, l.er, (q.of l).imp fun w' S' d a k' ee zz v rv => ?_⟩
    obtain ⟨q', l'⟩ := zz; clear ee
    cases d <;> try (exact q'.elim)
    rename_i xs
    match xs, q', rv with
    | [], q', _ => exact q'.elim
    | [_], q', _ => exact q'.elim
    | _ :: _ :: _ :: _, q', _ => exact q'.elim
    | [a, b], q', rv => exact tg_li (t := .two i j) l' rfl rv fun σ' l2 => q' w' σ' l2 k'
variable {e1 e2 e3 : Expr} {f1 f2 f3 : En → M PyData}
abbrev par2F (i j : Nat) (f1 f2 : En → M PyData) : En → Store → SRes := fun δ S => SRes.of (M.bnd (f1 δ) (fun x => M.bnd (f2 δ) fun y => M.ret (x, y)) S) δ fun p s' => .nxt ((δ.set i (.val p.1)).set j (.val p.2)) s'
theorem s_par2 {px py pt : Pos} {kt k2 : Nat} {pt2 : Pos} (c : XOk G T X W n) (hi : X.N[i]? = some x) (hj : X.N[j]? = some y) (hij : i ≠ j) (hx : X.env.scope.names.lookup x = some .local) (hy : X.env.scope.names.lookup y = some .local)
    (h1 : PE X e1 (tD G W f1)) (h2 : PE X e2 (tD G W f2)) (n1 : nsB e1 = true) (n2 : nsB e2 = true) (hw : swappedStores [.Tuple [.Name x px, .Name y py] kt pt] (.Tuple [e1, e2] k2 pt2) X.env = pure (some [x, y])) :
    PS X (.Assign [.Tuple [.Name x px, .Name y py] kt pt] (.Tuple [e1, e2] k2 pt2) pos) (tB G W (par2F i j f1 f2)) :=
  (ps_par c.calm c.nd hi hj hij hx hy (pa_cons h1 (pa_cons h2 pa_nil (nsB_ok n2 [] X.env)) (nsB_ok n1 [e2] X.env)) hw rfl).imp fun D σ H ⟨w0, w, S, δ, e, k, l, q⟩ => by
    refine ⟨w, S, δ, e, k, l.er, (RQ.bnd (q.of l)).imp fun w1 S1 d1 a1 k1 _ q1 v1 r1 => ?_⟩
    refine ⟨w1, S1, δ, rfl, k1, l.er.adv a1, (RQ.bnd q1).imp fun w2 S2 d2 a2 k2 _ q2 v2 r2 => ?_⟩
    obtain ⟨q3, l3⟩ := q2 w2 (Adv.refl w2) k2
    exact ⟨v1, v2, rfl, q3 w2 _ ((l3.setV i (a2.rep r1)).setV j r2) k2⟩
abbrev par3F (i j k : Nat) (f1 f2 f3 : En → M PyData) : En → Store → SRes := fun δ S => SRes.of (M.bnd (f1 δ) (fun x => M.bnd (f2 δ) fun y => M.bnd (f3 δ) fun z => M.ret (x, y, z)) S) δ fun p s' => .nxt (((δ.set i (.val p.1)).set j (.val p.2.1)).set k (.val p.2.2)) s'
theorem s_par3 {z : Str} {px py pz pt : Pos} {kt k2 : Nat} {pt2 : Pos} {l : Nat} (c : XOk G T X W n) (hi : X.N[i]? = some x) (hj : X.N[j]? = some y) (hl : X.N[l]? = some z) (hij : i ≠ j) (hil : i ≠ l) (hjl : j ≠ l) (hx : X.env.scope.names.lookup x = some .local) (hy : X.env.scope.names.lookup y = some .local) (hz : X.env.scope.names.lookup z = some .local)
    (h1 : PE X e1 (tD G W f1)) (h2 : PE X e2 (tD G W f2)) (h3 : PE X e3 (tD G W f3)) (n1 : nsB e1 = true) (n2 : nsB e2 = true) (n3 : nsB e3 = true) (hw : swappedStores [.Tuple [.Name x px, .Name y py, .Name z pz] kt pt] (.Tuple [e1, e2, e3] k2 pt2) X.env = pure (some [x, y, z])) :
    PS X (.Assign [.Tuple [.Name x px, .Name y py, .Name z pz] kt pt] (.Tuple [e1, e2, e3] k2 pt2) pos) (tB G W (par3F i j l f1 f2 f3)) :=
  (ps_par3 c.calm c.nd hi hj hl hij hil hjl hx hy hz (pa_cons h1 (pa_cons h2 (pa_cons h3 pa_nil (nsB_ok n3 [] X.env)) (nsB_ok n2 [e3] X.env)) (nsB_ok n1 [e2, e3] X.env)) hw rfl).imp fun D σ H ⟨w0, w, S, δ, e, k, lo, q⟩ => by
    refine ⟨w, S, δ, e, k, lo.er, (RQ.bnd (q.of lo)).imp fun w1 S1 d1 a1 k1 _ q1 v1 r1 => ?_⟩
    refine ⟨w1, S1, δ, rfl, k1, lo.er.adv a1, (RQ.bnd q1).imp fun w2 S2 d2 a2 k2 _ q2 v2 r2 => ?_⟩
    refine ⟨w2, S2, δ, rfl, k2, (lo.er.adv a1).adv a2, (RQ.bnd q2).imp fun w3 S3 d3 a3 k3 _ q3 v3 r3 => ?_⟩
    obtain ⟨q4, l4⟩ := q3 w3 (Adv.refl w3) k3
    exact ⟨v1, v2, v3, rfl, q4 w3 _ (((l4.setV i (a3.rep (a2.rep r1))).setV j (a3.rep r2)).setV l r3) k3⟩
abbrev expF (f : En → M PyData) : En → Store → SRes := fun δ S => SRes.of (f δ S) δ fun _ s' => .nxt δ s'
theorem s_exp (hs : swapsWith e none pos.line X.env = pure false) (he : PE X e (tD G W f)) : PS X (.Expr e pos) (tB G W (expF f)) :=
  (ps_expr he hs).imp fun D σ H ⟨w0, w, S, δ, e, k, l, q⟩ => ⟨w, S, δ, e, k, l.er, (q.of l).imp fun w' S' d a k' _ ⟨q', l'⟩ v rv => q' w' σ l' k'⟩
abbrev ifF (f : En → M PyData) (g h : En → Store → SRes) : En → Store → SRes := fun δ S => SRes.of (f δ S) δ fun d s' => match d with
  | .bool true => g δ s'
  | .bool false => h δ s'
  | _ => .bad
theorem s_if {a b : List Stmt} {g h : En → Store → SRes} (he : PT X e (tT G W f)) (ha : PSs X a (tB G W g)) (hb : PSs X b (tB G W h)) : PS X (.If e a b pos) (tB G W (ifF f g h)) :=
  (ps_if he ha hb).imp fun D σ H ⟨w0, w, S, δ, e, k, l, q⟩ => by
    refine ⟨w, S, δ, e, k, l.er, (q.of l).imp fun w' S' d a k' ee zz => ?_⟩
    obtain ⟨q', l'⟩ := zz; clear ee
    cases d <;> try (exact q'.elim)
    rename_i b
    refine ⟨b, rfl, ?_⟩
    cases b with
    | true => exact iteT ⟨w0, w', S', δ, rfl, k', l', q'⟩
    | false => exact L2.iteF ⟨w0, w', S', δ, rfl, k', l', q'⟩
abbrev retF (f : En → M PyData) : En → Store → SRes := fun δ S => SRes.of (f δ S) δ fun d s' => .ret d s'
abbrev retoF (f : En → M PyData) : En → Store → SRes := fun δ S => SRes.of (f δ S) δ fun d s' => match d with
  | .list ds => .reto ds s'
  | _ => .bad
theorem s_ret (he : PE X e (tD G W f)) : PS X (.Return (some e) pos) (tB G W (retF f)) :=
  (ps_ret he).imp fun D σ H ⟨w0, w, S, δ, e, k, l, q⟩ => ⟨w, S, δ, e, k, l.er, (q.of l).imp fun w' S' d a k' _ ⟨q', l'⟩ v rv => q' w' l'.adv k' v rv⟩
theorem s_reto (he : PE X e (tO G W f)) : PS X (.Return (some e) pos) (tB G W (retoF f)) :=
  (ps_ret he).imp fun D σ H ⟨w0, w, S, δ, e, k, l, q⟩ => by
    refine ⟨w, S, δ, e, k, l.er, (q.of l).imp fun w' S' d a k' ee zz => ?_⟩
    obtain ⟨q', l'⟩ := zz; clear ee
    cases d <;> try (exact q'.elim)
    exact ⟨_, rfl, fun p vs o => q' w' l'.adv k' p vs (o.from l.adv)⟩
theorem s_shr {st : Stmt} {g : En → Store → SRes} (h : PS X st (tB G W g)) : PS X st (tB G W fun δ S => ownAt δ i fun ds => g (δ.set i (.val (.list ds))) S) :=
  h.imp fun D σ H ⟨w0, w, S, δ, e, k, l, q⟩ => by
    obtain ⟨ds, p, vs, h1, h2, h3, h4, h5, q2⟩ := own_at l q
    obtain ⟨l2, k2⟩ := l.shr k h1 h2
    exact ⟨w0, w.sub fun b => b = p, S, δ.set i (.val (.list ds)), e, k2, l2, q2⟩
theorem s_rse {kk : Nat} {m : Str} {jj : Nat} {p p3 : Pos} (c : XOk G T X W n) (tk : Takes X W) (he : T.es.lookup kk = some x) (hg : L2.Gl X x) (hdb : (x == ("__debug__" : Str)) = false) :
    PS X (.Raise (some (.Call (.Name x p) [.Constant (.str m) jj p2] [] p3)) none pos) (tB G W fun δ S => .exc kk δ S) := by
  have E := c.tb.es kk x he
  have h1 := E.exc
  have h2 := E.keep
  have h3 := E.sub
  have h4 := E.typ
  rw [← c.K] at h1 h2 h3 h4
  exact (ps_raise c.calm tk (pmk_own PySem.F.excBase_ValueError h1 E.at_ h2 (raises_own h3 h4) hg hdb)).imp fun D σ H ⟨w0, w, S, δ, e, k, l, q⟩ => by
    subst e
    exact q w σ l k
theorem s_for {body : List Stmt} {fb : En → Store → SRes} (c : XOk G T X W n) (hp : PassesOwn (model X.prog X.w) X.A X.env X.xe) (hs : SrcOk G W false X tg iter fs) (hfs : fsB iter = true) (hg : PG X tg (tgT G.K t)) (hb : PSs X body (tB G W fb)) :
    PS X (.For tg iter body [] pos) (tB G W fun δ S => SRes.of (fs δ S) δ fun its s' => forD fb t its δ s') := by
  obtain ⟨wi, h1, h2⟩ := hs
  refine (ps_for hp c.calm h1 hg hb (fsB_ok hfs X.env)).imp fun D σ H ⟨w0, w, S, δ, e, k, l, q⟩ => ?_
  refine h2 σ H _ ⟨w, S, δ, e, k, l.er, (q.of l).imp fun w1 S1 its a1 k1 _ ⟨q1, l1⟩ J wk => ?_⟩
  obtain ⟨wb, ab, lb, eb, vb⟩ := l1.rebase
  obtain ⟨⟨Gd, Y, wal, hGd, hY⟩, hlen⟩ := wk
  have kp : ∀ w', Adv wb w' → Kp w1 w' := fun w' a => ⟨by
    obtain ⟨m, em⟩ := a.st
    exact ⟨m, by rw [em, eb]⟩, fun b o h => a.vis b o (vb b o h)⟩
  refine for_it wal (fun i σ H => ∃ w' S' δ', w'.H = H ∧ Ok G w' S' ∧ LI G wb w' σ δ' ∧ SQ G W wb D (forD fb t (its.drop i) δ' S')) ?_ ?_ ?_ ?_
  · exact ⟨w1, S1, δ, rfl, k1, lb, by rw [List.drop_zero]; exact q1.base ab⟩
  · rintro i σ H hi ⟨w', S', δ', rfl, k', l', _⟩
    exact hGd w' (kp w' l'.adv)
  · rintro i x σ H1 H2 hi ⟨w', S', δ', rfl, k', l', q'⟩ hy
    obtain ⟨w'', d, a3, k3, rfl, hd, rd⟩ := hY i w' S' x H2 (kp w' l'.adv) k' hi hy
    have ed : its.drop i = d :: its.drop (i + 1) := by
      obtain ⟨hl, e⟩ := List.getElem?_eq_some_iff.mp hd
      rw [List.drop_eq_getElem_cons hl, e]
    rw [ed] at q'
    have q2 : SQ G W wb D (match t.set d δ' with
      | some δ' => (fb δ' S').thn (forD fb t (its.drop (i + 1)))
      | none => .bad) := q'
    cases hset : t.set d δ' with
    | none => rw [hset] at q2; exact q2.elim
    | some δ2 =>
      rw [hset] at q2
      refine tg_li (l'.step a3) hset rd fun σ2 l2 => ?_
      exact ⟨wb, w'', S', δ2, rfl, k3, l2, q2.thn _ fun w4 σ4 δ4 S4 l4 k4 q4 => ⟨w4, S4, δ4, rfl, k4, l4, q4⟩⟩
  · rintro σ H ⟨w', S', δ', rfl, k', l', q'⟩
    rw [List.drop_length] at q'
    exact q' w' σ l' k'
theorem s_whl {body : List Stmt} {fb : En → Store → SRes} {m : Nat} (hp : PassesOwn (model X.prog X.w) X.A X.env X.xe) (he : PT X e (tT G W f)) (hb : PSs X body (tB G W fb)) : PS X (.While e body [] pos) (tB G W fun δ S => whlD f fb m δ S) :=
  (ps_while hp he hb).imp fun D σ H ⟨w0, w, S, δ, e, k, l, q⟩ => by
    refine ⟨fun m σ H => ∃ w' S' δ', w'.H = H ∧ Ok G w' S' ∧ LI G w0 w' σ δ' ∧ SQ G W w0 D (whlD f fb m δ' S'), ⟨m, w, S, δ, e, k, l, q⟩, ?_⟩
    rintro m σ H ⟨w', S', δ', rfl, k', l', q'⟩
    cases m with
    | zero => exact q'.elim
    | succ m =>
      have q2 : SQ G W w0 D (SRes.of (f δ' S') δ' fun d s' => match d with
        | .bool true => (fb δ' s').thn (whlD f fb m)
        | .bool false => .nxt δ' s'
        | _ => .bad) := q'
      refine ⟨w', S', δ', rfl, k', l'.er, (q2.of l').imp fun w1 S1 d a k1 ee zz => ?_⟩
      obtain ⟨q3, l3⟩ := zz; clear ee
      cases d <;> try (exact q3.elim)
      rename_i b
      refine ⟨b, rfl, ?_⟩
      cases b with
      | false => exact L2.iteF (q3 w1 σ l3 k1)
      | true =>
        refine iteT ⟨fun σ H => ∃ w' S' δ', w'.H = H ∧ Ok G w' S' ∧ LI G w0 w' σ δ' ∧ SQ G W w0 D (whlD f fb m δ' S'), fun σ' H' h => ⟨m, Nat.lt_succ_self m, h⟩, w0, w1, S1, δ', rfl, k1, l3, ?_⟩
        exact SQ.thn q3 _ fun w4 σ4 δ4 S4 l4 k4 q4 => ⟨w4, S4, δ4, rfl, k4, l4, q4⟩
end
end PyD

namespace PyD
open PySem PySem.Spec PyProof.Rows L2
section
variable {G : Gx} {T : Tb} {X : Cx} {W : WX} {n : Nat} {w0 wb w w' : Wd} {σ : L2.St} {H : Hp} {δ δ' : En} {S : Store} {D : Ends}
variable {f g : En → M PyData} {i : Nat} {x : Str} {e e2 : Expr} {pos pos' : Pos}
abbrev appF (i : Nat) (f : En → M PyData) : En → Store → SRes := fun δ s => ownAt δ i fun ds => SRes.of (f δ s) δ fun d s' => if ds.length < lineD then .nxt (δ.set i (.own (ds ++ [d]))) s' else .bad
/-- after the part, the list is as it was -/
theorem own_later {w0 w w' : Wd} {i : Nat} {ds : List PyData} {p : Addr} {vs : List V} (l : LI G w0 w σ δ) (a : Adv w w') (h1 : δ[i]? = some (.own ds)) (h2 : σ[i]? = some (some (.ref p))) (h3 : w.H p = some (.lst vs)) : w'.H p = some (.lst vs) := by
  obtain ⟨p', vs', e1, e2, e3, e4, e5, e6⟩ := l.er.own i ds h1
  rw [h2] at e1
  cases e1
  exact (a.own p e2 e3).trans h3
theorem s_app {q1 apos cpos : Pos} (c : XOk G T X W n) (hN : X.N[i]? = some x) (hx : Vis X.env.scope x) (hd : (x == ("__debug__" : Str)) = false) (hcd : (x == ("__classdict__" : Str)) = false) (he : PE X e (tD G W f)) (h1 : nsB e = true) (h3 : lnB apos cpos = true) :
    PS X (.Expr (.Call (.Attribute (.Name x q1) "append" apos) [e] [] cpos) pos) (tB G W (appF i f)) := by
  have hm : MtR X "list.append" rAppend := mt_append
  have hz := pe_bm (T := "list") PySem.F.plainAttrs_list PySem.F.slot_list_append PySem.F.type_list_append hm (pe_var (pos := q1) hN hx hd hcd) (pa_cons he pa_nil (nsB_ok h1 [] X.env)) rfl (few1 h1 cpos X.env) h3 (nsB_ok h1 [] X.env) rfl
  refine (ps_expr (pos := pos) hz rfl).imp fun D σ H ⟨w0, w, S, δ, e, k, l, q⟩ => ?_
  subst e
  obtain ⟨ds, p, vs, g1, g2, g3, g4, g5, q2⟩ := own_at l q
  refine ⟨.ref p, g2, .inl ⟨rfl, vs, .inl (.inl g3)⟩, w, S, δ, rfl, k, l.er, (q2.of l).imp fun w' S' d a k' ee zz v rv => ?_⟩
  obtain ⟨q', l'⟩ := zz
  have g6 := own_later l a g1 g2 g3
  have hl : vs.length = ds.length := g5.length
  split at q'
  · rename_i hlt
    have hz : (vs ++ [v]).length ≤ sizeLine := by
      rw [List.length_append, List.length_cons, List.length_nil, hl, sizeLine_eq]
      unfold lineD at hlt
      omega
    obtain ⟨l2, k2⟩ := l'.put k' g1 g2 hz ((a.repL g5).append (.cons rv .nil))
    refine ⟨p, vs, v, rfl, rfl, g6, ?_, q' _ σ l2 k2⟩
    rw [hl, sizeLine_eq]
    unfold lineD at hlt
    omega
  · exact q'.elim
abbrev extF (i : Nat) (f : En → M PyData) : En → Store → SRes := fun δ s => ownAt δ i fun ds => SRes.of (f δ s) δ fun d s' => match d with
  | .list es => if ds.length + es.length ≤ lineD then .nxt (δ.set i (.own (ds ++ es))) s' else .bad
  | _ => .bad
theorem LI.same (l : LI G w0 w σ δ) {i : Nat} {u : Option V} (h : σ[i]? = some u) : LI G w0 w (σ.set i u) δ := by
  have e : σ.set i u = σ := List.ext_getElem? fun k => by
    by_cases z : i = k
    · subst z
      rw [List.getElem?_set_self (List.getElem?_eq_some_iff.mp h).1, h]
    · rw [List.getElem?_set_ne z]
  rw [e]
  exact l
theorem s_ext (c : XOk G T X W n) (hN : X.N[i]? = some x) (hx : Loc X.env.scope x) (hf : X.fn x = true ∨ X.env.scope.names.lookup x = some .local) (he : PE X e (tS G W f)) :
    PS X (.AugAssign (.Name x pos') .Add e pos) (tB G W (extF i f)) := by
  refine (ps_aug c.nd hN hx he (iop_ext (X := X)) hf).imp fun D σ H ⟨w0, w, S, δ, e, k, l, q⟩ => ?_
  subst e
  obtain ⟨ds, p, vs, g1, g2, g3, g4, g5, q2⟩ := own_at l q
  refine ⟨.ref p, g2, w, S, δ, rfl, k, l.er, (q2.of l).imp fun w' S' d a k' ee zz v rv => ?_⟩
  obtain ⟨q', l'⟩ := zz; clear ee
  have g6 := own_later l a g1 g2 g3
  have hl : vs.length = ds.length := g5.length
  cases d <;> try (exact q'.elim)
  rename_i es
  obtain ⟨b, us, rfl, z1, r1, h1⟩ := rv.list
  have q3 : SQ G W w0 D (if ds.length + es.length ≤ lineD then .nxt (δ.set i (.own (ds ++ es))) S' else .bad) := q'
  split at q3
  · rename_i hle
    have hz : (vs ++ us).length ≤ sizeLine := by
      rw [List.length_append, hl, r1.length]
      exact lineD_le hle
    obtain ⟨l2, k2⟩ := l'.put k' g1 g2 hz ((a.repL g5).append r1)
    refine ⟨p, b, vs, us, rfl, rfl, g6, h1 w' (Adv.refl w'), by rw [List.length_append] at hz; exact hz, q3 _ _ (l2.same g2) k2⟩
  · exact q3.elim
abbrev augF (i : Nat) (f : En → M PyData) : En → Store → SRes := fun δ s => match δ[i]? with
  | some (.val (.int x)) => SRes.of (f δ s) δ fun d s' => match d with
    | .int y => .nxt (δ.set i (.val (.int (x + y)))) s'
    | _ => .bad
  | _ => .bad
theorem s_aug (c : XOk G T X W n) (hN : X.N[i]? = some x) (hx : Loc X.env.scope x) (hf : X.fn x = true ∨ X.env.scope.names.lookup x = some .local) (he : PE X e (tD G W f)) :
    PS X (.AugAssign (.Name x pos') .Add e pos) (tB G W (augF i f)) := by
  refine (ps_aug c.nd hN hx he ip_add hf).imp fun D σ H ⟨w0, w, S, δ, e, k, l, q⟩ => ?_
  subst e
  cases hs : δ[i]? with
  | none =>
    have q2 : SQ G W w0 D (match δ[i]? with
      | some (.val (.int x)) => SRes.of (f δ S) δ fun d s' => match d with
        | .int y => .nxt (δ.set i (.val (.int (x + y)))) s'
        | _ => .bad
      | _ => .bad) := q
    rw [hs] at q2
    exact q2.elim
  | some sl =>
    have q2 : SQ G W w0 D (match δ[i]? with
      | some (.val (.int x)) => SRes.of (f δ S) δ fun d s' => match d with
        | .int y => .nxt (δ.set i (.val (.int (x + y)))) s'
        | _ => .bad
      | _ => .bad) := q
    rw [hs] at q2
    cases sl with
    | non => exact q2.elim
    | own ds => exact q2.elim
    | val d0 =>
      cases d0 <;> try (exact q2.elim)
      rename_i m
      obtain ⟨v0, h1, h2⟩ := l.er.val i _ hs
      cases h2
      refine ⟨.int m, h1, w, S, δ, rfl, k, l.er, (SQ.of l q2).imp fun w' S' d a k' ee zz v rv => ?_⟩
      obtain ⟨q', l'⟩ := zz; clear ee
      cases d <;> try (exact q'.elim)
      rename_i m2
      cases rv
      exact ⟨m, m2, rfl, rfl, q' w' _ (l'.setV i (.int _)) k'⟩
abbrev putF (i : Nat) (f g : En → M PyData) : En → Store → SRes := fun δ s => ownAt δ i fun ds => SRes.of (M.bnd (f δ) (fun y => M.bnd (g δ) fun x => M.ret (x, y)) s) δ fun p s' => match p.1 with
  | .int z => match ixN ds.length z with
    | some j => .nxt (δ.set i (.own (ds.set j p.2))) s'
    | none => .bad
  | _ => .bad
/-- o[k] = e, in the text -/
theorem sub_asg {o k : Expr} {p : Pos} {env : Env} (h : nslB k = true) : ∀ v, assign (.Subscript o k p) env v = (do
      let ov ← holding [v] (eval o env)
      let iv ← holding [v, ov] (eval k env)
      standAt p
      holding [v, ov, iv] (setItem ov iv v)
      release [v, ov, iv] []) := fun v => by
  cases k <;> first | rfl | cases h
theorem erase_map {α β : Type} (f : α → β) : ∀ (l : List α) (i : Nat), (l.map f).eraseIdx i = (l.eraseIdx i).map f
  | [], _ => rfl
  | _ :: _, 0 => rfl
  | a :: r, i + 1 => congrArg (f a :: ·) (erase_map f r i)
theorem s_put {q1 p3 : Pos} (c : XOk G T X W n) (hN : X.N[i]? = some x) (hx : Vis X.env.scope x) (hd : (x == ("__debug__" : Str)) = false) (hcd : (x == ("__classdict__" : Str)) = false) (he : PE X e (tD G W f)) (hk : PE X e2 (tS G W g))
    (hs : swapsWithSole [.Subscript (.Name x q1) e2 p3] e pos.line X.env = pure false) (hw : swappedStores [.Subscript (.Name x q1) e2 p3] e X.env = pure none) (h1 : (assignEach [.Subscript (.Name x q1) e2 p3] X.env).map (·.2) = [assign (.Subscript (.Name x q1) e2 p3) X.env])
    (ha : ∀ v, assign (.Subscript (.Name x q1) e2 p3) X.env v = (do
      let ov ← holding [v] (eval (.Name x q1) X.env)
      let iv ← holding [v, ov] (eval e2 X.env)
      standAt p3
      holding [v, ov, iv] (setItem ov iv v)
      release [v, ov, iv] [])) :
    PS X (.Assign [.Subscript (.Name x q1) e2 p3] e pos) (tB G W (putF i f g)) :=
  (ps_asg he (pg_sub (pe_var hN hx hd hcd) hk set_list ha) hs hw h1).imp fun D σ H ⟨w0, w, S, δ, e, k, l, q⟩ => by
    subst e
    obtain ⟨ds, p, vs, g1, g2, g3, g4, g5, q2⟩ := own_at l q
    refine ⟨w, S, δ, rfl, k, l.er, (RQ.bnd (q2.of l)).imp fun w1 S1 y a1 k1 _ q3 v rv => ?_⟩
    refine ⟨.ref p, g2, w1, S1, δ, rfl, k1, l.er.adv a1, (RQ.bnd q3).imp fun w2 S2 dx a2 k2 ee q4 vx rx => ?_⟩
    obtain ⟨q5, l5⟩ := q4 w2 (Adv.refl w2) k2
    clear ee q4
    have g6 := own_later l (a1.trans a2) g1 g2 g3
    have hl : vs.length = ds.length := g5.length
    cases dx <;> try (exact q5.elim)
    rename_i z
    have q6 : SQ G W w0 D (match ixN ds.length z with
      | some j => .nxt (δ.set i (.own (ds.set j y))) S2
      | none => .bad) := q5
    cases hj : ixN ds.length z with
    | none => rw [hj] at q6; exact q6.elim
    | some j =>
      rw [hj] at q6
      obtain ⟨l2, k2'⟩ := l5.put k2 g1 g2 (us := vs.set j v) (es := ds.set j y) (by rw [List.length_set]; exact g4) (((a1.trans a2).repL g5).set (a2.rep rv) j)
      exact ⟨p, vs, z, j, rfl, rx.int, g6, by rw [hl]; exact hj, q6 _ σ l2 k2'⟩
abbrev remF (i : Nat) (f : En → M PyData) : En → Store → SRes := fun δ s => ownAt δ i fun ds => SRes.of (f δ s) δ fun d s' => match d, intsD ds with
  | .int k, some ns => match ns.findIdx? (fun z => decide (z = k)) with
    | some j => .nxt (δ.set i (.own (ds.eraseIdx j))) s'
    | none => .bad
  | _, _ => .bad
theorem s_rem {q1 apos cpos : Pos} (c : XOk G T X W n) (hN : X.N[i]? = some x) (hx : Vis X.env.scope x) (hd : (x == ("__debug__" : Str)) = false) (hcd : (x == ("__classdict__" : Str)) = false) (he : PE X e (tD G W f)) (h1 : nsB e = true) (h3 : lnB apos cpos = true) :
    PS X (.Expr (.Call (.Attribute (.Name x q1) "remove" apos) [e] [] cpos) pos) (tB G W (remF i f)) := by
  have hm : MtR X "list.remove" rRemI := mt_remove
  have hz := pe_bm (T := "list") PySem.F.plainAttrs_list PySem.F.slot_list_remove PySem.F.type_list_remove hm (pe_var (pos := q1) hN hx hd hcd) (pa_cons he pa_nil (nsB_ok h1 [] X.env)) rfl (few1 h1 cpos X.env) h3 (nsB_ok h1 [] X.env) rfl
  refine (ps_expr (pos := pos) hz rfl).imp fun D σ H ⟨w0, w, S, δ, e, k, l, q⟩ => ?_
  subst e
  obtain ⟨ds, p, vs, g1, g2, g3, g4, g5, q2⟩ := own_at l q
  refine ⟨.ref p, g2, .inl ⟨rfl, vs, .inl (.inl g3)⟩, w, S, δ, rfl, k, l.er, (q2.of l).imp fun w' S' d a k' ee zz v rv => ?_⟩
  obtain ⟨q', l'⟩ := zz; clear ee
  have g6 := own_later l a g1 g2 g3
  cases d <;> try (exact q'.elim)
  rename_i m
  cases hi : intsD ds with
  | none =>
    rw [hi] at q'
    exact q'.elim
  | some ns =>
    rw [hi] at q'
    have q6 : SQ G W w0 D (match ns.findIdx? (fun z => decide (z = m)) with
      | some j => .nxt (δ.set i (.own (ds.eraseIdx j))) S'
      | none => .bad) := q'
    have ed := intsD_eq hi
    subst ed
    have ev := g5.ints
    subst ev
    cases rv
    cases hj : ns.findIdx? (fun z => decide (z = m)) with
    | none => rw [hj] at q6; exact q6.elim
    | some j =>
      rw [hj] at q6
      obtain ⟨hjl, hp, hno⟩ := List.findIdx?_eq_some_iff_getElem.mp hj
      have e7 : (ns.map PyData.int).eraseIdx j = (ns.eraseIdx j).map PyData.int := erase_map _ ns j
      have q7 : SQ G W w0 D (.nxt (δ.set i (.own ((ns.map PyData.int).eraseIdx j))) S') := q6
      rw [e7] at q7
      have hz2 : ((ns.eraseIdx j).map V.int).length ≤ sizeLine := by
        rw [List.length_map]
        rw [List.length_map] at g4
        exact Nat.le_trans (len_erase ns j) g4
      obtain ⟨l2, k2⟩ := l'.put k' g1 g2 hz2 (RepL.of_ints (ns.eraseIdx j))
      refine ⟨p, ns, m, j, rfl, rfl, g6, ?_, fun jj hjj he => ?_, q7 _ σ l2 k2⟩
      · rw [List.getElem?_eq_getElem hjl, of_decide_eq_true hp]
      · obtain ⟨hl2, e8⟩ := List.getElem?_eq_some_iff.mp he
        exact hno jj hjj (decide_eq_true e8)
end
end PyD

namespace PyD
open PySem PySem.Spec PyProof.Rows L2
section
variable {G : Gx} {T : Tb} {X : Cx} {W : WX} {n : Nat} {i j : Nat} {x y : Str} {q1 q2 q3 p pos apos cpos : Pos}
/-- a name in sight -/
structure NmOk (X : Cx) (i : Nat) (x : Str) : Prop where
  at_ : X.N[i]? = some x
  vis : Vis X.env.scope x
  d1 : (x == ("__debug__" : Str)) = false
  d2 : (x == ("__classdict__" : Str)) = false
theorem NmOk.pe (h : NmOk X i x) : PE X (.Name x q1) (tVar i) := pe_var h.at_ h.vis h.d1 h.d2
theorem pe_line (c : XOk G T X W n) (h : NmOk X i x) : PE X (.Attribute (.Name x q1) "line" q2) (tFld G.K (tVar i) "line") := by
  have z := pe_fld (X := X) (f := "line") (pos := q2) (h.pe (q1 := q1)) rfl
  rw [c.K] at z
  exact z
abbrev thgF (i : Nat) : En → M PyData := fun δ => withT δ i fun _ n _ => M.ret (.int n)
theorem de_thg (c : XOk G T X W n) (t : TillC G) (h : NmOk X i x) : PE X (.Attribute (.Name x q1) "things" q2) (tD G W (thgF i)) := by
  have z := pe_fld (X := X) (f := "things") (pos := q2) (h.pe (q1 := q1)) rfl
  rw [c.K] at z
  exact z.imp fun σ H Q ⟨w, S, δ, e, k, er, q⟩ => by
    subst e
    obtain ⟨j, m, rows, e1, q1⟩ := RQ.withT q
    obtain ⟨x, dx, l, vs, h1, tw⟩ := till_w k er e1
    exact ⟨.ref x, h1, x, G.T, dx, _, .int m, rfl, tw.ins, t.cl, t.nT, lk_things, q1 w (Adv.refl w) k _ (.int _)⟩
/-- where the line is asked for -/
theorem line_at (t : TillC G) {w : Wd} {S : Store} {k : Nat} {m : Int} {rows : List PyData} {a dx l : Addr} {vs : List V} {σ : L2.St} {Q : VK} (h1 : σ[i]? = some (some (.ref a))) (tw : TillW G w S k m rows a dx l vs) (q : Q (.ref l) w.H) : tFld G.K (tVar i) "line" σ w.H Q :=
  ⟨.ref a, h1, a, G.T, dx, _, .ref l, rfl, tw.ins, t.cl, t.nL, lk_line, q⟩
abbrev lcalF (c : List PyData → M PyData) (i j : Nat) : En → M PyData := fun δ => withT δ i fun _ _ rows => match valAt δ j with
  | some y => pureC [.list rows, y] (sclR (c [.list rows, y]))
  | none => M.bad
/-- a hidden list in sight for a call -/
theorem go_see {c : List PyData → M PyData} {fr : Bool} (hl : fr = true → ∀ ds S r S', c ds S = .ok r S' → ∃ es, r = .list es) {w : Wd} {S : Store} {l : Addr} {vs : List V} {rows : List PyData} {v : V} {y : PyData} {E : XK} {Q : VK} (k : Ok G w S) (hh : w.hs l) (hv : w.H l = some (.lst vs)) (hz : vs.length ≤ sizeLine) (rr : RepLW G w vs rows)
    (r2 : RepW G w v y) (q1 : RQ G E w (pureC [.list rows, y] (sclR (c [.list rows, y])) S) (fun w' _ d => ∀ v, RepW G w' v d → Q v w'.H)) : spD G c fr [.ref l, v] w.H Q E := by
  unfold pureC at q1
  split at q1
  · rename_i hz'
    simp only [List.all_cons, List.all_nil, Bool.and_true, Bool.and_eq_true] at hz'
    have hp : (PyData.list rows).plain = true := by
      have z := hz'.1
      unfold noTok at z
      exact z
    have h' : PyData.plainAll rows = true := by simpa [PyData.plain] using hp
    have rl : RepW G (w.bare.sub fun b => b = l) (.ref l) (.list rows) :=
      .lst (vis_some.mpr ⟨fun q => q.2 rfl, hv⟩) hz ((rr.mono (vis_sub (w := w) (A := fun b => b = l)) ⟨[], (List.append_nil _).symm⟩).plain_st rows vs h')
    have ry : RepW G (w.bare.sub fun b => b = l) v y := (r2.mono (vis_sub (w := w) (A := fun b => b = l)) ⟨[], (List.append_nil _).symm⟩).noTok hz'.2
    refine ⟨w.bare.sub fun b => b = l, [], [.list rows, y], rfl, k.bare.sub fun b _ => by simp [Wd.bare, adr], .cons rl (.cons ry .nil), ?_⟩
    have hA : ∀ b, b = l → w.hs b := fun b e => by rw [e]; exact hh
    unfold sclR at q1
    cases e0 : c [.list rows, y] [] with
    | bad =>
      rw [e0] at q1
      exact q1
    | ok d s =>
      rw [e0] at q1
      dsimp only at q1
      by_cases hs : sclD d = true
      · rw [if_pos hs] at q1
        cases s with
        | cons _ _ => exact q1.elim
        | nil =>
          intro w' a k'
          obtain ⟨a2, k2⟩ := revA_ok hA k a k'
          cases fr with
          | false => exact L2.iteF fun v r => q1 _ a2 k2 v (Rep.scl r hs)
          | true =>
            obtain ⟨es, rfl⟩ := hl rfl _ _ _ _ e0
            cases hs
      · rw [if_neg hs] at q1
        exact q1.elim
    | exc jj s =>
      rw [e0] at q1
      cases s with
      | cons _ _ => exact q1.elim
      | nil =>
        intro w' a k'
        obtain ⟨a2, k2⟩ := revA_ok hA k a k'
        exact q1 (w'.revA w fun b => b = l) a2 k2
  · exact q1.elim
theorem go_lcal (t : TillC G) {c : List PyData → M PyData} {fr : Bool} (hl : fr = true → ∀ ds S r S', c ds S = .ok r S' → ∃ es, r = .list es) {σ : L2.St} {H : Hp} {Q : VK} (h : tD G W (lcalF c i j) σ H Q) :
    tCallS (spD G c fr) (WE W) (tCons (tFld G.K (tVar i) "line") (tCons (tVar j) tNil)) σ H Q := by
  obtain ⟨w, S, δ, e, k, er, q⟩ := h
  subst e
  obtain ⟨kk, m, rows, e1, q⟩ := RQ.withT q
  obtain ⟨a, dx, l, vs, h1, tw⟩ := till_w k er e1
  cases e2 : valAt δ j with
  | none => rw [e2] at q; exact q.elim
  | some y =>
    rw [e2] at q
    obtain ⟨v, h2, r2⟩ := valAt_w er e2
    exact ⟨.ref a, h1, a, G.T, dx, _, .ref l, rfl, tw.ins, t.cl, t.nL, lk_line, v, h2, go_see hl k (tw.hs k) tw.lst tw.len tw.rep r2 q⟩
theorem de_lcal {f : Nat} {d : DefI} (c : XOk G T X W n) (t : TillC G) (hd : T.ds.lookup f = some d) (hg : L2.Gl X d.name) (hdb : (d.name == ("__debug__" : Str)) = false) (h1 : NmOk X i x) (h2 : NmOk X j y) :
    PE X (.Call (.Name d.name p) [.Attribute (.Name x q1) "line" q2, .Name y q3] [] pos) (tD G W (lcalF (T.call n f) i j)) :=
  (pe_callT c (c.tb.fn f d hd) hg hdb (pa_cons (pe_line c h1) (pa_cons h2.pe pa_nil (nsB_ok rfl _ _)) (nsB_ok rfl _ _)) rfl).imp fun σ H Q q => go_lcal t (fun hf => call_list hd hf) q
abbrev llenF (i : Nat) : En → M PyData := fun δ => withT δ i fun _ _ rows => M.ret (.int rows.length)
theorem de_llen (c : XOk G T X W n) (t : TillC G) (b : BlT X "len") (h : NmOk X i x) : PE X (.Call (.Name "len" p) [.Attribute (.Name x q1) "line" q2] [] pos) (tD G W (llenF i)) :=
  (pe_callB call_len_seq b.g b.m boot_len (pa_cons (pe_line c h) pa_nil (nsB_ok rfl _ _)) b.n b.d (nsB_ok rfl _ _) rfl).imp fun σ H Q ⟨w, S, δ, e, k, er, q⟩ => by
    subst e
    obtain ⟨kk, m, rows, e1, q⟩ := RQ.withT q
    obtain ⟨a, dx, l, vs, h1, tw⟩ := till_w k er e1
    refine line_at t h1 tw ⟨l, vs, rfl, .inl (.inl (.inl tw.lst)), ?_⟩
    have q1 := q w (Adv.refl w) k (.int rows.length) (.int _)
    rw [tw.rep.length]
    exact q1
abbrev lempF (i : Nat) : En → M PyData := fun δ => withT δ i fun _ _ rows => M.opt (cmpD .eq (.list rows) (.list []))
theorem go_lemp (t : TillC G) {σ : L2.St} {H : Hp} {Q : VK} (h : tD G W (lempF i) σ H Q) : tOp (rEqA G.K) (tFld G.K (tVar i) "line") (tLst tNil) σ H Q := by
  obtain ⟨w, S, δ, e, k, er, q⟩ := h
  subst e
  obtain ⟨kk, m, rows, e1, q⟩ := RQ.withT q
  obtain ⟨a, dx, l, vs, h1, tw⟩ := till_w k er e1
  obtain ⟨d, e2, q2⟩ := RQ.opt' k q
  have e3 : (if okD (.list rows) && okD (.list []) then some (PyData.bool (PyData.eqv (.list rows) (.list []))) else none) = some d := e2
  split at e3
  · rename_i hz
    cases e3
    rw [Bool.and_eq_true] at hz
    refine line_at t h1 tw ⟨Nat.zero_le _, fun r hr => ?_⟩
    have k0 : ∀ b o, w.H b = some o → (upd w.H r (.lst [])) b = some o := fun b o e => (upd_ne (ne_of_none e hr)).trans e
    obtain ⟨a2, k2, o2⟩ := new_own (vs := []) (ds := []) k hr (Nat.zero_le _) .nil
    refine ⟨.list rows, .list [], .lst (.inl (.inl (k0 _ _ tw.lst))) (RepL.dp (fun b o e => k0 b o (vis_H w b o e)) _ _ tw.rep (by simpa [PyData.plain] using okD_plain hz.1)), .lst (.inl (.inl upd_same)) .nil, hz.1, hz.2, ?_⟩
    exact q2 _ a2 k2 _ (.bl _)
  · cases e3
theorem de_lemp (c : XOk G T X W n) (t : TillC G) (h : NmOk X i x) : PE X (.Compare (.Attribute (.Name x q1) "line" q2) [.Eq] [.List [] q3] pos) (tD G W (lempF i)) := by
  have ho : OpR X (compareOp .Eq) (rEqA G.K) := by rw [← c.K]; exact op_eqA c.u64
  have z := pe_cmpR (pos := pos) (op := .Eq) (b := .List [] q3) ho (pe_line (q1 := q1) (q2 := q2) c h) (pe_lst pa_nil) rfl
  exact z.imp fun σ H Q q => go_lemp t q
theorem dt_lemp (c : XOk G T X W n) (t : TillC G) (h : NmOk X i x) : PT X (.Compare (.Attribute (.Name x q1) "line" q2) [.Eq] [.List [] q3] pos) (tT G W (lempF i)) := by
  have ho : OpR X (compareOp .Eq) (rEqA G.K) := by rw [← c.K]; exact op_eqA c.u64
  have z := pt_cmpR (pos := pos) (op := .Eq) (b := .List [] q3) ho (pe_line (q1 := q1) (q2 := q2) c h) (pe_lst pa_nil) rfl
  exact z.imp fun σ H Q q => go_lemp t (te_of_d q)
abbrev lcpyF (i : Nat) : En → M PyData := fun δ => withT δ i fun _ _ rows => M.ret (.list rows)
theorem do_lcpy (c : XOk G T X W n) (t : TillC G) (b : BlT X "list") (h : NmOk X i x) : PE X (.Call (.Name "list" p) [.Attribute (.Name x q1) "line" q2] [] pos) (tO G W (lcpyF i)) :=
  (pe_callTy call_list_of b.g b.m boot_list (pa_cons (pe_line c h) pa_nil (nsB_ok rfl _ _)) b.n b.d (nsB_ok rfl _ _) rfl).imp fun σ H Q ⟨w, S, δ, e, k, er, q⟩ => by
    subst e
    obtain ⟨kk, m, rows, e1, q⟩ := RQ.withT q
    obtain ⟨a, dx, l, vs, h1, tw⟩ := till_w k er e1
    refine line_at t h1 tw ⟨l, vs, rfl, .inl (.inl (.inl tw.lst)), fun r hr => ?_⟩
    obtain ⟨a2, k2, o2⟩ := new_own k hr tw.len tw.rep
    obtain ⟨ds, e3, q3⟩ := q _ a2 k2
    cases e3
    exact q3 r vs o2
theorem lcpy_list {C : Nat → List PyData → M PyData} {δ : En} {S : Store} {d : PyData} {S' : Store} (h : lcpyF i δ S = .ok d S') : ∃ ds, d = .list ds := by
  unfold lcpyF withT at h
  split at h
  · cases h; exact ⟨_, rfl⟩
  · cases h
abbrev lpopF (i : Nat) : En → M PyData := fun δ => withT δ i popD
theorem last_at {G : Gx} {w : Wd} {vs : List V} {rows : List PyData} {d : PyData} (r : RepLW G w vs rows) (h : rows[rows.length - 1]? = some d) : ∃ v, vs[vs.length - 1]? = some v ∧ RepW G w v d := by
  obtain ⟨v, h1, h2⟩ := r.get' h
  rw [← r.length] at h1
  exact ⟨v, h1, h2⟩
theorem dropLast_rep {G : Gx} {w : Wd} {vs : List V} {rows : List PyData} (r : RepLW G w vs rows) : RepLW G w vs.dropLast rows.dropLast := by
  rw [List.dropLast_eq_take, List.dropLast_eq_take, ← r.length]
  exact RepL.take _ r
theorem de_lpop (c : XOk G T X W n) (t : TillC G) (h : NmOk X i x) (hl : lnB apos cpos = true) : PE X (.Call (.Attribute (.Attribute (.Name x q1) "line" q2) "pop" apos) [] [] cpos) (tD G W (lpopF i)) := by
  have z := pe_bm0 (T := "list") PySem.F.plainAttrs_list PySem.F.slot_list_pop PySem.F.type_list_pop (show MtR X "list.pop" rPop from mt_pop) (pe_line (q1 := q1) (q2 := q2) c h) (apos := apos) (cpos := cpos) rfl hl
  refine z.imp fun σ H Q ⟨w, S, δ, e, k, er, q⟩ => ?_
  subst e
  obtain ⟨kk, m, rows, e1, q⟩ := RQ.withT q
  obtain ⟨a, dx, l, vs, h1, tw⟩ := till_w k er e1
  unfold popD at q
  cases hr : rows[rows.length - 1]? with
  | none => rw [hr] at q; exact q.elim
  | some d =>
    rw [hr] at q
    obtain ⟨v, g1, g2⟩ := last_at tw.rep hr
    obtain ⟨a2, k2⟩ := tw.put k (us := vs.dropLast) (es := rows.dropLast) (by rw [List.length_dropLast]; have := tw.len; omega) (dropLast_rep tw.rep)
    exact line_at t h1 tw ⟨.inl ⟨rfl, vs, .inl (.inl tw.lst)⟩, l, vs, v, rfl, rfl, tw.lst, g1, q _ a2 k2 v (a2.rep g2)⟩
abbrev lappF (i j : Nat) : En → Store → SRes := fun δ s => match tillAt δ i s, valAt δ j with
  | some (k, n, rows), some y => if rows.length < lineD then .nxt δ (s.set k (.till n (rows ++ [y]))) else .bad
  | _, _ => .bad
theorem s_lapp (c : XOk G T X W n) (t : TillC G) (h : NmOk X i x) (h2 : NmOk X j y) (hl : lnB apos cpos = true) :
    PS X (.Expr (.Call (.Attribute (.Attribute (.Name x q1) "line" q2) "append" apos) [.Name y q3] [] cpos) pos) (tB G W (lappF i j)) := by
  have hm : MtR X "list.append" rAppend := mt_append
  have hz := pe_bm (T := "list") PySem.F.plainAttrs_list PySem.F.slot_list_append PySem.F.type_list_append hm (pe_line (q1 := q1) (q2 := q2) c h) (pa_cons (h2.pe (q1 := q3)) pa_nil (nsB_ok rfl [] X.env)) rfl (few1 rfl cpos X.env) hl (nsB_ok rfl [] X.env) rfl
  refine (ps_expr (pos := pos) hz rfl).imp fun D σ H ⟨w0, w, S, δ, e, k, l, q⟩ => ?_
  subst e
  cases e1 : tillAt δ i S with
  | none =>
    have q' : SQ G W w0 D (match tillAt δ i S, valAt δ j with
      | some (k, n, rows), some y => if rows.length < lineD then .nxt δ (S.set k (.till n (rows ++ [y]))) else .bad
      | _, _ => .bad) := q
    rw [e1] at q'
    exact q'.elim
  | some tt =>
    obtain ⟨kk, m, rows⟩ := tt
    have q' : SQ G W w0 D (match tillAt δ i S, valAt δ j with
      | some (k, n, rows), some y => if rows.length < lineD then .nxt δ (S.set k (.till n (rows ++ [y]))) else .bad
      | _, _ => .bad) := q
    rw [e1] at q'
    cases e2 : valAt δ j with
    | none => rw [e2] at q'; exact q'.elim
    | some y =>
      rw [e2] at q'
      dsimp only at q'
      split at q'
      · rename_i hlt
        obtain ⟨a, dx, ll, vs, h1, tw⟩ := till_w k l.er e1
        obtain ⟨v, g1, g2⟩ := valAt_w l.er e2
        have hvl : vs.length = rows.length := tw.rep.length
        have hz : (vs ++ [v]).length ≤ sizeLine := by
          rw [List.length_append, List.length_cons, List.length_nil, hvl, sizeLine_eq]
          unfold lineD at hlt
          omega
        obtain ⟨a2, k2⟩ := tw.put k (us := vs ++ [v]) (es := rows ++ [y]) hz (tw.rep.append (.cons g2 .nil))
        refine ⟨.ref a, h1, a, G.T, dx, _, .ref ll, rfl, tw.ins, t.cl, t.nL, lk_line, .inl ⟨rfl, vs, .inl (.inl tw.lst)⟩, v, g1, ll, vs, v, rfl, rfl, tw.lst, ?_, q' _ σ (l.step a2) k2⟩
        rw [hvl, sizeLine_eq]
        unfold lineD at hlt
        omega
      · exact q'.elim
end
end PyD

namespace PyD
open PySem PySem.Spec PyProof.Rows L2
theorem meth_ev {o : Expr} {m : Str} {es : List Expr} {env : Env} {apos pos : Pos} (hb : atB o = true) (hs : es.all nsB = true) (h30 : es.length < 10) (hl : lnB apos pos = true) :
    eval (.Call (.Attribute o m apos) es [] pos) env = (do
      let ov ← eval o env
      standAt apos.atName
      let (f, first) ← holding [ov] (getMethod ov m (do return (← importBound o env).getD true))
      callWith pos f first (backTo pos (starEach es env)) (backToKw pos (keywordEach [] env))) := by
  have hform : methodCallForm (es.length + ([] : List Keyword).length) (backTo pos (starEach es env)) (backToKw pos (keywordEach [] env)) = true := by
    unfold methodCallForm
    rw [nsB_all hs]
    have e : (es.length + ([] : List Keyword).length + (if (backToKw pos (keywordEach [] env)).isEmpty then 0 else 1)) < 30 := by
      have e1 : (backToKw pos (keywordEach [] env)).isEmpty = true := rfl
      rw [if_pos e1]
      simp only [List.length_nil]
      omega
    have e2 : (backToKw pos (keywordEach [] env)).all (·.1.isSome) = true := rfl
    rw [e2, decide_eq_true e]
    rfl
  have hpos : methodCallPos true o env apos pos = pure pos := by
    have hl' : (apos.endLine == pos.line) = true := hl
    unfold methodCallPos
    simp [hl']
  rw [arm_eval_Call, atB_ok hb]
  unfold methodCall calleeOf
  rw [hform, hpos]
  rfl
def tMethW (C : Addr) (m : Str) (sp : Sp) (E : L2.St → XK) (ta : TE) (t : TA) : TE := fun σ H Q => ta σ H fun x H1 => ∃ a dx fs, x = .ref a ∧ H1 a = some (.ins C dx fs) ∧ fs.lookup m = none ∧ t σ H1 fun vs H2 => sp (x :: vs) H2 Q (E σ)
section
variable {X : Cx} {CX : CXT} {k : Nat} {f C : Addr} {fd : FuncData} {ps : List Str} {sp : Sp} {E : L2.St → XK} {x m : Str} {p pos apos : Pos} {e o : Expr} {es : List Expr} {ta : TE} {t : TA}
theorem pe_methT (he : PE X o ta) (c : Cls X.K C) (hm : Meth X.K C m f) (F : FnOk X.prog X.w X.K X.mg X.base CX k f fd ps sp) (hr : Room k X.A) (hb : Binds X.K fd ps []) (hx : ∀ σ, PassesAt CX X σ (E σ)) (ha : PA X [e] t)
    (h1 : atB o = true) (h2 : nsB e = true) (h3 : lnB apos pos = true) : PE X (.Call (.Attribute o m apos) [e] [] pos) (tMethW C m sp E ta t) := by
  refine ⟨fun pins s σ H Q I h => ?_⟩
  refine PySem.W.methodCall_KW (thn (he.run pins s σ H _ I h) fun u s1 ⟨x, H1, I1, rx, a, dx, fs, ex, ea, l, q⟩ => ?_) (meth_ev h1 (by rw [List.all_cons, h2] <;> rfl) (by show 1 < 10; decide) h3)
  subst ex
  obtain rfl : u = Value.ref a := rx
  refine getmeth_ok I1 ea c hm l ?_
  refine PySem.W.callWith_K (first := [.ref a]) (h₀ := X.base) I.ok.mod.kin hm.kp (thn (ha.run pos pins s1 σ H1 _ I1 q) fun us s2 ⟨vs, H2, I2, r, q2⟩ => ⟨I2.kIn, ?_⟩) (nsB_ok h2 [] X.env) rfl
  exact run_fnS (us := .ref a :: us) (vs := .ref a :: vs) F hr hb (hx σ) I2 (.cons rfl r) q2
theorem pe_methT0 (he : PE X o ta) (c : Cls X.K C) (hm : Meth X.K C m f) (F : FnOk X.prog X.w X.K X.mg X.base CX k f fd ps sp) (hr : Room k X.A) (hb : Binds X.K fd ps []) (hx : ∀ σ, PassesAt CX X σ (E σ))
    (h1 : atB o = true) (h3 : lnB apos pos = true) : PE X (.Call (.Attribute o m apos) [] [] pos) (tMethW C m sp E ta tNil) := by
  refine ⟨fun pins s σ H Q I h => ?_⟩
  refine PySem.W.methodCall_KW (thn (he.run pins s σ H _ I h) fun u s1 ⟨x, H1, I1, rx, a, dx, fs, ex, ea, l, q⟩ => ?_) (meth_ev h1 rfl (by decide) h3)
  subst ex
  obtain rfl : u = Value.ref a := rx
  refine getmeth_ok I1 ea c hm l ?_
  exact PySem.W.callWith_K0 (first := [.ref a]) I1.kIn hm.kp (run_fnS (us := [.ref a]) (vs := [.ref a]) F hr hb (hx σ) I1 (.cons rfl .nil) q)
def tMakeW (C : Addr) (sp : Sp) (E : L2.St → XK) (t : TA) : TE := fun σ H Q => t σ H fun vs H1 => ∀ x dx, H1 x = none → H1 dx = none → dx ≠ x →
  sp (.ref x :: vs) (upd (upd H1 dx (.own x)) x (.ins C dx [])) (fun v H2 => v = .non ∧ Q (.ref x) H2) (E σ)
theorem run_makeT {pins : List (Addr × Obj)} {σ : L2.St} {H : Hp} {s : Shared} {Q : VK} {us : List Value} {vs : List V} (M : Mk X.K C f) (F : FnOk X.prog X.w X.K X.mg X.base CX k f fd ps sp) (hr : Room (k + 1) X.A) (hb : Binds X.K fd ps [])
    (hx : ∀ σ, PassesAt CX X σ (E σ)) (I : Inv X pins σ H s) (r : Vals vs us)
    (h : ∀ x dx, H x = none → H dx = none → dx ≠ x → sp (.ref x :: vs) (upd (upd H dx (.own x)) x (.ins C dx [])) (fun v H2 => v = .non ∧ Q (.ref x) H2) (E σ)) :
    wpAny (model X.prog X.w) X.A (call (.ref C) us) (EP X pins σ Q) X.xe s := by
  have hq := h (s.heap.objs.size + 1) s.heap.objs.size (I.hok.fresh (Nat.le_succ _)) (I.hok.fresh (Nat.le_refl _)) (Nat.ne_of_lt (Nat.lt_succ_self _))
  have I2 := Inv.made (C := C) I
  have r2 : Vals (V.ref (s.heap.objs.size + 1) :: vs) (Value.ref (s.heap.objs.size + 1) :: us) := .cons rfl r
  have hl : (Value.ref (s.heap.objs.size + 1) :: us).length = ps.length := by
    have e := r2.length
    rw [F.len _ _ _ _ hq] at e
    exact e.symm
  have b := hb _ (Value.ref (s.heap.objs.size + 1) :: us) I2.kIn (by rw [List.append_nil]; exact hl)
  rw [List.append_nil] at b
  refine wpAny_call (make_map (f := f) I.kIn M.makes M.init (beq_iff_eq.mp M.fn) (codeAny_mono (F.run _ X.stack _ _ ⟨Value.ref (s.heap.objs.size + 1) :: us, []⟩ (Value.ref (s.heap.objs.size + 1) :: us) _ _ (E σ) (hr.make C us [])
    (I2.env0.make C us []) b r2 hq) fun r s' hq' => ?_))
  cases r with
  | error e => exact hx σ pins _ _ e s' I2 hq'
  | ok fl =>
    cases fl with
    | ret u =>
      obtain ⟨v, H', I3, rv, ev, q3⟩ := I2.after hq'
      subst ev
      exact ⟨rv, ⟨V.ref (s.heap.objs.size + 1), H', I3, rfl, q3⟩⟩
    | next => exact False.elim hq'
    | brk => exact False.elim hq'
    | cont => exact False.elim hq'
theorem pe_makeT (M : Mk X.K C f) (F : FnOk X.prog X.w X.K X.mg X.base CX k f fd ps sp) (hr : Room (k + 1) X.A) (hg : L2.Gl X x) (hm : X.mg x = some (.ref C)) (hb : Binds X.K fd ps []) (hx : ∀ σ, PassesAt CX X σ (E σ))
    (ha : PA X [e] t) (hdb : (x == ("__debug__" : Str)) = false) (he : nsB e = true) : PE X (.Call (.Name x p) [e] [] pos) (tMakeW C sp E t) := by
  refine ⟨fun pins s σ H Q I h => ?_⟩
  refine wpAny_Call_Name_kw (ld_glob I hg hm ?_ hdb)
  refine PySem.W.callWith_K (h₀ := X.base) I.ok.mod.kin M.kp (thn (ha.run pos pins s σ H _ I h) fun us s1 ⟨vs, H1, I1, r, q⟩ => ⟨I1.kIn, ?_⟩) (nsB_ok he [] X.env) rfl
  exact run_makeT M F hr hb hx I1 r q
end
section
variable {X : Cx} {C f : Addr} {fd : FuncData}
def rLnT (G : Gx) : List V → Hp → VK → Prop := fun xs H Q => ∃ (x dx l : Addr) (ys : List V) (n : Int), xs = [.ref x] ∧ H x = some (.ins G.T dx [("things", .int n), ("line", .ref l)]) ∧ H l = some (.lst ys) ∧ ys.length ≤ sizeLine ∧ Q (.int ys.length) H
theorem cr_lnT {G : Gx} (hK : X.K = G.K) (hm : Meth X.K G.T "__len__" f) (F : FnOk X.prog X.w X.K X.mg X.base (L2.CX X.prog X.w) 1 f fd ["self"] (spLn G)) (hr : Room 2 X.A) (hb : Binds X.K fd ["self"] []) : CallR X (.builtin "len") (rLnT G) := by
  intro pins s σ H xs us Q I r h
  obtain ⟨x, dx, l, ys, n, rfl, hx, hl, hz, q⟩ := h
  obtain ⟨u, rfl, rx⟩ := vals1 r
  cases rx
  obtain ⟨mA, J, _⟩ := ins_get I.hok hx
  obtain ⟨od, J, _⟩ := J.look
  have hfF : PySem.W.typeIn X.K (.ref f) = some (.type "function") := beq_iff_eq.mp hm.fn
  refine Calls.call_function_entry PySem.kind_len PySem.plain_len PySem.entry_len (PySem.args_len1 _) ?_
  unfold Builtin.«len»
  refine wpAny_bind (m := oneArg "len" _) (wpAny_pure ?_)
  have hsp : spLn G [.ref x] H (fun v H' => v = .int ys.length ∧ Q v H') (fun _ _ _ => False) := ⟨x, dx, l, ys, n, rfl, hx, hl, rfl, q⟩
  have hlen := F.len _ _ _ _ hsp
  have b := hb s [.ref x] I.kIn (by rw [List.append_nil]; rfl)
  rw [List.append_nil] at b
  refine wpAny_bind (m := callSpecial? (.ref x) (Str.ofString "__len__")) ?_
  unfold callSpecial?
  have sp1 : ∀ {Q' : Option Value → Shared → Prop} {A' : Around} {E' : Value → Shared → Prop}, Q' (some (.ref f)) s → wpAny (model X.prog X.w) A' (specialOf (.ref x) "__len__") Q' E' s := fun q => by
    unfold specialOf
    exact wpAny_bind (J.type.here ((PySem.W.looks_findIn I.kIn hm.at_).here q))
  refine wpAny_bind (sp1 ?_)
  refine wpAny_holding (wpAny_bind ((PySem.W.bind_fn I.kIn (.ref x) hfF).here ?_))
  refine wpAny_bind (wpAny_mono (wpAny_call (codeAny_mono (F.run X.A.in1 X.stack s H ⟨[.ref x], []⟩ [.ref x] [.ref x] _ _ hr.in1 I.env0.in1 b (.cons rfl .nil) hsp) fun r s' hq => ?_)) (fun v s' hv => wpAny_pure hv) fun _ _ e => e)
  cases r with
  | error e =>
    obtain ⟨_, _, _, _, _, _, _, _, _, _, _, _, z⟩ := hq
    exact z.elim
  | ok fl =>
    cases fl with
    | next => exact False.elim hq
    | brk => exact False.elim hq
    | cont => exact False.elim hq
    | ret u =>
      obtain ⟨v, H', I', rv, ev, qq⟩ := I.after hq
      subst ev
      obtain ⟨t, rfl⟩ := rv
      refine wpAny_bind (wpAny_holding (wpAny_pure ?_))
      refine wpAny_bind (wpAny_letGo ?_)
      have hs : sizeLine = 16777216 := sizeLine_eq
      show wpAny _ _ (if ((ys.length : Nat) : Int) < 0 then _ else _) _ _ _
      rw [if_neg (by omega)]
      show wpAny _ _ (if ((ys.length : Nat) : Int) ≥ 2 ^ 63 then _ else _) _ _ _
      rw [if_neg (by omega)]
      exact wpAny_bind (wpAny_mkInt (wpAny_pure ⟨_, rfl, ⟨.int ys.length, H', I'.tok _, ⟨_, rfl⟩, qq⟩⟩))
end
end PyD

namespace PyD
open PySem PySem.Spec PyProof.Rows L2
section
variable {G : Gx} {T : Tb} {X : Cx} {W : WX} {n : Nat} {E : XK} {w : Wd} {S : Store} {α : Type}
theorem RQ.isT {x : PyData} {f : Unit → M α} {P : Wd → Store → α → Prop} (h : RQ G E w (M.bnd (isT x) f S) P) : ∃ k n rows, tokAt x S = some (k, .till n rows) ∧ RQ G E w (f () S) P := by
  unfold M.bnd PyD.isT at h
  split at h
  · rename_i e
    split at e
    · rename_i k n rows e2
      cases e
      exact ⟨k, n, rows, e2, h⟩
    · cases e
  · rename_i e
    split at e <;> cases e
  · exact h.elim
theorem RQ.isL {x : PyData} {f : Unit → M α} {P : Wd → Store → α → Prop} (h : RQ G E w (M.bnd (isL x) f S) P) : ∃ k ds, tokAt x S = some (k, .lst ds) ∧ RQ G E w (f () S) P := by
  unfold M.bnd PyD.isL at h
  split at h
  · rename_i e
    split at e
    · rename_i k ds e2
      cases e
      exact ⟨k, ds, e2, h⟩
    · cases e
  · rename_i e
    split at e <;> cases e
  · exact h.elim
abbrev mc1F (c : List PyData → M PyData) (ft fa : En → M PyData) : En → M PyData := fun δ => M.bnd (ft δ) fun x => M.bnd (isT x) fun _ => M.bnd (fa δ) fun y => c [x, y]
abbrev mc0F (c : List PyData → M PyData) (ft : En → M PyData) : En → M PyData := fun δ => M.bnd (ft δ) fun x => M.bnd (isT x) fun _ => c [x]
variable {c : List PyData → M PyData} {fr : Bool} {ft fa : En → M PyData} {m : Str} {σ : L2.St} {H : Hp} {Q : VK}
theorem go_end {w1 : Wd} {S1 : Store} {ds : List PyData} (hl : fr = true → ∀ ds S r S', c ds S = .ok r S' → ∃ es, r = .list es) (q : RQ G E w1 (c ds S1) fun w' _ d => ∀ v, RepW G w' v d → Q v w'.H) :
    RQ G E w1 (c ds S1) fun w' _ d => if fr = true then ∃ es, d = .list es ∧ ∀ p us, OwnR G w1 w' p us es → Q (.ref p) w'.H else ∀ v, RepW G w' v d → Q v w'.H := q.imp fun w' S' d a k' e0 q3 => by
  cases fr with
  | false => exact L2.iteF q3
  | true =>
    obtain ⟨es, rfl⟩ := hl rfl _ _ _ _ e0
    refine iteT ⟨es, rfl, fun p us o => ?_⟩
    obtain ⟨a4, k4, r4⟩ := o.show a k'
    rw [e0] at q
    exact q _ a4 k4 _ r4
theorem go_endO {w0 w1 : Wd} {S1 : Store} {ds : List PyData} (a1 : Adv w0 w1) (q : RQ G E w1 (c ds S1) fun w' _ d => ∃ es, d = .list es ∧ ∀ p us, OwnR G w0 w' p us es → Q (.ref p) w'.H) :
    RQ G E w1 (c ds S1) fun w' _ d => if true = true then ∃ es, d = .list es ∧ ∀ p us, OwnR G w1 w' p us es → Q (.ref p) w'.H else ∀ v, RepW G w' v d → Q v w'.H := q.imp fun w' S' d a k' e0 q3 => by
  obtain ⟨es, e5, q5⟩ := q3
  exact iteT ⟨es, e5, fun p us o => q5 p us (o.from a1)⟩
theorem go_mc1 (hl : fr = true → ∀ ds S r S', c ds S = .ok r S' → ∃ es, r = .list es) (n1 : (m == ("things" : Str)) = false) (n2 : (m == ("line" : Str)) = false) (h : tD G W (mc1F c ft fa) σ H Q) :
    tMethW G.T m (spD G c fr) (WE W) (tD G W ft) (tCons (tD G W fa) tNil) σ H Q := by
  obtain ⟨w, S, δ, e, k, er, q⟩ := h
  refine ⟨w, S, δ, e, k, er, (RQ.bnd q).imp fun w1 S1 dx a1 k1 _ q1 x rx => ?_⟩
  obtain ⟨kk, m0, rows, e1, q2⟩ := RQ.isT q1
  obtain ⟨a, dx0, l, vs, rfl, tw⟩ := till_tok k1 rx e1
  refine ⟨a, dx0, _, rfl, tw.ins, lk_no n1 n2, w1, S1, δ, rfl, k1, er.adv a1, (RQ.bnd q2).imp fun w2 S2 dy a2 k2 _ q3 y ry => ?_⟩
  exact ⟨w2, S2, [dx, dy], rfl, k2, .cons (a2.rep rx) (.cons ry .nil), go_end hl q3⟩
theorem go_mc1O (n1 : (m == ("things" : Str)) = false) (n2 : (m == ("line" : Str)) = false) (h : tO G W (mc1F c ft fa) σ H Q) :
    tMethW G.T m (spD G c true) (WE W) (tD G W ft) (tCons (tD G W fa) tNil) σ H Q := by
  obtain ⟨w, S, δ, e, k, er, q⟩ := h
  refine ⟨w, S, δ, e, k, er, (RQ.bnd q).imp fun w1 S1 dx a1 k1 _ q1 x rx => ?_⟩
  obtain ⟨kk, m0, rows, e1, q2⟩ := RQ.isT q1
  obtain ⟨a, dx0, l, vs, rfl, tw⟩ := till_tok k1 rx e1
  refine ⟨a, dx0, _, rfl, tw.ins, lk_no n1 n2, w1, S1, δ, rfl, k1, er.adv a1, (RQ.bnd q2).imp fun w2 S2 dy a2 k2 _ q3 y ry => ?_⟩
  exact ⟨w2, S2, [dx, dy], rfl, k2, .cons (a2.rep rx) (.cons ry .nil), go_endO (a1.trans a2) q3⟩
theorem go_mc0 (hl : fr = true → ∀ ds S r S', c ds S = .ok r S' → ∃ es, r = .list es) (n1 : (m == ("things" : Str)) = false) (n2 : (m == ("line" : Str)) = false) (h : tD G W (mc0F c ft) σ H Q) :
    tMethW G.T m (spD G c fr) (WE W) (tD G W ft) tNil σ H Q := by
  obtain ⟨w, S, δ, e, k, er, q⟩ := h
  refine ⟨w, S, δ, e, k, er, (RQ.bnd q).imp fun w1 S1 dx a1 k1 _ q1 x rx => ?_⟩
  obtain ⟨kk, m0, rows, e1, q2⟩ := RQ.isT q1
  obtain ⟨a, dx0, l, vs, rfl, tw⟩ := till_tok k1 rx e1
  exact ⟨a, dx0, _, rfl, tw.ins, lk_no n1 n2, w1, S1, [dx], rfl, k1, .cons rx .nil, go_end hl q2⟩
theorem go_mc0O (n1 : (m == ("things" : Str)) = false) (n2 : (m == ("line" : Str)) = false) (h : tO G W (mc0F c ft) σ H Q) :
    tMethW G.T m (spD G c true) (WE W) (tD G W ft) tNil σ H Q := by
  obtain ⟨w, S, δ, e, k, er, q⟩ := h
  refine ⟨w, S, δ, e, k, er, (RQ.bnd q).imp fun w1 S1 dx a1 k1 _ q1 x rx => ?_⟩
  obtain ⟨kk, m0, rows, e1, q2⟩ := RQ.isT q1
  obtain ⟨a, dx0, l, vs, rfl, tw⟩ := till_tok k1 rx e1
  exact ⟨a, dx0, _, rfl, tw.ins, lk_no n1 n2, w1, S1, [dx], rfl, k1, .cons rx .nil, go_endO a1 q2⟩
variable {f : Nat} {d : DefI} {o e : Expr} {p pos apos : Pos}
theorem tl_of (c : XOk G T X W n) (h : tlB T = true) : ∃ fT fI chk, T.tl = some (fT, fI, chk) ∧ TlT X.prog X.w G X.mg X.base T n fT := by
  have h' := h
  unfold tlB at h
  split at h
  · cases h
  · rename_i fT fI chk e
    exact ⟨fT, fI, chk, e, c.tb.tl fT fI chk e h'⟩
theorem tl_c (c : XOk G T X W n) (h : tlB T = true) : TillC G := by
  obtain ⟨_, _, _, _, t⟩ := tl_of c h
  exact t.c
theorem pe_mt1 {ta : TE} {t : TA} (c : XOk G T X W n) (hB : tlB T = true) (h0 : T.ds.lookup f = none) (hd : T.mt.lookup f = some d) (ho : PE X o ta) (ha : PA X [e] t) (h1 : atB o = true) (h2 : nsB e = true) (h3 : lnB apos pos = true) :
    PE X (.Call (.Attribute o d.name apos) [e] [] pos) (tMethW G.T d.name (spD G (T.call n f) d.fr) (WE W) ta t) := by
  obtain ⟨a, fd, g1, g2, g3⟩ := (c.tb.mt f d h0 hd).ex
  have tc := (tl_c c hB).cl
  rw [← c.K] at g1 g2 g3 tc
  exact pe_methT ho tc g2 g1 c.room g3 c.pass ha h1 h2 h3
theorem pe_mt0 {ta : TE} (c : XOk G T X W n) (hB : tlB T = true) (h0 : T.ds.lookup f = none) (hd : T.mt.lookup f = some d) (ho : PE X o ta) (h1 : atB o = true) (h3 : lnB apos pos = true) :
    PE X (.Call (.Attribute o d.name apos) [] [] pos) (tMethW G.T d.name (spD G (T.call n f) d.fr) (WE W) ta tNil) := by
  obtain ⟨a, fd, g1, g2, g3⟩ := (c.tb.mt f d h0 hd).ex
  have tc := (tl_c c hB).cl
  rw [← c.K] at g1 g2 g3 tc
  exact pe_methT0 ho tc g2 g1 c.room g3 c.pass h1 h3
theorem de_mc1 (c : XOk G T X W n) (hB : tlB T = true) (h0 : T.ds.lookup f = none) (hd : T.mt.lookup f = some d) (n1 : (d.name == ("things" : Str)) = false) (n2 : (d.name == ("line" : Str)) = false) (ho : PE X o (tD G W ft)) (ha : PE X e (tD G W fa)) (h1 : atB o = true) (h2 : nsB e = true) (h3 : lnB apos pos = true) :
    PE X (.Call (.Attribute o d.name apos) [e] [] pos) (tD G W (mc1F (T.call n f) ft fa)) :=
  (pe_mt1 c hB h0 hd ho (pa_cons ha pa_nil (nsB_ok h2 _ _)) h1 h2 h3).imp fun σ H Q q => go_mc1 (fun hf => call_listA (all_mt h0 hd) hf) n1 n2 q
theorem do_mc1 (c : XOk G T X W n) (hB : tlB T = true) (h0 : T.ds.lookup f = none) (hd : T.mt.lookup f = some d) (hf : d.fr = true) (n1 : (d.name == ("things" : Str)) = false) (n2 : (d.name == ("line" : Str)) = false) (ho : PE X o (tD G W ft)) (ha : PE X e (tD G W fa)) (h1 : atB o = true) (h2 : nsB e = true) (h3 : lnB apos pos = true) :
    PE X (.Call (.Attribute o d.name apos) [e] [] pos) (tO G W (mc1F (T.call n f) ft fa)) :=
  (pe_mt1 c hB h0 hd ho (pa_cons ha pa_nil (nsB_ok h2 _ _)) h1 h2 h3).imp fun σ H Q q => by rw [hf]; exact go_mc1O n1 n2 q
theorem de_mc0 (c : XOk G T X W n) (hB : tlB T = true) (h0 : T.ds.lookup f = none) (hd : T.mt.lookup f = some d) (n1 : (d.name == ("things" : Str)) = false) (n2 : (d.name == ("line" : Str)) = false) (ho : PE X o (tD G W ft)) (h1 : atB o = true) (h3 : lnB apos pos = true) :
    PE X (.Call (.Attribute o d.name apos) [] [] pos) (tD G W (mc0F (T.call n f) ft)) :=
  (pe_mt0 c hB h0 hd ho h1 h3).imp fun σ H Q q => go_mc0 (fun hf => call_listA (all_mt h0 hd) hf) n1 n2 q
theorem do_mc0 (c : XOk G T X W n) (hB : tlB T = true) (h0 : T.ds.lookup f = none) (hd : T.mt.lookup f = some d) (hf : d.fr = true) (n1 : (d.name == ("things" : Str)) = false) (n2 : (d.name == ("line" : Str)) = false) (ho : PE X o (tD G W ft)) (h1 : atB o = true) (h3 : lnB apos pos = true) :
    PE X (.Call (.Attribute o d.name apos) [] [] pos) (tO G W (mc0F (T.call n f) ft)) :=
  (pe_mt0 c hB h0 hd ho h1 h3).imp fun σ H Q q => by rw [hf]; exact go_mc0O n1 n2 q
abbrev tnewF (c : List PyData → M PyData) (fa : En → M PyData) : En → M PyData := fun δ => M.bnd (fa δ) fun x => c [x]
theorem go_tnew (h : tD G W (tnewF c fa) σ H Q) : tMakeW G.T (spI G c) (WE W) (tCons (tD G W fa) tNil) σ H Q := by
  obtain ⟨w, S, δ, e, k, er, q⟩ := h
  refine ⟨w, S, δ, e, k, er, (RQ.bnd q).imp fun w1 S1 d a1 k1 _ q1 v rv x dx hx hdx hne => ?_⟩
  refine ⟨w1, S1, d, v, x, dx, rfl, rfl, hx, hdx, hne, k1, rv, q1.imp fun w' S' t a k' _ q2 u ru eu => ?_⟩
  subst eu
  exact ⟨rfl, q2 _ ru⟩
theorem de_tnew {fT fI chk : Nat} (c : XOk G T X W n) (hB : tlB T = true) (htl : T.tl = some (fT, fI, chk)) (hg : L2.Gl X "Till") (ha : PE X e (tD G W fa)) (h2 : nsB e = true) :
    PE X (.Call (.Name "Till" p) [e] [] pos) (tD G W (tnewF (T.call n fT) fa)) := by
  obtain ⟨fi, fd, g1, g2, g3⟩ := (c.tb.tl fT fI chk htl hB).make
  have hm := (c.tb.tl fT fI chk htl hB).at_
  rw [← c.K] at g1 g2 g3
  exact (pe_makeT g1 g2 c.room hg hm g3 c.pass (pa_cons ha pa_nil (nsB_ok h2 _ _)) (by decide +kernel) h2).imp fun σ H Q q => go_tnew q
abbrev mlnF (ft : En → M PyData) : En → M PyData := fun δ => M.bnd (ft δ) lenT
theorem de_mln (c : XOk G T X W n) (hB : tlB T = true) (b : BlT X "len") (ho : PE X e (tD G W ft)) (h2 : nsB e = true) : PE X (.Call (.Name "len" p) [e] [] pos) (tD G W (mlnF ft)) := by
  obtain ⟨fT, fI, chk, htl, t⟩ := tl_of c hB
  obtain ⟨fl, fd, g1, g2, g3⟩ := t.len
  rw [← c.K] at g1 g2 g3
  refine (pe_callB (cr_lnT c.K g1 g2 (c.room.mono (by omega)) g3) b.g b.m boot_len (pa_cons ho pa_nil (nsB_ok h2 _ _)) b.n b.d (nsB_ok h2 _ _) rfl).imp fun σ H Q ⟨w, S, δ, e, k, er, q⟩ => ?_
  refine ⟨w, S, δ, e, k, er, (RQ.bnd q).imp fun w1 S1 dx a1 k1 _ q1 x rx => ?_⟩
  unfold lenT at q1
  split at q1
  · rename_i kk m0 rows e1
    obtain ⟨a, dx0, l, vs, rfl, tw⟩ := till_tok k1 rx e1
    refine ⟨a, dx0, l, vs, m0, rfl, tw.ins, tw.lst, tw.len, ?_⟩
    rw [tw.rep.length]
    exact q1 w1 (Adv.refl w1) k1 _ (.int _)
  · exact q1.elim
abbrev nlF (f : En → M PyData) : En → M PyData := fun δ => M.bnd (f δ) fun x => match x with
  | .list ds => newL ds
  | _ => M.bad
theorem de_nl {f : En → M PyData} (h : PE X e (tO G W f)) : PE X e (tD G W (nlF f)) := h.imp fun σ H Q ⟨w, S, δ, e, k, er, q⟩ => by
  refine ⟨w, S, δ, e, k, er, (RQ.bnd q).imp fun w1 S1 d a1 k1 e1 q1 => ?_⟩
  cases d <;> try (exact q1.elim)
  rename_i ds
  refine ⟨ds, rfl, fun p vs o => ?_⟩
  have q2 : RQ G (XKs W σ) w (M.bnd (f δ) (fun x => match x with
    | .list ds => newL ds
    | _ => M.bad) S) (fun w' _ d => ∀ v, RepW G w' v d → Q v w'.H) := q
  rw [bnd_ok e1] at q2
  refine q2 (w1.reg [p]) (a1.reg fun b hb => ?_) (k1.reg (fun b hb => ?_) (fun b hb => ?_) (by simp) ⟨p, vs, rfl, o.at_, o.len, o.rep⟩) (.ref p) (reg_tok k1)
  · rw [List.mem_singleton.mp hb]; exact o.nh
  · rw [List.mem_singleton.mp hb]; exact o.hs
  · rw [List.mem_singleton.mp hb]; exact o.na
theorem lst_tok {w : Wd} {S : Store} {k : Nat} {ds : List PyData} {v : V} {t : PyData} (o : Ok G w S) (r : RepW G w v t) (h : tokAt t S = some (k, .lst ds)) : ∃ p vs, v = .ref p ∧ w.st[k]? = some [p] ∧ w.H p = some (.lst vs) ∧ vs.length ≤ sizeLine ∧ RepLW G w vs ds := by
  unfold tokAt at h
  split at h
  · obtain ⟨ob, e1, e2⟩ := Option.map_eq_some_iff.mp h
    cases e2
    cases r with
    | tok hst =>
      rename_i j a as
      have e3 : ((j : Int)).toNat = j := Int.toNat_natCast j
      rw [e3] at e1 ⊢
      obtain ⟨p, vs, e4, h1, h2, h3⟩ := o.obj j _ _ hst e1
      cases e4
      exact ⟨a, vs, rfl, hst, h1, h2, h3⟩
  · cases h
abbrev tappF (fe fa : En → M PyData) : En → Store → SRes := fun δ s => SRes.of (M.bnd (fe δ) (fun x => M.bnd (isL x) fun _ => M.bnd (fa δ) fun y => M.ret (x, y)) s) δ fun p s' => match tokAt p.1 s' with
  | some (k, .lst ds) => if ds.length < lineD then .nxt δ (s'.set k (.lst (ds ++ [p.2]))) else .bad
  | _ => .bad
theorem s_tapp {fe : En → M PyData} {cpos : Pos} (c : XOk G T X W n) (ho : PE X o (tD G W fe)) (ha : PE X e (tD G W fa)) (h1 : atB o = true) (h2 : nsB e = true) (h3 : lnB apos cpos = true) :
    PS X (.Expr (.Call (.Attribute o "append" apos) [e] [] cpos) pos) (tB G W (tappF fe fa)) := by
  have hm : MtR X "list.append" rAppend := mt_append
  have hz := pe_bm (T := "list") PySem.F.plainAttrs_list PySem.F.slot_list_append PySem.F.type_list_append hm ho (pa_cons ha pa_nil (nsB_ok h2 [] X.env)) (atB_ok h1 _ _) (few1 h2 cpos X.env) h3 (nsB_ok h2 [] X.env) rfl
  refine (ps_expr (pos := pos) hz rfl).imp fun D σ H ⟨w0, w, S, δ, e, k, l, q⟩ => ?_
  refine ⟨w, S, δ, e, k, l.er, (RQ.bnd (SQ.of l q)).imp fun w1 S1 x a1 k1 _ q1 v rv => ?_⟩
  obtain ⟨kk, ds, e1, q2⟩ := RQ.isL q1
  obtain ⟨p0, vs, rfl, g1, g2, g3, g4⟩ := lst_tok k1 rv e1
  refine ⟨.inl ⟨rfl, vs, .inl (.inl g2)⟩, w1, S1, δ, rfl, k1, l.er.adv a1, (RQ.bnd q2).imp fun w2 S2 y a2 k2 _ q3 vy ry => ?_⟩
  obtain ⟨q4, l4⟩ := q3 w2 (Adv.refl w2) k2
  dsimp only at q4
  cases e5 : tokAt x S2 with
  | none => rw [e5] at q4; exact q4.elim
  | some kb =>
    rw [e5] at q4
    obtain ⟨kk2, ob⟩ := kb
    cases ob with
    | draws _ _ => exact q4.elim
    | till _ _ => exact q4.elim
    | lst ds2 =>
      dsimp only at q4
      split at q4
      · rename_i hlt
        obtain ⟨p1, us, ep, z1, z2, z3, z4⟩ := lst_tok k2 (a2.rep rv) e5
        cases ep
        have hl : us.length = ds2.length := z4.length
        have hz : (us ++ [vy]).length ≤ sizeLine := by
          rw [List.length_append, List.length_cons, List.length_nil, hl, sizeLine_eq]
          unfold lineD at hlt
          omega
        obtain ⟨a3, k3⟩ := st_put (p := p0) (o := .lst (us ++ [vy])) (ob := .lst (ds2 ++ [y])) k2 z1 (by simp) ⟨p0, us ++ [vy], rfl, upd_same, hz, put_repL (k2.hid p0 (mem_adr z1 (by simp))) (z4.append (.cons ry .nil))⟩
        refine ⟨p0, us, vy, rfl, rfl, z2, ?_, q4 _ σ (l4.step a3) k3⟩
        rw [hl, sizeLine_eq]
        unfold lineD at hlt
        omega
      · exact q4.elim
abbrev tcalF (c : List PyData → M PyData) (i j : Nat) : En → M PyData := fun δ => withL δ i fun ds => match valAt δ j with
  | some y => pureC [.list ds, y] (sclR (c [.list ds, y]))
  | none => M.bad
theorem go_tcal {i j : Nat} (hl : fr = true → ∀ ds S r S', c ds S = .ok r S' → ∃ es, r = .list es) (h : tD G W (tcalF c i j) σ H Q) : tCallS (spD G c fr) (WE W) (tCons (tVar i) (tCons (tVar j) tNil)) σ H Q := by
  obtain ⟨w, S, δ, e, k, er, q⟩ := h
  subst e
  cases e0 : valAt δ i with
  | none =>
    have q' := q
    unfold tcalF withL at q'
    rw [e0] at q'
    exact q'.elim
  | some t =>
    cases e1 : tokAt t S with
    | none =>
      have q' := q
      unfold tcalF withL at q'
      rw [e0] at q'
      dsimp only at q'
      rw [e1] at q'
      exact q'.elim
    | some kb =>
      obtain ⟨kk, ob⟩ := kb
      cases ob with
      | draws _ _ =>
        have q' := q
        unfold tcalF withL at q'
        rw [e0] at q'
        dsimp only at q'
        rw [e1] at q'
        exact q'.elim
      | till _ _ =>
        have q' := q
        unfold tcalF withL at q'
        rw [e0] at q'
        dsimp only at q'
        rw [e1] at q'
        exact q'.elim
      | lst ds =>
        have q' : RQ G (XKs W σ) w ((match valAt δ j with
          | some y => pureC [.list ds, y] (sclR (c [.list ds, y]))
          | none => M.bad) S) (fun w' _ d => ∀ v, RepW G w' v d → Q v w'.H) := by
          have q2 := q
          unfold tcalF withL at q2
          rw [e0] at q2
          dsimp only at q2
          rw [e1] at q2
          exact q2
        obtain ⟨v0, h0, r0⟩ := valAt_w er e0
        obtain ⟨p0, vs, rfl, g1, g2, g3, g4⟩ := lst_tok k r0 e1
        cases e2 : valAt δ j with
        | none => rw [e2] at q'; exact q'.elim
        | some y =>
          rw [e2] at q'
          obtain ⟨v, h2, r2⟩ := valAt_w er e2
          exact ⟨.ref p0, h0, v, h2, go_see hl k (k.hid p0 (mem_adr g1 (by simp))) g2 g3 g4 r2 q'⟩
theorem de_tcal {i j : Nat} {x y : Str} {q1 q2 : Pos} (c : XOk G T X W n) (hd : T.ds.lookup f = some d) (hg : L2.Gl X d.name) (hdb : (d.name == ("__debug__" : Str)) = false) (h1 : NmOk X i x) (h2 : NmOk X j y) :
    PE X (.Call (.Name d.name p) [.Name x q1, .Name y q2] [] pos) (tD G W (tcalF (T.call n f) i j)) :=
  (pe_callT c (c.tb.fn f d hd) hg hdb (pa_cons h1.pe (pa_cons h2.pe pa_nil (nsB_ok rfl _ _)) (nsB_ok rfl _ _)) rfl).imp fun σ H Q q => go_tcal (fun hf => call_list hd hf) q
abbrev retvF (i : Nat) : En → Store → SRes := fun δ s => ownAt δ i fun ds => .reto ds s
theorem s_retv {i : Nat} {x : Str} {q1 : Pos} (h : NmOk X i x) : PS X (.Return (some (.Name x q1)) pos) (tB G W (retvF i)) :=
  (ps_ret h.pe).imp fun D σ H ⟨w0, w, S, δ, e, k, l, q⟩ => by
    subst e
    obtain ⟨ds, p0, vs, g1, g2, g3, g4, g5, q2⟩ := own_at l q
    obtain ⟨p', vs', e1, e2, e3, e4, e5, e6⟩ := l.er.own i ds g1
    rw [g2] at e1
    cases e1
    obtain ⟨u1, u2⟩ := l.own i ds p0 g1 g2
    exact ⟨.ref p0, g2, q2 w l.adv k p0 vs ⟨e2, u2, e3, g3, g4, g5⟩⟩
end
end PyD

namespace PyD
open PySem PySem.Spec PyProof.Rows L2

/-- how a value is wanted: in sight; as it is; a new list of one's own; a test -/
inductive Md | d | s | o | t
  deriving DecidableEq
def Md.vis : Md → Bool
  | .d => true
  | .s => true
  | _ => false
def Md.val : Md → Bool
  | .o => false
  | _ => true
def Md.lst : Md → Bool
  | .t => false
  | _ => true
def Rd (G : Gx) (W : WX) (X : Cx) (md : Md) (f : En → M PyData) (e : Expr) : Prop := match md with
  | .d => PE X e (tD G W f)
  | .s => PE X e (tS G W f)
  | .o => PE X e (tO G W f)
  | .t => PT X e (tT G W f)
section
variable {G : Gx} {T : Tb} {N : List Str} {X : Cx} {W : WX} {n : Nat} {sc : Scope} {md : Md} {f : En → M PyData} {e : Expr}
theorem rd_v (h : PE X e (tD G W f)) (hm : md.val = true) (ht : ptB e = true) : Rd G W X md f e := by
  cases md with
  | d => exact h
  | s => exact de_s h
  | o => cases hm
  | t => exact dt_val h (ptB_ok ht X.env)
theorem rd_w (h : PE X e (tD G W f)) (hm : md.vis = true) : Rd G W X md f e := by
  cases md with
  | d => exact h
  | s => exact de_s h
  | o => cases hm
  | t => cases hm
theorem rd_l (h : PE X e (tO G W f)) (hl : ∀ δ S d S', f δ S = .ok d S' → ∃ ds, d = .list ds) (hm : md.lst = true) : Rd G W X md f e := by
  cases md with
  | d => exact de_val h hl
  | s => exact de_s (de_val h hl)
  | o => exact h
  | t => cases hm
/-- the context of a text -/
structure CT (G : Gx) (T : Tb) (N : List Str) (sc : Scope) (X : Cx) (W : WX) (n : Nat) : Prop where
  ok : XOk G T X W n
  sc : X.env.scope = sc
  N : X.N = N
theorem opt_list {α : Type} {x : M α} {g : α → Option (List PyData)} {S : Store} {d : PyData} {S' : Store} (h : M.bnd x (fun y => M.opt ((g y).map PyData.list)) S = .ok d S') : ∃ ds, d = PyData.list ds := by
  obtain ⟨a, S1, _, h2⟩ := bnd_inv h
  cases hg : g a with
  | none => rw [hg] at h2; cases h2
  | some ds => rw [hg] at h2; cases h2; exact ⟨_, rfl⟩
def visB (sc : Scope) (x : Str) : Bool := (match sc.names.lookup x with
  | some .local => true
  | some .cell => true
  | some .free => true
  | _ => false) && (!(x == ("__debug__" : Str)) && !(x == ("__classdict__" : Str)))
theorem visB_ok (h : visB sc x = true) : (sc.names.lookup x = some .local ∨ sc.names.lookup x = some .cell ∨ sc.names.lookup x = some .free) ∧ (x == ("__debug__" : Str)) = false ∧ (x == ("__classdict__" : Str)) = false := by
  unfold visB at h
  rw [Bool.and_eq_true, Bool.and_eq_true, Bool.not_eq_true', Bool.not_eq_true'] at h
  refine ⟨?_, h.2⟩
  have h1 := h.1
  split at h1 <;> first | (rename_i e; simp [e]; done) | cases h1
def glB (sc : Scope) (x : Str) : Bool := (match sc.names.lookup x with
  | some .globalImplicit => true
  | _ => false) && !(x == ("__debug__" : Str))
theorem glB_ok (c : CT G T N sc X W n) {x : Str} (h : glB sc x = true) : L2.Gl X x ∧ (x == ("__debug__" : Str)) = false := by
  unfold glB at h
  rw [Bool.and_eq_true, Bool.not_eq_true'] at h
  refine ⟨?_, h.2⟩
  have h1 := h.1
  unfold L2.Gl Env.kindOf
  rw [c.sc]
  split at h1 <;> first | assumption | cases h1
def blB (T : Tb) (sc : Scope) (x : Str) : Bool := glB sc x && (T.bl.contains x && !(x == ("__name__" : Str)))
theorem blB_ok (c : CT G T N sc X W n) {x : Str} (h : blB T sc x = true) : BlT X x := by
  unfold blB at h
  rw [Bool.and_eq_true, Bool.and_eq_true, Bool.not_eq_true'] at h
  obtain ⟨h1, h2, h3⟩ := h
  obtain ⟨g, d⟩ := glB_ok c h1
  exact ⟨g, c.ok.tb.bl x (List.contains_iff_mem.mp h2), fun z => by rw [z] at h3; simp at h3, d⟩
def varC (N : List Str) (sc : Scope) (i : Nat) (e : Expr) : Bool := match e with
  | .Name x _ => decide (N[i]? = some x) && visB sc x
  | _ => false
theorem varC_ok (c : CT G T N sc X W n) {i : Nat} (h : varC N sc i e = true) : ∃ x p, e = .Name x p ∧ X.N[i]? = some x ∧ Vis X.env.scope x ∧ (x == ("__debug__" : Str)) = false ∧ (x == ("__classdict__" : Str)) = false := by
  unfold varC at h
  split at h
  · rename_i x p
    rw [Bool.and_eq_true, decide_eq_true_eq] at h
    obtain ⟨h1, h2, h3⟩ := visB_ok h.2
    exact ⟨x, p, rfl, by rw [c.N]; exact h.1, by unfold Vis; rw [c.sc]; exact h1, h2, h3⟩
  · cases h
def cstB (d : PyData) (e : Expr) : Bool := match e, d with
  | .Constant (.int i) _ _, .int j => decide (i = j)
  | .Constant (.bool i) _ _, .bool j => decide (i = j)
  | .Constant (.str i) _ _, .str j => decide (i = j)
  | .Constant .none _ _, .none => true
  | _, _ => false
theorem cstB_ok {d : PyData} (h : cstB d e = true) : PE X e (tD G W fun _ => M.ret d) ∧ ptB e = true := by
  unfold cstB at h
  split at h
  · cases of_decide_eq_true h; exact ⟨de_c pe_int fun _ _ => .int _, rfl⟩
  · cases of_decide_eq_true h; exact ⟨de_c pe_bl fun _ _ => .bl _, rfl⟩
  · cases of_decide_eq_true h; exact ⟨de_c pe_str fun _ _ => .str _, rfl⟩
  · exact ⟨de_c pe_non fun _ _ => .non, rfl⟩
  · cases h
def callC (k : Str → List Expr → Bool) (e : Expr) : Bool := match e with
  | .Call (.Name x _) es [] _ => k x es
  | _ => false
theorem callC_ok {k : Str → List Expr → Bool} (h : callC k e = true) : ∃ x p es pos, e = .Call (.Name x p) es [] pos ∧ k x es = true := by
  unfold callC at h
  split at h
  · exact ⟨_, _, _, _, rfl, h⟩
  · cases h
def call1C (k : Str → Expr → Bool) (e : Expr) : Bool := callC (fun x es => match es with
  | [a] => k x a
  | _ => false) e
theorem call1C_ok {k : Str → Expr → Bool} (h : call1C k e = true) : ∃ x p a pos, e = .Call (.Name x p) [a] [] pos ∧ k x a = true := by
  obtain ⟨x, p, es, pos, e1, h1⟩ := callC_ok h
  split at h1
  · exact ⟨x, p, _, pos, e1, h1⟩
  · cases h1
def call2C (k : Str → Expr → Expr → Bool) (e : Expr) : Bool := callC (fun x es => match es with
  | [a, b] => k x a b
  | _ => false) e
theorem call2C_ok {k : Str → Expr → Expr → Bool} (h : call2C k e = true) : ∃ x p a b pos, e = .Call (.Name x p) [a, b] [] pos ∧ k x a b = true := by
  obtain ⟨x, p, es, pos, e1, h1⟩ := callC_ok h
  split at h1
  · exact ⟨x, p, _, _, pos, e1, h1⟩
  · cases h1
def opB : BOp → Operator → Bool
  | .add, .Add => true
  | .sub, .Sub => true
  | .mul, .Mult => true
  | .mod, .Mod => true
  | .fdv, .FloorDiv => true
  | .pow, .Pow => true
  | _, _ => false
theorem opB_ok {o : BOp} {op : Operator} (h : opB o op = true) (hK : X.K = G.K) : ∃ r, OpR X (binaryOp op) r ∧ OpS G r (binD o) := by
  cases o <;> cases op <;> first | (cases h; done) | skip
  · exact ⟨_, by rw [← hK]; exact op_addA, os_add⟩
  · exact ⟨_, op_sub, os_sub⟩
  · exact ⟨_, op_mulA, os_mul⟩
  · exact ⟨_, op_mod, os_mod⟩
  · exact ⟨_, op_fdiv, os_fdv⟩
  · exact ⟨_, op_pow, os_pow⟩
def ownOp : BOp → Bool
  | .add => true
  | .mul => true
  | _ => false
theorem ownOp_ok {o : BOp} {op : Operator} (h : opB o op = true) (h2 : ownOp o = true) (hK : X.K = G.K) : ∃ r, OpR X (binaryOp op) r ∧ OpO G r (binD o) := by
  cases o <;> first | (cases h2; done) | skip
  · cases op <;> first | (cases h; done) | skip
    exact ⟨_, by rw [← hK]; exact op_addA, oo_add⟩
  · cases op <;> first | (cases h; done) | skip
    exact ⟨_, op_mulA, oo_mul⟩
def copB : COp → CmpOp → Bool
  | .eq, .Eq => true
  | .ne, .NotEq => true
  | .lt, .Lt => true
  | .le, .LtE => true
  | .gt, .Gt => true
  | .ge, .GtE => true
  | .is_, .Is => true
  | .isn, .IsNot => true
  | .in_, .In => true
  | .nin, .NotIn => true
  | _, _ => false
theorem copB_ok {o : COp} {op : CmpOp} (h : copB o op = true) (c : XOk G T X W n) : ∃ r, OpR X (compareOp op) r ∧ OpS G r (cmpD o) := by
  cases o <;> cases op <;> first | (cases h; done) | skip
  · exact ⟨_, by rw [← c.K]; exact op_eqA c.u64, os_eq⟩
  · exact ⟨_, by rw [← c.K]; exact op_neA c.u64, os_ne⟩
  · exact ⟨_, op_lt, os_lt⟩
  · exact ⟨_, op_le, os_le⟩
  · exact ⟨_, op_gt, os_gt⟩
  · exact ⟨_, op_ge, os_ge⟩
  · exact ⟨_, op_isA, os_is⟩
  · exact ⟨_, op_notA, os_isn⟩
  · exact ⟨_, by rw [← c.K]; exact op_inB c.u65, os_in⟩
  · exact ⟨_, by rw [← c.K]; exact op_ninA c.u65, os_nin⟩
theorem marks_ok {op : CmpOp} {b : Expr} (h : fsB b = true) : behindInMarks op b = false := by
  cases b <;> first | rfl | cases h
abbrev Im (G : Gx) (W : WX) (X : Cx) (md : Md) (r : Expr → Bool) (f : En → M PyData) : Prop := ∀ e, r e = true → Rd G W X md f e
variable {fa fb fc : En → M PyData} {ra rb rc : Expr → Bool}
def binC (md : Md) (o : BOp) (ra rb : Expr → Bool) (e : Expr) : Bool := match e with
  | .BinOp a op b _ => opB o op && (ra a && (rb b && (md.val || ownOp o)))
  | _ => false
abbrev binF (o : BOp) (fa fb : En → M PyData) : En → M PyData := fun δ => M.bnd (fa δ) fun x => M.bnd (fb δ) fun y => M.opt (binD o x y)
theorem binC_ok {o : BOp} (c : XOk G T X W n) (h : binC md o ra rb e = true) (ia : Im G W X .s ra fa) (ib : Im G W X .s rb fb) : Rd G W X md (binF o fa fb) e := by
  unfold binC at h
  split at h
  · rename_i a op b pos
    simp only [Bool.and_eq_true, Bool.or_eq_true] at h
    obtain ⟨h1, h2, h3, h4⟩ := h
    have pa := ia a h2
    have pb := ib b h3
    cases md with
    | o =>
      obtain ⟨r, g1, g2⟩ := ownOp_ok h1 (h4.resolve_left (fun z => by cases z)) c.K
      exact do_bin g1 g2 pa pb
    | _ =>
      obtain ⟨r, g1, g2⟩ := opB_ok h1 c.K
      exact rd_v (de_bin g1 g2 pa pb) rfl rfl
  · cases h
def negC (md : Md) (ra : Expr → Bool) (e : Expr) : Bool := match e with
  | .UnaryOp .USub a _ => md.vis && ra a
  | _ => false
theorem negC_ok (h : negC md ra e = true) (ia : Im G W X .d ra fa) : Rd G W X md (fun δ => M.bnd (fa δ) fun x => match x with
    | .int i => M.ret (.int (-i))
    | _ => M.bad) e := by
  unfold negC at h
  split at h
  · rw [Bool.and_eq_true] at h
    exact rd_w (de_neg (ia _ h.2)) h.1
  · cases h
def cmpC (md : Md) (o : COp) (ra rb : Expr → Bool) (e : Expr) : Bool := match e with
  | .Compare a [op] [b] _ => copB o op && (ra a && (rb b && (md.val && fsB b)))
  | _ => false
theorem cmpC_ok {o : COp} (c : XOk G T X W n) (h : cmpC md o ra rb e = true) (ia : Im G W X .s ra fa) (ib : Im G W X .s rb fb) : Rd G W X md (fun δ => M.bnd (fa δ) fun x => M.bnd (fb δ) fun y => M.opt (cmpD o x y)) e := by
  unfold cmpC at h
  split at h
  · rename_i a op b pos
    simp only [Bool.and_eq_true] at h
    obtain ⟨h1, h2, h3, h4, h5⟩ := h
    obtain ⟨r, g1, g2⟩ := copB_ok h1 c
    cases md with
    | o => cases h4
    | t => exact dt_cmp g1 g2 (ia a h2) (ib b h3) (marks_ok h5)
    | d => exact de_cmp g1 g2 (ia a h2) (ib b h3) (marks_ok h5)
    | s => exact de_s (de_cmp g1 g2 (ia a h2) (ib b h3) (marks_ok h5))
  · cases h
def chnC (md : Md) (o o' : COp) (ra rb rc : Expr → Bool) (e : Expr) : Bool := match e with
  | .Compare a [op, op'] [b, c] _ => copB o op && (copB o' op' && (ra a && (rb b && (rc c && (md.val && fsB c)))))
  | _ => false
theorem chnC_ok {o o' : COp} (c : XOk G T X W n) (h : chnC md o o' ra rb rc e = true) (ia : Im G W X .s ra fa) (ib : Im G W X .s rb fb) (ic : Im G W X .s rc fc) : Rd G W X md (chnF (cmpD o) (cmpD o') fa fb fc) e := by
  unfold chnC at h
  split at h
  · rename_i a op op' b cc pos
    simp only [Bool.and_eq_true] at h
    obtain ⟨h1, h1', h2, h3, h4, h5, h6⟩ := h
    obtain ⟨r, g1, g2⟩ := copB_ok h1 c
    obtain ⟨r', g1', g2'⟩ := copB_ok h1' c
    have hm : lastMarks [op, op'] [b, cc] = false := marks_ok h6
    cases md with
    | o => cases h5
    | t => exact dt_chn g1 g1' g2 g2' (ia a h2) (ib b h3) (ic cc h4) hm
    | d => exact de_chn g1 g1' g2 g2' (ia a h2) (ib b h3) (ic cc h4) hm
    | s => exact de_s (de_chn g1 g1' g2 g2' (ia a h2) (ib b h3) (ic cc h4) hm)
  · cases h
/-- tests within tests -/
def Md.sub : Md → Md
  | .t => .t
  | _ => .d
def notC (md : Md) (ra : Expr → Bool) (e : Expr) : Bool := match e with
  | .UnaryOp .Not a _ => md.val && ra a
  | _ => false
theorem notC_ok (h : notC md ra e = true) (ia : Im G W X md.sub ra fa) : Rd G W X md (notF fa) e := by
  unfold notC at h
  split at h
  · rw [Bool.and_eq_true] at h
    cases md with
    | o => cases h.1
    | t => exact dt_not (ia _ h.2)
    | d => exact de_not (ia _ h.2)
    | s => exact de_s (de_not (ia _ h.2))
  · cases h
def iteC (md : Md) (rc ra rb : Expr → Bool) (e : Expr) : Bool := match e with
  | .IfExp c a b _ => md.vis && (rc c && (ra a && rb b))
  | _ => false
theorem iteC_ok (h : iteC md rc ra rb e = true) (ic : Im G W X .t rc fc) (ia : Im G W X .d ra fa) (ib : Im G W X .d rb fb) : Rd G W X md (iteF fc fa fb) e := by
  unfold iteC at h
  split at h
  · simp only [Bool.and_eq_true] at h
    exact rd_w (de_ite (ic _ h.2.1) (ia _ h.2.2.1) (ib _ h.2.2.2)) h.1
  · cases h
def bopB : Bool → BoolOp → Bool
  | true, .And => true
  | false, .Or => true
  | _, _ => false
abbrev Ia (G : Gx) (W : WX) (X : Cx) (r : List Expr → Bool) (g : En → M (List PyData)) : Prop := ∀ es, r es = true → PA X es (tL G W g)
variable {g : En → M (List PyData)} {rs : List Expr → Bool}
abbrev LenOk (r : List Expr → Bool) (g : En → M (List PyData)) : Prop := ∀ es, r es = true → ∀ δ S ds S', g δ S = .ok ds S' → ds.length = es.length
def lstC (md : Md) (rs : List Expr → Bool) (e : Expr) : Bool := match e with
  | .List es _ => md.lst && (rs es && decide (es.length ≤ lineD))
  | _ => false
theorem ret_list {δ : En} {S d S'} {g : En → M (List PyData)} (h : M.bnd (g δ) (fun ds => M.ret (PyData.list ds)) S = .ok d S') : ∃ ds, d = PyData.list ds := by
  obtain ⟨a, S1, _, h2⟩ := bnd_inv h
  cases h2
  exact ⟨_, rfl⟩
theorem lstC_ok (h : lstC md rs e = true) (ia : Ia G W X rs g) (il : LenOk rs g) : Rd G W X md (fun δ => M.bnd (g δ) fun ds => M.ret (.list ds)) e := by
  unfold lstC at h
  split at h
  · simp only [Bool.and_eq_true, decide_eq_true_eq] at h
    exact rd_l (do_lst (ia _ h.2.1) h.2.2 (il _ h.2.1)) (fun _ _ _ _ z => ret_list z) h.1
  · cases h
def tupC (md : Md) (rs : List Expr → Bool) (e : Expr) : Bool := match e with
  | .Tuple es _ _ => md.vis && (rs es && decide (es.length ≤ lineD))
  | _ => false
theorem tupC_ok (h : tupC md rs e = true) (ia : Ia G W X rs g) (il : LenOk rs g) : Rd G W X md (fun δ => M.bnd (g δ) fun ds => M.ret (.tuple ds)) e := by
  unfold tupC at h
  split at h
  · simp only [Bool.and_eq_true, decide_eq_true_eq] at h
    exact rd_w (de_tup (ia _ h.2.1) h.2.2 (il _ h.2.1)) h.1
  · cases h
def defC (T : Tb) (sc : Scope) (md : Md) (ff : Nat) (z : Bool) (rs : List Expr → Bool) (e : Expr) : Bool := callC (fun x es => match T.ds.lookup ff with
  | some d => decide (d.name = x) && (glB sc x && (es.all nsB && (rs es && (match es with
    | [] => z && md.val
    | _ => !z && (md.val || d.fr)))))
  | none => false) e
theorem callC_pure (c : CT G T N sc X W n) {ff : Nat} (h : defC T sc md ff false rs e = true) (ia : Ia G W X rs g) : Rd G W X md (calF (T.call n ff) g) e := by
  obtain ⟨x, p, es, pos, rfl, h1⟩ := callC_ok h
  cases hd : T.ds.lookup ff with
  | none => rw [hd] at h1; cases h1
  | some d =>
    rw [hd] at h1
    simp only [Bool.and_eq_true, decide_eq_true_eq] at h1
    obtain ⟨rfl, h2, h3, h4, h5⟩ := h1
    obtain ⟨g1, g2⟩ := glB_ok c h2
    cases es with
    | nil => cases h5
    | cons a es =>
      have h6 : md.val = true ∨ d.fr = true := by simpa using h5
      cases md with
      | o => exact do_call c.ok hd (h6.resolve_left fun z => by cases z) g1 g2 (ia _ h4) h3
      | _ => exact rd_v (de_call c.ok hd g1 g2 (ia _ h4) h3) rfl rfl
theorem callC_st (c : CT G T N sc X W n) {ff : Nat} (h : defC T sc md ff false rs e = true) (ia : Ia G W X rs g) : Rd G W X md (casF (T.call n ff) g) e := by
  obtain ⟨x, p, es, pos, rfl, h1⟩ := callC_ok h
  cases hd : T.ds.lookup ff with
  | none => rw [hd] at h1; cases h1
  | some d =>
    rw [hd] at h1
    simp only [Bool.and_eq_true, decide_eq_true_eq] at h1
    obtain ⟨rfl, h2, h3, h4, h5⟩ := h1
    obtain ⟨g1, g2⟩ := glB_ok c h2
    cases es with
    | nil => cases h5
    | cons a es =>
      have h6 : md.val = true ∨ d.fr = true := by simpa using h5
      cases md with
      | o => exact do_cals c.ok hd (h6.resolve_left fun z => by cases z) g1 g2 (ia _ h4) h3
      | _ => exact rd_v (de_cals c.ok hd g1 g2 (ia _ h4) h3) rfl rfl
theorem callC_st0 (c : CT G T N sc X W n) {ff : Nat} (h : defC T sc md ff true rs e = true) : Rd G W X md (casF (T.call n ff) fun _ => M.ret []) e := by
  obtain ⟨x, p, es, pos, rfl, h1⟩ := callC_ok h
  cases hd : T.ds.lookup ff with
  | none => rw [hd] at h1; cases h1
  | some d =>
    rw [hd] at h1
    simp only [Bool.and_eq_true, decide_eq_true_eq] at h1
    obtain ⟨rfl, h2, h3, h4, h5⟩ := h1
    obtain ⟨g1, g2⟩ := glB_ok c h2
    cases es with
    | nil =>
      have h6 : md.val = true := by simpa using h5
      exact rd_v (de_cals0 c.ok hd g1 g2) h6 rfl
    | cons a es => exact absurd h5 (by simp)
abbrev Iar (G : Gx) (W : WX) (X : Cx) (r : List Expr → Bool) (g : En → M (List PyData)) : Prop := ∀ es, r es = true → PA X es (tLS G W g)
def defR (T : Tb) (sc : Scope) (md : Md) (ff : Nat) (rs : List Expr → Bool) (e : Expr) : Bool := callC (fun x es => match T.ds.lookup ff with
  | some d => decide (d.name = x) && (glB sc x && (es.all nsB && (rs es && (match es with
    | [] => false
    | _ => md.val))))
  | none => false) e
theorem callC_R (c : CT G T N sc X W n) {ff : Nat} (h : defR T sc md ff rs e = true) (ia : Iar G W X rs g) : Rd G W X md (calRF (T.call n ff) g) e := by
  obtain ⟨x, p, es, pos, rfl, h1⟩ := callC_ok h
  cases hd : T.ds.lookup ff with
  | none => rw [hd] at h1; cases h1
  | some d =>
    rw [hd] at h1
    simp only [Bool.and_eq_true, decide_eq_true_eq] at h1
    obtain ⟨rfl, h2, h3, h4, h5⟩ := h1
    obtain ⟨g1, g2⟩ := glB_ok c h2
    cases es with
    | nil => cases h5
    | cons a es =>
      cases md with
      | o => cases h5
      | _ => exact rd_v (de_callR c.ok hd g1 g2 (ia _ h4) h3) rfl rfl
theorem callC_nil (c : CT G T N sc X W n) {ff : Nat} (h : defC T sc md ff true rs e = true) : Rd G W X md (calF (T.call n ff) fun _ => M.ret []) e := by
  obtain ⟨x, p, es, pos, rfl, h1⟩ := callC_ok h
  cases hd : T.ds.lookup ff with
  | none => rw [hd] at h1; cases h1
  | some d =>
    rw [hd] at h1
    simp only [Bool.and_eq_true, decide_eq_true_eq] at h1
    obtain ⟨rfl, h2, h3, h4, h5⟩ := h1
    obtain ⟨g1, g2⟩ := glB_ok c h2
    cases es with
    | nil =>
      have h6 : md.val = true := by simpa using h5
      exact rd_v (de_call0 c.ok hd g1 g2) h6 rfl
    | cons a es => exact absurd h5 (by simp)
def drwC (sc : Scope) (md : Md) (ra rb : Expr → Bool) (e : Expr) : Bool := call2C (fun x a b => x == ("_law_draw" : Str) && (glB sc x && (nsB a && (nsB b && (ra a && (rb b && md.val)))))) e
theorem drwC_ok (c : CT G T N sc X W n) (h : drwC sc md ra rb e = true) (ia : Im G W X .d ra fa) (ib : Im G W X .d rb fb) : Rd G W X md (drwF fa fb) e := by
  obtain ⟨x, p, a, b, pos, rfl, h1⟩ := call2C_ok h
  simp only [Bool.and_eq_true, beq_iff_eq] at h1
  obtain ⟨rfl, h2, h3, h4, h5, h6, h7⟩ := h1
  exact rd_v (de_draw c.ok (glB_ok c h2).1 (ia _ h5) (ib _ h6) h3 h4) h7 rfl
def pckC (T : Tb) (sc : Scope) (md : Md) (ra rb : Expr → Bool) (e : Expr) : Bool := call2C (fun x a b => x == ("_law_pick" : Str) && (T.pk && (glB sc x && (nsB a && (nsB b && (ra a && (rb b && md.val))))))) e
theorem pckC_ok (c : CT G T N sc X W n) (h : pckC T sc md ra rb e = true) (ia : Im G W X .d ra fa) (ib : Im G W X .s rb fb) : Rd G W X md (pckF fa fb) e := by
  obtain ⟨x, p, a, b, pos, rfl, h1⟩ := call2C_ok h
  simp only [Bool.and_eq_true, beq_iff_eq] at h1
  obtain ⟨rfl, h8, h2, h3, h4, h5, h6, h7⟩ := h1
  exact rd_v (de_pick c.ok h8 (glB_ok c h2).1 (ia _ h5) (ib _ h6) h3 h4) h7 rfl
def staC (sc : Scope) (md : Md) (ra : Expr → Bool) (e : Expr) : Bool := call1C (fun x a => x == ("_law_start" : Str) && (glB sc x && (nsB a && (ra a && md.val)))) e
theorem staC_ok (c : CT G T N sc X W n) (h : staC sc md ra e = true) (ia : Im G W X .d ra fa) : Rd G W X md (fun δ => M.bnd (fa δ) fun x => startD x) e := by
  obtain ⟨x, p, a, pos, rfl, h1⟩ := call1C_ok h
  simp only [Bool.and_eq_true, beq_iff_eq] at h1
  obtain ⟨rfl, h2, h3, h4, h5⟩ := h1
  exact rd_v (de_start c.ok (glB_ok c h2).1 (ia _ h4) h3) h5 rfl
def ownBi : Bi → Bool
  | .list => true
  | .srt => true
  | _ => false
def biC (T : Tb) (sc : Scope) (md : Md) (fb : Bi) (ra : Expr → Bool) (e : Expr) : Bool := call1C (fun x a => x == fb.name && (blB T sc x && (nsB a && (ra a && (md.val || ownBi fb))))) e
abbrev biF (fb : Bi) (fa : En → M PyData) : En → M PyData := fun δ => M.bnd (fa δ) fun x => M.opt (biD fb x)
theorem biC_ok (c : CT G T N sc X W n) {b : Bi} (h : biC T sc md b ra e = true) (ia : Im G W X .s ra fa) : Rd G W X md (biF b fa) e := by
  obtain ⟨x, p, a, pos, rfl, h1⟩ := call1C_ok h
  simp only [Bool.and_eq_true, beq_iff_eq, Bool.or_eq_true] at h1
  obtain ⟨rfl, h2, h3, h4, h5⟩ := h1
  cases md with
  | o =>
    have h6 := h5.resolve_left fun z => by cases z
    cases b <;> first | (cases h6; done) | skip
    · exact do_list c.ok (blB_ok c h2) (ia _ h4) h3
    · exact do_srt c.ok (blB_ok c h2) (ia _ h4) h3
  | _ => exact rd_v (de_bi c.ok b (blB_ok c h2) (ia _ h4) h3) rfl rfl
def mx2C (T : Tb) (sc : Scope) (md : Md) (k : Bool) (ra rb : Expr → Bool) (e : Expr) : Bool := call2C (fun x a b => x == (if k then ("max" : Str) else ("min" : Str)) && (blB T sc x && (nsB a && (nsB b && (ra a && (rb b && md.val)))))) e
theorem mx2C_ok (c : CT G T N sc X W n) {k : Bool} (h : mx2C T sc md k ra rb e = true) (ia : Im G W X .s ra fa) (ib : Im G W X .s rb fb) : Rd G W X md (mx2F k fa fb) e := by
  obtain ⟨x, p, a, b, pos, rfl, h1⟩ := call2C_ok h
  simp only [Bool.and_eq_true, beq_iff_eq] at h1
  obtain ⟨hx, h2, h3, h4, h5, h6, h7⟩ := h1
  cases k with
  | true =>
    have hx' : x = ("max" : Str) := hx
    subst hx'
    exact rd_v (de_mx2 (k := true) c.ok (blB_ok c h2) (ia _ h5) (ib _ h6) h3 h4) h7 rfl
  | false =>
    have hx' : x = ("min" : Str) := hx
    subst hx'
    exact rd_v (de_mx2 (k := false) c.ok (blB_ok c h2) (ia _ h5) (ib _ h6) h3 h4) h7 rfl
def allEB (T : Tb) : Bool := (List.range 7).all fun k => (T.es.lookup k).isSome
theorem allEB_ok (h : allEB T = true) : allE T := fun k hk => Option.isSome_iff_exists.mp (List.all_eq_true.mp h k (List.mem_range.mpr hk))
def tyC (T : Tb) (sc : Scope) (t : Ty) (e : Expr) : Bool := match e, t with
  | .Name y _, .exc j => decide (T.es.lookup j = some y) && (glB sc y && (allEB T && T.xi))
  | .Name y _, .ve => y == ("ValueError" : Str) && (blB T sc y && (allEB T && T.xi))
  | .Name y _, t => y == (t.nm : Str) && blB T sc y
  | _, _ => false
def isiC (T : Tb) (sc : Scope) (md : Md) (t : Ty) (ra : Expr → Bool) (e : Expr) : Bool := call2C (fun x a b => x == ("isinstance" : Str) && (blB T sc x && (nsB a && (ra a && (md.val && tyC T sc t b))))) e
theorem isiC_ok (c : CT G T N sc X W n) {t : Ty} (h : isiC T sc md t ra e = true) (ia : Im G W X .s ra fa) : Rd G W X md (fun δ => M.bnd (fa δ) fun x => M.opt ((isiD t x).map .bool)) e := by
  obtain ⟨x, p, a, b, pos, rfl, h1⟩ := call2C_ok h
  simp only [Bool.and_eq_true, beq_iff_eq] at h1
  obtain ⟨rfl, h2, h3, h4, h5, h6⟩ := h1
  have hb := blB_ok c h2
  unfold tyC at h6
  split at h6
  · simp only [Bool.and_eq_true, decide_eq_true_eq] at h6
    obtain ⟨g1, g2⟩ := glB_ok c h6.2.1
    exact rd_v (de_isx c.ok h6.1 g1 g2 hb (ia _ h4) h3 (allEB_ok h6.2.2.1) h6.2.2.2) h5 rfl
  · simp only [Bool.and_eq_true, beq_iff_eq] at h6
    obtain ⟨rfl, h7, h8, h9⟩ := h6
    exact rd_v (de_isv c.ok (blB_ok c h7) hb (ia _ h4) h3 (allEB_ok h8) h9) h5 rfl
  · rename_i y p2 n1 n2
    simp only [Bool.and_eq_true, beq_iff_eq] at h6
    obtain ⟨rfl, h7⟩ := h6
    exact rd_v (de_isi c.ok (fun k z => n1 k z) (fun z => n2 z) hb (blB_ok c h7) (ia _ h4) h3) h5 rfl
  · cases h6
def srsC (T : Tb) (sc : Scope) (md : Md) (ra : Expr → Bool) (e : Expr) : Bool := call1C (fun x s => x == ("sorted" : Str) && (blB T sc x && (md.lst && call1C (fun y a => y == ("set" : Str) && (blB T sc y && (nsB a && ra a))) s))) e
theorem srs_list {d d' : PyData} (h : srsD d = some d') : ∃ ds, d' = .list ds := by
  cases d <;> first | (cases h; done) | skip
  all_goals
    obtain ⟨ns, _, e4⟩ := Option.bind_eq_some_iff.mp h
    split at e4
    · cases e4; exact ⟨_, rfl⟩
    · cases e4
theorem srsC_ok (c : CT G T N sc X W n) (h : srsC T sc md ra e = true) (ia : Im G W X .s ra fa) : Rd G W X md (fun δ => M.bnd (fa δ) fun d => M.opt (srsD d)) e := by
  obtain ⟨x, p, s, pos, rfl, h1⟩ := call1C_ok h
  simp only [Bool.and_eq_true, beq_iff_eq] at h1
  obtain ⟨rfl, h2, h3, h4⟩ := h1
  obtain ⟨y, p2, a, pos2, rfl, h5⟩ := call1C_ok h4
  simp only [Bool.and_eq_true, beq_iff_eq] at h5
  obtain ⟨rfl, h6, h7, h8⟩ := h5
  refine rd_l (do_srs c.ok (blB_ok c h2) (blB_ok c h6) (ia _ h8) h7) (fun δ S d S' z => ?_) h3
  obtain ⟨d0, S1, _, z2⟩ := bnd_inv z
  cases hs : srsD d0 with
  | none => rw [hs] at z2; cases z2
  | some d2 =>
    rw [hs] at z2
    cases z2
    exact srs_list hs
def lrgC (T : Tb) (sc : Scope) (md : Md) (ra : Expr → Bool) (e : Expr) : Bool := call1C (fun x s => x == ("list" : Str) && (blB T sc x && (md.lst && call1C (fun y a => y == ("range" : Str) && (blB T sc y && (nsB a && ra a))) s))) e
theorem lrgC_ok (c : CT G T N sc X W n) (h : lrgC T sc md ra e = true) (ia : Im G W X .s ra fa) : Rd G W X md (fun δ => M.bnd (fa δ) fun d => M.opt ((rangeI (.int 0) d).map .list)) e := by
  obtain ⟨x, p, s, pos, rfl, h1⟩ := call1C_ok h
  simp only [Bool.and_eq_true, beq_iff_eq] at h1
  obtain ⟨rfl, h2, h3, h4⟩ := h1
  obtain ⟨y, p2, a, pos2, rfl, h5⟩ := call1C_ok h4
  simp only [Bool.and_eq_true, beq_iff_eq] at h5
  obtain ⟨rfl, h6, h7, h8⟩ := h5
  exact rd_l (do_lrg c.ok (blB_ok c h2) (blB_ok c h6) (ia _ h8) h7) (fun δ S d S' z => opt_list z) h3
def lrg2C (T : Tb) (sc : Scope) (md : Md) (ra rb : Expr → Bool) (e : Expr) : Bool := call1C (fun x s => x == ("list" : Str) && (blB T sc x && (md.lst && call2C (fun y a b => y == ("range" : Str) && (blB T sc y && (nsB a && (nsB b && (ra a && rb b))))) s))) e
theorem lrg2C_ok (c : CT G T N sc X W n) (h : lrg2C T sc md ra rb e = true) (ia : Im G W X .s ra fa) (ib : Im G W X .s rb fb) : Rd G W X md (fun δ => M.bnd (fa δ) fun x => M.bnd (fb δ) fun y => M.opt ((rangeI x y).map .list)) e := by
  obtain ⟨x, p, s, pos, rfl, h1⟩ := call1C_ok h
  simp only [Bool.and_eq_true, beq_iff_eq] at h1
  obtain ⟨rfl, h2, h3, h4⟩ := h1
  obtain ⟨y, p2, a, b, pos2, rfl, h5⟩ := call2C_ok h4
  simp only [Bool.and_eq_true, beq_iff_eq] at h5
  obtain ⟨rfl, h6, h7, h8, h9, h10⟩ := h5
  refine rd_l (do_lrg2 c.ok (blB_ok c h2) (blB_ok c h6) (ia _ h9) (ib _ h10) h7 h8) (fun δ S d S' z => ?_) h3
  obtain ⟨d0, S1, _, z2⟩ := bnd_inv z
  exact opt_list z2
def trgC (T : Tb) (sc : Scope) (md : Md) (ra : Expr → Bool) (e : Expr) : Bool := call1C (fun x s => x == ("tuple" : Str) && (blB T sc x && (md.val && call1C (fun y a => y == ("range" : Str) && (blB T sc y && (nsB a && ra a))) s))) e
theorem trgC_ok (c : CT G T N sc X W n) (h : trgC T sc md ra e = true) (ia : Im G W X .s ra fa) : Rd G W X md (fun δ => M.bnd (fa δ) fun d => M.opt ((rangeI (.int 0) d).map .tuple)) e := by
  obtain ⟨x, p, s, pos, rfl, h1⟩ := call1C_ok h
  simp only [Bool.and_eq_true, beq_iff_eq] at h1
  obtain ⟨rfl, h2, h3, h4⟩ := h1
  obtain ⟨y, p2, a, pos2, rfl, h5⟩ := call1C_ok h4
  simp only [Bool.and_eq_true, beq_iff_eq] at h5
  obtain ⟨rfl, h6, h7, h8⟩ := h5
  exact rd_v (de_trg c.ok (blB_ok c h2) (blB_ok c h6) (ia _ h8) h7) h3 rfl
def idxC (md : Md) (ra rb : Expr → Bool) (e : Expr) : Bool := match e with
  | .Subscript a b _ => nslB b && (ra a && (rb b && md.val))
  | _ => false
theorem idxC_ok (c : XOk G T X W n) (h : idxC md ra rb e = true) (ia : Im G W X .s ra fa) (ib : Im G W X .s rb fb) : Rd G W X md (fun δ => M.bnd (fa δ) fun x => M.bnd (fb δ) fun y => M.opt (idxD x y)) e := by
  unfold idxC at h
  split at h
  · simp only [Bool.and_eq_true] at h
    exact rd_v (de_idx c (ia _ h.2.1) (ib _ h.2.2.1) h.1) h.2.2.2 rfl
  · cases h
abbrev Io (G : Gx) (W : WX) (X : Cx) (r : Option Expr → Bool) (f : En → M (Option Int)) : Prop := ∀ o, r o = true → PO X o (tP G W f)
variable {fl fh : En → M (Option Int)} {rl rh : Option Expr → Bool}
def slcC (md : Md) (ra : Expr → Bool) (rl rh : Option Expr → Bool) (e : Expr) : Bool := match e with
  | .Subscript a (.Slice lo hi none _) _ => ra a && (rl lo && rh hi)
  | _ => false
theorem slcC_ok (c : XOk G T X W n) (h : slcC md ra rl rh e = true) (ia : Im G W X .s ra fa) (il : Io G W X rl fl) (ih : Io G W X rh fh) : Rd G W X md (slcF fa fl fh) e := by
  unfold slcC at h
  split at h
  · simp only [Bool.and_eq_true] at h
    cases md with
    | o => exact do_slc c (ia _ h.1) (il _ h.2.1) (ih _ h.2.2)
    | _ => exact rd_v (de_slc c (ia _ h.1) (il _ h.2.1) (ih _ h.2.2)) rfl rfl
  · cases h
def revC (md : Md) (ra : Expr → Bool) (e : Expr) : Bool := match e with
  | .Subscript a (.Slice none none (some (.UnaryOp .USub (.Constant (.int 1) _ _) _)) _) _ => md.lst && ra a
  | _ => false
theorem revC_ok (c : XOk G T X W n) (h : revC md ra e = true) (ia : Im G W X .s ra fa) : Rd G W X md (revF fa) e := by
  unfold revC at h
  split at h
  · simp only [Bool.and_eq_true] at h
    cases md with
    | d => exact de_rev c (ia _ h.2)
    | s => exact de_s (de_rev c (ia _ h.2))
    | o => exact do_rev c (ia _ h.2)
    | t => cases h.1
  · cases h
def bmC (name : Str) (md : Md) (ra rb : Expr → Bool) (e : Expr) : Bool := match e with
  | .Call (.Attribute a m apos) [b] [] cpos => m == name && (nsB b && (atB a && (lnB apos cpos && (ra a && (rb b && md.val)))))
  | _ => false
theorem cntC_ok (c : XOk G T X W n) (h : bmC "count" md ra rb e = true) (ia : Im G W X .s ra fa) (ib : Im G W X .s rb fb) : Rd G W X md (bmF cntD fa fb) e := by
  unfold bmC at h
  split at h
  · simp only [Bool.and_eq_true, beq_iff_eq] at h
    obtain ⟨rfl, h1, h2, h3, h4, h5, h6⟩ := h
    exact rd_v (de_cnt c (ia _ h4) (ib _ h5) h1 h2 h3) h6 rfl
  · cases h
theorem indC_ok (c : XOk G T X W n) (h : bmC "index" md ra rb e = true) (ia : Im G W X .s ra fa) (ib : Im G W X .s rb fb) : Rd G W X md (bmF indD fa fb) e := by
  unfold bmC at h
  split at h
  · simp only [Bool.and_eq_true, beq_iff_eq] at h
    obtain ⟨rfl, h1, h2, h3, h4, h5, h6⟩ := h
    exact rd_v (de_ind c (ia _ h4) (ib _ h5) h1 h2 h3) h6 rfl
  · cases h
theorem joiC_ok (c : XOk G T X W n) (h : bmC "join" md ra rb e = true) (ia : Im G W X .s ra fa) (ib : Im G W X .s rb fb) : Rd G W X md (stF joiD fa fb) e := by
  unfold bmC at h
  split at h
  · simp only [Bool.and_eq_true, beq_iff_eq] at h
    obtain ⟨rfl, h1, h2, h3, h4, h5, h6⟩ := h
    exact rd_v (de_joi c (ia _ h4) (ib _ h5) h1 h2 h3) h6 rfl
  · cases h
def splC (md : Md) (ra rb : Expr → Bool) (e : Expr) : Bool := match e with
  | .Call (.Attribute a m apos) [b] [] cpos => m == ("split" : Str) && (nsB b && (atB a && (lnB apos cpos && (ra a && (rb b && md.lst)))))
  | _ => false
theorem spl_list {x y d : PyData} (h : splD x y = some d) : ∃ ds, d = .list ds := by
  cases x <;> first | (cases h; done) | skip
  cases y <;> first | (cases h; done) | skip
  rename_i s t
  have e' : (if (t.length == 0) = false ∧ s.length ≤ 1000 ∧ (Txt.split s t).length ≤ 2000 then some (PyData.list ((Txt.split s t).map .str)) else none) = some d := h
  split at e'
  · cases e'; exact ⟨_, rfl⟩
  · cases e'
theorem splC_ok (c : XOk G T X W n) (h : splC md ra rb e = true) (ia : Im G W X .s ra fa) (ib : Im G W X .s rb fb) : Rd G W X md (stF splD fa fb) e := by
  unfold splC at h
  split at h
  · simp only [Bool.and_eq_true, beq_iff_eq] at h
    obtain ⟨rfl, h1, h2, h3, h4, h5, h6⟩ := h
    refine rd_l (do_spl c (ia _ h4) (ib _ h5) h1 h2 h3) (fun δ S d S' z => ?_) h6
    obtain ⟨d0, S1, _, z2⟩ := bnd_inv z
    cases d0 <;> first | (cases z2; done) | skip
    rename_i s _
    obtain ⟨d1, S2, _, z3⟩ := bnd_inv z2
    cases hs : splD (.str s) d1 with
    | none => rw [hs] at z3; cases z3
    | some d2 =>
      rw [hs] at z3
      cases z3
      exact spl_list hs
  · cases h
def fs3C (md : Md) (z : Str) (ra rb : Expr → Bool) (e : Expr) : Bool := match e with
  | .JoinedStr [.FormattedValue a i none _, .Constant (.str z') _ _, .FormattedValue b j none _] _ => decide (i = -1) && (decide (j = -1) && (decide (z = z') && (md.val && (ra a && rb b))))
  | _ => false
theorem fs3C_ok {z : Str} (h : fs3C md z ra rb e = true) (ia : Im G W X .s ra fa) (ib : Im G W X .s rb fb) : Rd G W X md (fsF z fa fb) e := by
  unfold fs3C at h
  split at h
  · simp only [Bool.and_eq_true, decide_eq_true_eq] at h
    obtain ⟨rfl, rfl, rfl, h4, h5, h6⟩ := h
    exact rd_v (de_fs3 (ia _ h5) (ib _ h6)) h4 rfl
  · cases h
end
end PyD

namespace PyD
open PySem PySem.Spec PyProof.Rows L2
section
variable {G : Gx} {T : Tb} {N : List Str} {X : Cx} {W : WX} {n : Nat} {sc : Scope} {md : Md} {f : En → M PyData} {e : Expr}
theorem varC_nm (c : CT G T N sc X W n) {i : Nat} (h : varC N sc i e = true) : ∃ x p, e = .Name x p ∧ NmOk X i x := by
  obtain ⟨x, p, rfl, h1, h2, h3, h4⟩ := varC_ok c h
  exact ⟨x, p, rfl, h1, h2, h3, h4⟩
def lineC (N : List Str) (sc : Scope) (i : Nat) (e : Expr) : Bool := match e with
  | .Attribute o f _ => f == ("line" : Str) && varC N sc i o
  | _ => false
theorem lineC_ok (c : CT G T N sc X W n) {i : Nat} (h : lineC N sc i e = true) : ∃ x q1 q2, e = .Attribute (.Name x q1) "line" q2 ∧ NmOk X i x := by
  unfold lineC at h
  split at h
  · rw [Bool.and_eq_true, beq_iff_eq] at h
    obtain ⟨rfl, h2⟩ := h
    obtain ⟨x, p, rfl, h3⟩ := varC_nm c h2
    exact ⟨x, p, _, rfl, h3⟩
  · cases h
def thgC (T : Tb) (N : List Str) (sc : Scope) (md : Md) (i : Nat) (e : Expr) : Bool := match e with
  | .Attribute o f _ => f == ("things" : Str) && (varC N sc i o && (md.val && tlB T))
  | _ => false
theorem thgC_ok (c : CT G T N sc X W n) {i : Nat} (h : thgC T N sc md i e = true) : Rd G W X md (thgF i) e := by
  unfold thgC at h
  split at h
  · simp only [Bool.and_eq_true, beq_iff_eq] at h
    obtain ⟨rfl, h2, h3, h4⟩ := h
    obtain ⟨x, p, rfl, h5⟩ := varC_nm c h2
    exact rd_v (de_thg c.ok (tl_c c.ok h4) h5) h3 rfl
  · cases h
def lcalC (T : Tb) (N : List Str) (sc : Scope) (md : Md) (ff i j : Nat) (e : Expr) : Bool := call2C (fun x a b => lineC N sc i a && (varC N sc j b && (md.val && (tlB T && (glB sc x && (match T.ds.lookup ff with
  | some d => decide (d.name = x)
  | none => false)))))) e
theorem lcalC_ok (c : CT G T N sc X W n) {ff i j : Nat} (h : lcalC T N sc md ff i j e = true) : Rd G W X md (lcalF (T.call n ff) i j) e := by
  obtain ⟨x, p, a, b, pos, rfl, h1⟩ := call2C_ok h
  simp only [Bool.and_eq_true] at h1
  obtain ⟨h1, h2, h3, h4, h5, h6⟩ := h1
  obtain ⟨y, q1, q2, rfl, g1⟩ := lineC_ok c h1
  obtain ⟨z, q3, rfl, g2⟩ := varC_nm c h2
  cases hd : T.ds.lookup ff with
  | none => rw [hd] at h6; cases h6
  | some d =>
    rw [hd] at h6
    obtain rfl := of_decide_eq_true h6
    obtain ⟨k1, k2⟩ := glB_ok c h5
    exact rd_v (de_lcal c.ok (tl_c c.ok h4) hd k1 k2 g1 g2) h3 rfl
def llenC (T : Tb) (N : List Str) (sc : Scope) (md : Md) (i : Nat) (e : Expr) : Bool := call1C (fun x a => x == ("len" : Str) && (blB T sc x && (lineC N sc i a && (md.val && tlB T)))) e
theorem llenC_ok (c : CT G T N sc X W n) {i : Nat} (h : llenC T N sc md i e = true) : Rd G W X md (llenF i) e := by
  obtain ⟨x, p, a, pos, rfl, h1⟩ := call1C_ok h
  simp only [Bool.and_eq_true, beq_iff_eq] at h1
  obtain ⟨rfl, h2, h3, h4, h5⟩ := h1
  obtain ⟨y, q1, q2, rfl, g1⟩ := lineC_ok c h3
  exact rd_v (de_llen c.ok (tl_c c.ok h5) (blB_ok c h2) g1) h4 rfl
def lempC (T : Tb) (N : List Str) (sc : Scope) (md : Md) (i : Nat) (e : Expr) : Bool := match e with
  | .Compare a [.Eq] [.List [] _] _ => lineC N sc i a && (md.val && tlB T)
  | _ => false
theorem lempC_ok (c : CT G T N sc X W n) {i : Nat} (h : lempC T N sc md i e = true) : Rd G W X md (lempF i) e := by
  unfold lempC at h
  split at h
  · simp only [Bool.and_eq_true] at h
    obtain ⟨h1, h2, h3⟩ := h
    obtain ⟨y, q1, q2, rfl, g1⟩ := lineC_ok c h1
    cases md with
    | o => cases h2
    | t => exact dt_lemp c.ok (tl_c c.ok h3) g1
    | d => exact de_lemp c.ok (tl_c c.ok h3) g1
    | s => exact de_s (de_lemp c.ok (tl_c c.ok h3) g1)
  · cases h
def lcpyC (T : Tb) (N : List Str) (sc : Scope) (md : Md) (i : Nat) (e : Expr) : Bool := call1C (fun x a => x == ("list" : Str) && (blB T sc x && (lineC N sc i a && (md.lst && tlB T)))) e
theorem lcpyC_ok (c : CT G T N sc X W n) {i : Nat} (h : lcpyC T N sc md i e = true) : Rd G W X md (lcpyF i) e := by
  obtain ⟨x, p, a, pos, rfl, h1⟩ := call1C_ok h
  simp only [Bool.and_eq_true, beq_iff_eq] at h1
  obtain ⟨rfl, h2, h3, h4, h5⟩ := h1
  obtain ⟨y, q1, q2, rfl, g1⟩ := lineC_ok c h3
  exact rd_l (do_lcpy c.ok (tl_c c.ok h5) (blB_ok c h2) g1) (fun _ _ _ _ z => lcpy_list (C := T.call n) z) h4
def lpopC (T : Tb) (N : List Str) (sc : Scope) (md : Md) (i : Nat) (e : Expr) : Bool := match e with
  | .Call (.Attribute a m apos) [] [] cpos => m == ("pop" : Str) && (lineC N sc i a && (lnB apos cpos && (md.val && tlB T)))
  | _ => false
theorem lpopC_ok (c : CT G T N sc X W n) {i : Nat} (h : lpopC T N sc md i e = true) : Rd G W X md (lpopF i) e := by
  unfold lpopC at h
  split at h
  · simp only [Bool.and_eq_true, beq_iff_eq] at h
    obtain ⟨rfl, h2, h3, h4, h5⟩ := h
    obtain ⟨y, q1, q2, rfl, g1⟩ := lineC_ok c h2
    exact rd_v (de_lpop c.ok (tl_c c.ok h5) g1 h3) h4 rfl
  · cases h
variable {fa fb : En → M PyData} {ra rb : Expr → Bool}
def tnewC (T : Tb) (sc : Scope) (md : Md) (ff : Nat) (ra : Expr → Bool) (e : Expr) : Bool := call1C (fun x a => x == ("Till" : Str) && (glB sc x && (nsB a && (ra a && (md.val && (tlB T && (match T.tl with
  | some (fT, _, _) => decide (fT = ff)
  | none => false))))))) e
theorem tnewC_ok (c : CT G T N sc X W n) {ff : Nat} (h : tnewC T sc md ff ra e = true) (ia : Im G W X .d ra fa) : Rd G W X md (tnewF (T.call n ff) fa) e := by
  obtain ⟨x, p, a, pos, rfl, h1⟩ := call1C_ok h
  simp only [Bool.and_eq_true, beq_iff_eq] at h1
  obtain ⟨rfl, h2, h3, h4, h5, h6, h7⟩ := h1
  split at h7
  · rename_i fT fI chk htl
    obtain rfl := of_decide_eq_true h7
    exact rd_v (de_tnew c.ok h6 htl (glB_ok c h2).1 (ia _ h4) h3) h5 rfl
  · cases h7
def mtB (T : Tb) (md : Md) (ff : Nat) (m : Str) : Bool := tlB T && (!(m == ("things" : Str)) && (!(m == ("line" : Str)) && (match T.ds.lookup ff with
  | none => (match T.mt.lookup ff with
    | some d => decide (d.name = m) && (md.val || d.fr)
    | none => false)
  | some _ => false)))
theorem mtB_ok {ff : Nat} {m : Str} (h : mtB T md ff m = true) : tlB T = true ∧ ∃ d, T.ds.lookup ff = none ∧ T.mt.lookup ff = some d ∧ d.name = m ∧ (d.name == ("things" : Str)) = false ∧ (d.name == ("line" : Str)) = false ∧ (md.val = true ∨ d.fr = true) := by
  unfold mtB at h
  simp only [Bool.and_eq_true, Bool.not_eq_true'] at h
  obtain ⟨h1, h2, h3, h4⟩ := h
  refine ⟨h1, ?_⟩
  split at h4
  · rename_i e1
    split at h4
    · rename_i d e2
      rw [Bool.and_eq_true, Bool.or_eq_true, decide_eq_true_eq] at h4
      obtain ⟨rfl, h5⟩ := h4
      exact ⟨d, e1, e2, rfl, h2, h3, h5⟩
    · cases h4
  · cases h4
def mc0C (T : Tb) (md : Md) (ff : Nat) (ra : Expr → Bool) (e : Expr) : Bool := match e with
  | .Call (.Attribute o m apos) [] [] cpos => mtB T md ff m && (ra o && (atB o && lnB apos cpos))
  | _ => false
theorem mc0C_ok (c : CT G T N sc X W n) {ff : Nat} (h : mc0C T md ff ra e = true) (ia : Im G W X .d ra fa) : Rd G W X md (mc0F (T.call n ff) fa) e := by
  unfold mc0C at h
  split at h
  · simp only [Bool.and_eq_true] at h
    obtain ⟨h1, h2, h3, h4⟩ := h
    obtain ⟨g0, d, g1, g2, rfl, g3, g4, g5⟩ := mtB_ok h1
    cases md with
    | o => exact do_mc0 c.ok g0 g1 g2 (g5.resolve_left fun z => by cases z) g3 g4 (ia _ h2) h3 h4
    | _ => exact rd_v (de_mc0 c.ok g0 g1 g2 g3 g4 (ia _ h2) h3 h4) rfl rfl
  · cases h
def mc1C (T : Tb) (md : Md) (ff : Nat) (ra rb : Expr → Bool) (e : Expr) : Bool := match e with
  | .Call (.Attribute o m apos) [a] [] cpos => mtB T md ff m && (ra o && (rb a && (atB o && (nsB a && lnB apos cpos))))
  | _ => false
theorem mc1C_ok (c : CT G T N sc X W n) {ff : Nat} (h : mc1C T md ff ra rb e = true) (ia : Im G W X .d ra fa) (ib : Im G W X .d rb fb) : Rd G W X md (mc1F (T.call n ff) fa fb) e := by
  unfold mc1C at h
  split at h
  · simp only [Bool.and_eq_true] at h
    obtain ⟨h1, h2, h3, h4, h5, h6⟩ := h
    obtain ⟨g0, d, g1, g2, rfl, g3, g4, g5⟩ := mtB_ok h1
    cases md with
    | o => exact do_mc1 c.ok g0 g1 g2 (g5.resolve_left fun z => by cases z) g3 g4 (ia _ h2) (ib _ h3) h4 h5 h6
    | _ => exact rd_v (de_mc1 c.ok g0 g1 g2 g3 g4 (ia _ h2) (ib _ h3) h4 h5 h6) rfl rfl
  · cases h
def mlnC (T : Tb) (sc : Scope) (md : Md) (ra : Expr → Bool) (e : Expr) : Bool := call1C (fun x a => x == ("len" : Str) && (blB T sc x && (nsB a && (ra a && (md.val && tlB T))))) e
theorem mlnC_ok (c : CT G T N sc X W n) (h : mlnC T sc md ra e = true) (ia : Im G W X .d ra fa) : Rd G W X md (mlnF fa) e := by
  obtain ⟨x, p, a, pos, rfl, h1⟩ := call1C_ok h
  simp only [Bool.and_eq_true, beq_iff_eq] at h1
  obtain ⟨rfl, h2, h3, h4, h5, h6⟩ := h1
  exact rd_v (de_mln c.ok h6 (blB_ok c h2) (ia _ h4) h3) h5 rfl
def tcalC (T : Tb) (N : List Str) (sc : Scope) (md : Md) (ff i j : Nat) (e : Expr) : Bool := call2C (fun x a b => varC N sc i a && (varC N sc j b && (md.val && (glB sc x && (match T.ds.lookup ff with
  | some d => decide (d.name = x)
  | none => false))))) e
theorem tcalC_ok (c : CT G T N sc X W n) {ff i j : Nat} (h : tcalC T N sc md ff i j e = true) : Rd G W X md (tcalF (T.call n ff) i j) e := by
  obtain ⟨x, p, a, b, pos, rfl, h1⟩ := call2C_ok h
  simp only [Bool.and_eq_true] at h1
  obtain ⟨h1, h2, h3, h5, h6⟩ := h1
  obtain ⟨y, q1, rfl, g1⟩ := varC_nm c h1
  obtain ⟨z, q3, rfl, g2⟩ := varC_nm c h2
  cases hd : T.ds.lookup ff with
  | none => rw [hd] at h6; cases h6
  | some d =>
    rw [hd] at h6
    obtain rfl := of_decide_eq_true h6
    obtain ⟨k1, k2⟩ := glB_ok c h5
    exact rd_v (de_tcal c.ok hd k1 k2 g1 g2) h3 rfl
theorem nlC_ok (h : md.vis = true) (ho : Rd G W X .o fa e) : Rd G W X md (nlF fa) e := rd_w (de_nl ho) h
end
end PyD

namespace PyD
open PySem PySem.Spec PyProof.Rows L2
section
variable {G : Gx} {T : Tb} {N : List Str} {X : Cx} {W : WX} {n : Nat} {sc : Scope} {md : Md}
def locB (sc : Scope) (x : Str) : Bool := match sc.names.lookup x with
  | some .local => true
  | some .cell => true
  | _ => false
def tgC (N : List Str) (sc : Scope) (t : Tg) (e : Expr) : Bool := match t, e with
  | .one i, .Name x _ => decide (N[i]? = some x) && locB sc x
  | .two i j, .Tuple [.Name x _, .Name y _] _ _ => decide (N[i]? = some x) && (decide (N[j]? = some y) && (locB sc x && locB sc y))
  | .three i j k, .Tuple [.Name x _, .Name y _, .Name z _] _ _ => decide (N[i]? = some x) && (decide (N[j]? = some y) && (decide (N[k]? = some z) && (locB sc x && (locB sc y && locB sc z))))
  | _, _ => false
def tgN (t : Tg) (e : Expr) : List (Str × Nat) := match t, e with
  | .one i, .Name x _ => [(x, i)]
  | .two i j, .Tuple [.Name x _, .Name y _] _ _ => [(x, i), (y, j)]
  | .three i j k, .Tuple [.Name x _, .Name y _, .Name z _] _ _ => [(x, i), (y, j), (z, k)]
  | _, _ => []
theorem locB_ok {x : Str} (h : locB sc x = true) : sc.names.lookup x = some .local ∨ sc.names.lookup x = some .cell := by
  unfold locB at h
  split at h
  · exact .inl ‹_›
  · exact .inr ‹_›
  · cases h
theorem CT.blk (c : CT G T N sc X W n) (s : Shared) (H : Hp) (scope : Scope) (cl : List (Str × Addr)) (C : Addr) (fp : List Addr) : CT G T N (relS scope sc) (X.blk s H scope (compEnvC scope cl C X.env) fp) W0 n where
  ok := c.ok.blk _ _ _ _ _
  sc := by rw [← c.sc]; rfl
  N := c.N
theorem tg_blk (c : CT G T N sc X W n) {scope : Scope} {t : Tg} {e : Expr} (h : tgC N scope t e = true) (s : Shared) (H : Hp) (C : Addr) (cl : List (Str × Addr)) (fp : List Addr) : PG (X.blk s H scope (compEnvC scope cl C X.env) fp) e (tgT G.K t) := by
  have nm : ∀ {i : Nat} {x : Str} {p : Pos}, N[i]? = some x → locB scope x = true → PG (X.blk s H scope (compEnvC scope cl C X.env) fp) (.Name x p) (gName i) := fun {i x p} h1 h2 => by
    have hN : (X.blk s H scope (compEnvC scope cl C X.env) fp).N[i]? = some x := by
      show X.N[i]? = some x
      rw [c.N]
      exact h1
    rcases locB_ok h2 with h3 | h3
    · have h4 : (relS scope X.env.scope).names.lookup x = some .local := lookup_relS_keep (by decide) h3
      exact pg_name c.ok.nd hN (.inl h4) (.inr h4)
    · have h4 : (relS scope X.env.scope).names.lookup x = some .cell := lookup_relS_keep (by decide) h3
      refine pg_name c.ok.nd hN (.inr h4) (.inl ?_)
      show (scope.names.lookup x == some .cell) = true
      rw [h3]
      rfl
  unfold tgC at h
  split at h
  · simp only [Bool.and_eq_true, decide_eq_true_eq] at h
    exact nm h.1 h.2
  · simp only [Bool.and_eq_true, decide_eq_true_eq] at h
    have hK : X.K = G.K := c.ok.K
    show PG _ _ (gTup G.K 2 (gCons (gName _) (gCons (gName _) gNil)))
    rw [← hK]
    exact pg_tup (X := X.blk s H scope (compEnvC scope cl C X.env) fp) (n := 2) c.ok.calm (pgs_cons (nm h.1 h.2.2.1) (pgs_cons (nm h.2.1 h.2.2.2) pgs_nil rfl) rfl) rfl rfl
  · simp only [Bool.and_eq_true, decide_eq_true_eq] at h
    have hK : X.K = G.K := c.ok.K
    show PG _ _ (gTup G.K 3 (gCons (gName _) (gCons (gName _) (gCons (gName _) gNil))))
    rw [← hK]
    exact pg_tup (X := X.blk s H scope (compEnvC scope cl C X.env) fp) (n := 3) c.ok.calm (pgs_cons (nm h.1 h.2.2.2.1) (pgs_cons (nm h.2.1 h.2.2.2.2.1) (pgs_cons (nm h.2.2.1 h.2.2.2.2.2) pgs_nil rfl) rfl) rfl) rfl rfl
  · cases h
def lcC (N : List Str) (sc : Scope) (t : Tg) (rs : Expr → Expr → Bool) (rc : Scope → List Expr → Bool) (re : Scope → Expr → Bool) (e : Expr) : Bool := match e with
  | .ListComp elt [⟨tg, iter, ifs, a⟩] scope _ => decide (a = 0) && (fsB iter && (tgC N scope t tg && (blkC N sc scope (tgN t tg) && (rs tg iter && (rc (relS scope sc) ifs && re (relS scope sc) elt)))))
  | _ => false
theorem tgN_vs {scope : Scope} {t : Tg} {e : Expr} (h : tgC N scope t e = true) : (tgN t e).map (·.2) = t.vs := by
  unfold tgC at h
  split at h
  · rfl
  · rfl
  · rfl
  · cases h
variable {fs : En → M (List PyData)} {fc fe : En → M PyData} {t : Tg} {rs : Expr → Expr → Bool} {rc : Scope → List Expr → Bool} {re : Scope → Expr → Bool} {e : Expr}
theorem lcC_ok (c : CT G T N sc X W n) (h : lcC N sc t rs rc re e = true) (hs : ∀ tg it, rs tg it = true → SrcOk G W true X tg it fs)
    (hc : ∀ {sc' : Scope} {X' : Cx}, CT G T N sc' X' W0 n → ∀ ifs, rc sc' ifs = true → PTs X' ifs (tT G W0 fc)) (he : ∀ {sc' : Scope} {X' : Cx}, CT G T N sc' X' W0 n → ∀ e, re sc' e = true → PE X' e (tD G W0 fe)) :
    ∃ elt tg iter ifs scope pos, e = .ListComp elt [⟨tg, iter, ifs, 0⟩] scope pos ∧ LcOk G T X W elt tg iter ifs scope t fs fc fe := by
  unfold lcC at h
  split at h
  · rename_i elt tg iter ifs a scope pos
    simp only [Bool.and_eq_true, decide_eq_true_eq] at h
    obtain ⟨rfl, h1, h2, h3, h4, h5, h6⟩ := h
    refine ⟨elt, tg, iter, ifs, scope, pos, rfl, hs _ _ h4, h1, ⟨tgN t tg, ?_, tgN_vs h2⟩, fun s H C cl fp => tg_blk c h2 s H C cl fp, fun s H C cl fp => hc (c.blk s H scope cl C fp) _ h5, fun s H C cl fp => he (c.blk s H scope cl C fp) _ h6⟩
    rw [c.sc, c.N]
    exact blkOk_by h3
  · cases h
theorem lcC_rd (c : CT G T N sc X W n) (h : lcC N sc t rs rc re e = true) (hm : md.lst = true) (hs : ∀ tg it, rs tg it = true → SrcOk G W true X tg it fs)
    (hc : ∀ {sc' : Scope} {X' : Cx}, CT G T N sc' X' W0 n → ∀ ifs, rc sc' ifs = true → PTs X' ifs (tT G W0 fc)) (he : ∀ {sc' : Scope} {X' : Cx}, CT G T N sc' X' W0 n → ∀ e, re sc' e = true → PE X' e (tD G W0 fe)) :
    Rd G W X md (lcF t fs fc fe) e := by
  obtain ⟨elt, tg, iter, ifs, scope, pos, rfl, l⟩ := lcC_ok c h hs hc he
  exact rd_l (do_lc c.ok l) (fun _ _ _ _ z => lc_list z) hm
def oneIf (r : Expr → Bool) : List Expr → Bool
  | [c] => r c
  | _ => false
def noIf : List Expr → Bool
  | [] => true
  | _ => false
def mdH : Bool → Md
  | true => .s
  | false => .d
def isTup : Expr → Bool
  | .Tuple _ _ _ => true
  | _ => false
def isNilX : Exs → Bool
  | .nil => true
  | _ => false
mutual
def m (T : Tb) (N : List Str) : Ex → Scope → Md → Expr → Bool
  | .var i, sc, md, e => md.val && varC N sc i e
  | .ovr i, sc, md, e => (match md with
    | .s => true
    | _ => false) && varC N sc i e
  | .cst d, _, md, e => md.val && cstB d e
  | .glo x, sc, md, e => md.val && (match e with
    | .Name y _ => decide (x = y) && (glB sc x && (T.kf x).isSome)
    | _ => false)
  | .lst es, sc, md, e => lstC md (ms T N es sc) e
  | .tup es, sc, md, e => tupC md (ms T N es sc) e
  | .bin o a b, sc, md, e => binC md o (m T N a sc .s) (m T N b sc .s) e
  | .neg a, sc, md, e => negC md (m T N a sc .d) e
  | .cmp o a b, sc, md, e => cmpC md o (m T N a sc .s) (m T N b sc .s) e
  | .chn o o' a b c, sc, md, e => chnC md o o' (m T N a sc .s) (m T N b sc .s) (m T N c sc .s) e
  | .bop k es, sc, md, e => (match e with
    | .BoolOp op l _ => md.val && (bopB k op && mb T N es sc md.sub l)
    | _ => false)
  | .not a, sc, md, e => notC md (m T N a sc md.sub) e
  | .ite c a b, sc, md, e => iteC md (m T N c sc .t) (m T N a sc .d) (m T N b sc .d) e
  | .call f es, sc, md, e => defC T sc md f (isNilX es) (ms T N es sc) e
  | .cals f es, sc, md, e => defC T sc md f (isNilX es) (ms T N es sc) e
  | .calr f es, sc, md, e => defR T sc md f (msr T N es sc) e
  | .draw t l, sc, md, e => drwC sc md (m T N t sc .d) (m T N l sc .d) e
  | .pick t l, sc, md, e => pckC T sc md (m T N t sc .d) (m T N l sc .s) e
  | .start s, sc, md, e => staC sc md (m T N s sc .d) e
  | .bi f a, sc, md, e => biC T sc md f (m T N a sc .s) e
  | .mx2 k a b, sc, md, e => mx2C T sc md k (m T N a sc .s) (m T N b sc .s) e
  | .isi a t, sc, md, e => isiC T sc md t (m T N a sc .s) e
  | .srs a, sc, md, e => srsC T sc md (m T N a sc .s) e
  | .lrg a, sc, md, e => lrgC T sc md (m T N a sc .s) e
  | .trg a, sc, md, e => trgC T sc md (m T N a sc .s) e
  | .lrg2 a b, sc, md, e => lrg2C T sc md (m T N a sc .s) (m T N b sc .s) e
  | .idx a i, sc, md, e => idxC md (m T N a sc .s) (m T N i sc .s) e
  | .slc a lo hi, sc, md, e => slcC md (m T N a sc .s) (mo T N lo sc) (mo T N hi sc) e
  | .rev a, sc, md, e => revC md (m T N a sc .s) e
  | .cnt o a, sc, md, e => bmC "count" md (m T N o sc .s) (m T N a sc .s) e
  | .ind o a, sc, md, e => bmC "index" md (m T N o sc .s) (m T N a sc .s) e
  | .joi o a, sc, md, e => bmC "join" md (m T N o sc .s) (m T N a sc .s) e
  | .spl o a, sc, md, e => splC md (m T N o sc .s) (m T N a sc .s) e
  | .fs3 a z b, sc, md, e => fs3C md z (m T N a sc .s) (m T N b sc .s) e
  | .tok0 _, _, _, _ => false
  | .thg i, sc, md, e => thgC T N sc md i e
  | .lcal f i j, sc, md, e => lcalC T N sc md f i j e
  | .llen i, sc, md, e => llenC T N sc md i e
  | .lemp i, sc, md, e => lempC T N sc md i e
  | .lcpy i, sc, md, e => lcpyC T N sc md i e
  | .lpop i, sc, md, e => lpopC T N sc md i e
  | .tnew f a, sc, md, e => tnewC T sc md f (m T N a sc .d) e
  | .mc0 f t, sc, md, e => mc0C T md f (m T N t sc .d) e
  | .mc1 f t a, sc, md, e => mc1C T md f (m T N t sc .d) (m T N a sc .d) e
  | .mln t, sc, md, e => mlnC T sc md (m T N t sc .d) e
  | .nlst x, sc, md, e => md.vis && m T N x sc .o e
  | .tcal f i j, sc, md, e => tcalC T N sc md f i j e
  | .cmp0 s t e', sc, md, e => md.lst && lcC N sc t (mr T N s sc true) (fun _ ifs => noIf ifs) (fun sc' x => m T N e' sc' .d x) e
  | .cmp1 s t c e', sc, md, e => md.lst && lcC N sc t (mr T N s sc true) (fun sc' ifs => oneIf (m T N c sc' .t) ifs) (fun sc' x => m T N e' sc' .d x) e
def ms (T : Tb) (N : List Str) : Exs → Scope → List Expr → Bool
  | .nil, _, l => (match l with
    | [] => true
    | _ => false)
  | .cons x xs, sc, l => (match l with
    | a :: r => m T N x sc .d a && (nsB a && ms T N xs sc r)
    | [] => false)
def msr (T : Tb) (N : List Str) : Exs → Scope → List Expr → Bool
  | .nil, _, l => (match l with
    | [] => true
    | _ => false)
  | .cons x xs, sc, l => (match l with
    | a :: r => m T N x sc .s a && (nsB a && msr T N xs sc r)
    | [] => false)
def mb (T : Tb) (N : List Str) : Exs → Scope → Md → List Expr → Bool
  | .nil, _, _, _ => false
  | .cons x xs, sc, md, l => (match l with
    | [] => false
    | a :: r => m T N x sc md a && (match r with
      | [] => isNilX xs
      | _ :: _ => mb T N xs sc md r))
def mo (T : Tb) (N : List Str) : Exo → Scope → Option Expr → Bool
  | .none, _, o => (match o with
    | none => true
    | some _ => false)
  | .some x, sc, o => (match o with
    | some e => m T N x sc .s e
    | none => false)
def mr (T : Tb) (N : List Str) : Src → Scope → Bool → Expr → Expr → Bool
  | .it x, sc, h, _, e => m T N x sc (mdH h) e
  | .rg1 a, sc, h, _, e => call1C (fun x a' => x == ("range" : Str) && (blB T sc x && (nsB a' && m T N a sc (mdH h) a'))) e
  | .rg2 a b, sc, h, _, e => call2C (fun x a' b' => x == ("range" : Str) && (blB T sc x && (nsB a' && (nsB b' && (m T N a sc (mdH h) a' && m T N b sc (mdH h) b'))))) e
  | .enu a, sc, h, tg, e => isTup tg && call1C (fun x a' => x == ("enumerate" : Str) && (blB T sc x && (nsB a' && m T N a sc (mdH h) a'))) e
  | .zip a b, sc, h, tg, e => isTup tg && call2C (fun x a' b' => x == ("zip" : Str) && (blB T sc x && (nsB a' && (nsB b' && (m T N a sc (mdH h) a' && m T N b sc (mdH h) b'))))) e
end
theorem rdH {h : Bool} {f : En → M PyData} (r : Rd G W X (mdH h) f e) : PE X e (tM G W h f) := by
  cases h with
  | true => exact r
  | false => exact r
def RdB (G : Gx) (W : WX) (X : Cx) (md : Md) (op : BoolOp) (l : List Expr) (pos : Pos) (f : En → M PyData) : Prop := match md with
  | .t => PW X (.BoolOp op l pos) (tT G W f)
  | _ => PE X (.BoolOp op l pos) (tD G W f)
abbrev C1 (T : Tb) (n : Nat) : Nat → List PyData → M PyData := T.call n
mutual
theorem m_ok : ∀ (x : Ex) {sc : Scope} {md : Md} {X : Cx} {W : WX} (c : CT G T N sc X W n) (e : Expr), m T N x sc md e = true → Rd G W X md (ev (T.call n) T.kf x) e
  | .var i, sc, md, X, W, c, e, h => by
    simp only [m, Bool.and_eq_true] at h
    obtain ⟨x, p, rfl, h1, h2, h3, h4⟩ := varC_ok c h.2
    exact rd_v (de_var h1 h2 h3 h4) h.1 rfl
  | .ovr i, sc, md, X, W, c, e, h => by
    simp only [m, Bool.and_eq_true] at h
    obtain ⟨x, p, rfl, h1, h2, h3, h4⟩ := varC_ok c h.2
    cases md with
    | s => exact de_ovr h1 h2 h3 h4
    | _ => cases h.1
  | .cst d, sc, md, X, W, c, e, h => by
    simp only [m, Bool.and_eq_true] at h
    obtain ⟨h1, h2⟩ := cstB_ok (G := G) (X := X) (W := W) h.2
    exact rd_v h1 h.1 h2
  | .glo x, sc, md, X, W, c, e, h => by
    simp only [m, Bool.and_eq_true] at h
    obtain ⟨h0, h⟩ := h
    cases e <;> first | (cases h; done) | skip
    simp only [Bool.and_eq_true, decide_eq_true_eq] at h
    obtain ⟨rfl, h2, h3⟩ := h
    obtain ⟨d, hd⟩ := Option.isSome_iff_exists.mp h3
    obtain ⟨g1, g2⟩ := glB_ok c h2
    exact rd_v (de_glo c.ok g1 g2 hd) h0 rfl
  | .lst es, sc, md, X, W, c, e, h => by
    simp only [m] at h
    exact lstC_ok h (fun l z => (ms_ok es c l z).1) (fun l z => (ms_ok es c l z).2)
  | .tup es, sc, md, X, W, c, e, h => by
    simp only [m] at h
    exact tupC_ok h (fun l z => (ms_ok es c l z).1) (fun l z => (ms_ok es c l z).2)
  | .bin o a b, sc, md, X, W, c, e, h => by
    simp only [m] at h
    exact binC_ok c.ok h (fun e z => m_ok a c e z) (fun e z => m_ok b c e z)
  | .neg a, sc, md, X, W, c, e, h => by
    simp only [m] at h
    exact negC_ok h (fun e z => m_ok a c e z)
  | .cmp o a b, sc, md, X, W, c, e, h => by
    simp only [m] at h
    exact cmpC_ok c.ok h (fun e z => m_ok a c e z) (fun e z => m_ok b c e z)
  | .chn o o' a b d, sc, md, X, W, c, e, h => by
    simp only [m] at h
    exact chnC_ok c.ok h (fun e z => m_ok a c e z) (fun e z => m_ok b c e z) (fun e z => m_ok d c e z)
  | .bop k es, sc, md, X, W, c, e, h => by
    simp only [m] at h
    cases e <;> first | (cases h; done) | skip
    rename_i op l pos
    simp only [Bool.and_eq_true] at h
    have z := mb_ok es c k op h.2.1 l pos h.2.2
    cases md with
    | o => cases h.1
    | t => exact PW.pt z
    | d => exact z
    | s => exact de_s z
  | .not a, sc, md, X, W, c, e, h => by
    simp only [m] at h
    exact notC_ok h (fun e z => m_ok a c e z)
  | .ite d a b, sc, md, X, W, c, e, h => by
    simp only [m] at h
    exact iteC_ok h (fun e z => m_ok d c e z) (fun e z => m_ok a c e z) (fun e z => m_ok b c e z)
  | .call f es, sc, md, X, W, c, e, h => by
    simp only [m] at h
    cases es with
    | nil => exact callC_nil c h
    | cons x xs => exact callC_pure c h (fun l z => (ms_ok (.cons x xs) c l z).1)
  | .cals f es, sc, md, X, W, c, e, h => by
    simp only [m] at h
    cases es with
    | nil => exact callC_st0 c h
    | cons x xs => exact callC_st c h (fun l z => (ms_ok (.cons x xs) c l z).1)
  | .calr f es, sc, md, X, W, c, e, h => by
    simp only [m] at h
    exact callC_R c h (fun l z => msr_ok es c l z)
  | .draw t l, sc, md, X, W, c, e, h => by
    simp only [m] at h
    exact drwC_ok c h (fun e z => m_ok t c e z) (fun e z => m_ok l c e z)
  | .pick t l, sc, md, X, W, c, e, h => by
    simp only [m] at h
    exact pckC_ok c h (fun e z => m_ok t c e z) (fun e z => m_ok l c e z)
  | .start s, sc, md, X, W, c, e, h => by
    simp only [m] at h
    exact staC_ok c h (fun e z => m_ok s c e z)
  | .bi f a, sc, md, X, W, c, e, h => by
    simp only [m] at h
    exact biC_ok c h (fun e z => m_ok a c e z)
  | .mx2 k a b, sc, md, X, W, c, e, h => by
    simp only [m] at h
    exact mx2C_ok c h (fun e z => m_ok a c e z) (fun e z => m_ok b c e z)
  | .isi a t, sc, md, X, W, c, e, h => by
    simp only [m] at h
    exact isiC_ok c h (fun e z => m_ok a c e z)
  | .srs a, sc, md, X, W, c, e, h => by
    simp only [m] at h
    exact srsC_ok c h (fun e z => m_ok a c e z)
  | .lrg a, sc, md, X, W, c, e, h => by
    simp only [m] at h
    exact lrgC_ok c h (fun e z => m_ok a c e z)
  | .trg a, sc, md, X, W, c, e, h => by
    simp only [m] at h
    exact trgC_ok c h (fun e z => m_ok a c e z)
  | .lrg2 a b, sc, md, X, W, c, e, h => by
    simp only [m] at h
    exact lrg2C_ok c h (fun e z => m_ok a c e z) (fun e z => m_ok b c e z)
  | .idx a i, sc, md, X, W, c, e, h => by
    simp only [m] at h
    exact idxC_ok c.ok h (fun e z => m_ok a c e z) (fun e z => m_ok i c e z)
  | .slc a lo hi, sc, md, X, W, c, e, h => by
    simp only [m] at h
    exact slcC_ok c.ok h (fun e z => m_ok a c e z) (fun o z => mo_ok lo c o z) (fun o z => mo_ok hi c o z)
  | .rev a, sc, md, X, W, c, e, h => by
    simp only [m] at h
    exact revC_ok c.ok h (fun e z => m_ok a c e z)
  | .cnt o a, sc, md, X, W, c, e, h => by
    simp only [m] at h
    exact cntC_ok c.ok h (fun e z => m_ok o c e z) (fun e z => m_ok a c e z)
  | .ind o a, sc, md, X, W, c, e, h => by
    simp only [m] at h
    exact indC_ok c.ok h (fun e z => m_ok o c e z) (fun e z => m_ok a c e z)
  | .joi o a, sc, md, X, W, c, e, h => by
    simp only [m] at h
    exact joiC_ok c.ok h (fun e z => m_ok o c e z) (fun e z => m_ok a c e z)
  | .spl o a, sc, md, X, W, c, e, h => by
    simp only [m] at h
    exact splC_ok c.ok h (fun e z => m_ok o c e z) (fun e z => m_ok a c e z)
  | .fs3 a z b, sc, md, X, W, c, e, h => by
    simp only [m] at h
    exact fs3C_ok h (fun e z => m_ok a c e z) (fun e z => m_ok b c e z)
  | .tok0 _, sc, md, X, W, c, e, h => by
    simp only [m] at h
    cases h
  | .thg i, sc, md, X, W, c, e, h => by
    simp only [m] at h
    exact thgC_ok c h
  | .lcal f i j, sc, md, X, W, c, e, h => by
    simp only [m] at h
    exact lcalC_ok c h
  | .llen i, sc, md, X, W, c, e, h => by
    simp only [m] at h
    exact llenC_ok c h
  | .lemp i, sc, md, X, W, c, e, h => by
    simp only [m] at h
    exact lempC_ok c h
  | .lcpy i, sc, md, X, W, c, e, h => by
    simp only [m] at h
    exact lcpyC_ok c h
  | .lpop i, sc, md, X, W, c, e, h => by
    simp only [m] at h
    exact lpopC_ok c h
  | .tnew f a, sc, md, X, W, c, e, h => by
    simp only [m] at h
    exact tnewC_ok c h (fun e z => m_ok a c e z)
  | .mc0 f t, sc, md, X, W, c, e, h => by
    simp only [m] at h
    exact mc0C_ok c h (fun e z => m_ok t c e z)
  | .mc1 f t a, sc, md, X, W, c, e, h => by
    simp only [m] at h
    exact mc1C_ok c h (fun e z => m_ok t c e z) (fun e z => m_ok a c e z)
  | .mln t, sc, md, X, W, c, e, h => by
    simp only [m] at h
    exact mlnC_ok c h (fun e z => m_ok t c e z)
  | .nlst x, sc, md, X, W, c, e, h => by
    simp only [m, Bool.and_eq_true] at h
    exact nlC_ok h.1 (m_ok x (md := .o) c e h.2)
  | .tcal f i j, sc, md, X, W, c, e, h => by
    simp only [m] at h
    exact tcalC_ok c h
  | .cmp0 s t e', sc, md, X, W, c, e, h => by
    simp only [m, Bool.and_eq_true] at h
    exact lcC_rd (fc := yesF) (fe := ev (T.call n) T.kf e') c h.2 h.1 (fun tg it z => mr_ok s c true tg it z) (fun c' ifs z => by
      cases ifs with
      | nil => exact yes_pts
      | cons _ _ => cases z) (fun c' x z => m_ok e' (md := .d) c' x z)
  | .cmp1 s t d e', sc, md, X, W, c, e, h => by
    simp only [m, Bool.and_eq_true] at h
    exact lcC_rd (fc := ev (T.call n) T.kf d) (fe := ev (T.call n) T.kf e') c h.2 h.1 (fun tg it z => mr_ok s c true tg it z) (fun c' ifs z => by
      match ifs, z with
      | [x], z => exact pts_one (m_ok d (md := .t) c' x z)) (fun c' x z => m_ok e' (md := .d) c' x z)
theorem ms_ok : ∀ (es : Exs) {sc : Scope} {X : Cx} {W : WX} (c : CT G T N sc X W n) (l : List Expr), ms T N es sc l = true → PA X l (tL G W (evs (T.call n) T.kf es)) ∧ ∀ δ S ds S', evs (T.call n) T.kf es δ S = .ok ds S' → ds.length = l.length
  | .nil, sc, X, W, c, l, h => by
    simp only [ms] at h
    cases l with
    | nil => exact ⟨da_nil, fun δ S ds S' z => by cases z; rfl⟩
    | cons _ _ => cases h
  | .cons x xs, sc, X, W, c, l, h => by
    simp only [ms] at h
    cases l with
    | nil => cases h
    | cons a r =>
      simp only [Bool.and_eq_true] at h
      obtain ⟨g1, g2⟩ := ms_ok xs c r h.2.2
      refine ⟨da_cons (m_ok x (md := .d) c a h.1) g1 h.2.1, fun δ S ds S' z => ?_⟩
      obtain ⟨d, S1, _, z1⟩ := bnd_inv z
      obtain ⟨ds', S2, z2, z3⟩ := bnd_inv z1
      cases z3
      rw [List.length_cons, List.length_cons, g2 _ _ _ _ z2]
theorem msr_ok : ∀ (es : Exs) {sc : Scope} {X : Cx} {W : WX} (c : CT G T N sc X W n) (l : List Expr), msr T N es sc l = true → PA X l (tLS G W (evs (T.call n) T.kf es))
  | .nil, sc, X, W, c, l, h => by
    simp only [msr] at h
    cases l with
    | nil => exact das_nil
    | cons _ _ => cases h
  | .cons x xs, sc, X, W, c, l, h => by
    simp only [msr] at h
    cases l with
    | nil => cases h
    | cons a r =>
      simp only [Bool.and_eq_true] at h
      exact das_cons (m_ok x (md := .s) c a h.1) (msr_ok xs c r h.2.2) h.2.1
theorem mb_ok : ∀ (es : Exs) {sc : Scope} {md : Md} {X : Cx} {W : WX} (c : CT G T N sc X W n) (k : Bool) (op : BoolOp), bopB k op = true → ∀ (l : List Expr) (pos : Pos), mb T N es sc md.sub l = true → RdB G W X md.sub op l pos (evb (T.call n) T.kf k es)
  | .nil, sc, md, X, W, c, k, op, hk, l, pos, h => by simp only [mb] at h; cases h
  | .cons x xs, sc, md, X, W, c, k, op, hk, l, pos, h => by
    simp only [mb] at h
    cases l with
    | nil => cases h
    | cons a r =>
      simp only [Bool.and_eq_true] at h
      have z := m_ok x c a h.1
      cases r with
      | nil =>
        cases xs with
        | cons _ _ => cases h.2
        | nil =>
          cases md <;> first
            | exact de_one z
            | (cases k <;> cases op <;> first | (cases hk; done) | exact dw_and1 z | exact dw_or1 z)
      | cons b r =>
        cases xs with
        | nil =>
          have h2 := h.2
          simp only [mb] at h2
          cases h2
        | cons y ys =>
          have z2 := mb_ok (.cons y ys) (md := md) c k op hk (b :: r) pos h.2
          cases md <;> cases k <;> cases op <;> first
            | (cases hk; done)
            | exact de_and z z2
            | exact de_or z z2
            | exact dw_and z z2
            | exact dw_or z z2
theorem mo_ok : ∀ (x : Exo) {sc : Scope} {X : Cx} {W : WX} (c : CT G T N sc X W n) (o : Option Expr), mo T N x sc o = true → PO X o (tP G W (evo (T.call n) T.kf x))
  | .none, sc, X, W, c, o, h => by
    simp only [mo] at h
    cases o with
    | none => exact dp_none
    | some _ => cases h
  | .some x, sc, X, W, c, o, h => by
    simp only [mo] at h
    cases o with
    | none => cases h
    | some e => exact dp_some (m_ok x (md := .s) c e h)
theorem mr_ok : ∀ (s : Src) {sc : Scope} {X : Cx} {W : WX} (c : CT G T N sc X W n) (hh : Bool) (tg e : Expr), mr T N s sc hh tg e = true → SrcOk G W hh X tg e (evS (T.call n) T.kf s)
  | .it x, sc, X, W, c, hh, tg, e, h => by
    simp only [mr] at h
    exact src_it c.ok (rdH (m_ok x c e h))
  | .rg1 a, sc, X, W, c, hh, tg, e, h => by
    simp only [mr] at h
    obtain ⟨x, p, a', pos, rfl, h1⟩ := call1C_ok h
    simp only [Bool.and_eq_true, beq_iff_eq] at h1
    obtain ⟨rfl, h2, h3, h4⟩ := h1
    exact src_rg1 (blB_ok c h2) (rdH (m_ok a c a' h4)) h3
  | .rg2 a b, sc, X, W, c, hh, tg, e, h => by
    simp only [mr] at h
    obtain ⟨x, p, a', b', pos, rfl, h1⟩ := call2C_ok h
    simp only [Bool.and_eq_true, beq_iff_eq] at h1
    obtain ⟨rfl, h2, h3, h4, h5, h6⟩ := h1
    exact src_rg2 (blB_ok c h2) (rdH (m_ok a c a' h5)) (rdH (m_ok b c b' h6)) h3 h4
  | .enu a, sc, X, W, c, hh, tg, e, h => by
    simp only [mr, Bool.and_eq_true] at h
    obtain ⟨h0, h⟩ := h
    obtain ⟨x, p, a', pos, rfl, h1⟩ := call1C_ok h
    simp only [Bool.and_eq_true, beq_iff_eq] at h1
    obtain ⟨rfl, h2, h3, h4⟩ := h1
    cases tg <;> first | (cases h0; done) | skip
    exact src_enu c.ok (blB_ok c h2) (rdH (m_ok a c a' h4)) h3
  | .zip a b, sc, X, W, c, hh, tg, e, h => by
    simp only [mr, Bool.and_eq_true] at h
    obtain ⟨h0, h⟩ := h
    obtain ⟨x, p, a', b', pos, rfl, h1⟩ := call2C_ok h
    simp only [Bool.and_eq_true, beq_iff_eq] at h1
    obtain ⟨rfl, h2, h3, h4, h5, h6⟩ := h1
    cases tg <;> first | (cases h0; done) | skip
    exact src_zip c.ok (blB_ok c h2) (rdH (m_ok a c a' h5)) (rdH (m_ok b c b' h6)) h3 h4
end
end
end PyD

namespace PyD
open PySem PySem.Spec PyProof.Rows L2
section
variable {X : Cx} {pins : List (Addr × Obj)} {σ : L2.St} {H : Hp} {s : Shared}
/-- an object that came in this def, tracked from now on -/
theorem inv_track {a : Addr} {o : HO} (I : Inv X pins σ H s) (n0 : X.s_0.heap.get? a = none) (hn : H a = none) (nL : a ≠ X.env.locals) (nC : ∀ x c, X.env.cells.lookup x = some c → c ≠ a) (nP : ∀ p ∈ X.pn ++ pins, p.1 ≠ a) (new : ObjOk X.prog X.w (upd H a o) s.heap a o) :
    Inv X pins σ (upd H a o) s := by
  have ne : ∀ {b : Addr} {u : HO}, H b = some u → b ≠ a := fun {b u} e => ne_of_none e hn
  refine ⟨I.ok, I.os, I.bare, ⟨I.base.keep, I.base.slot, fun b u e n hx => ?_, I.base.there, fun b xs e => ?_, fun b u xs e => ?_, fun b ps e => ?_⟩, I.loc, I.cell, ?_, fun x c e => ?_, fun p hp => ?_, fun b u e => ?_, I.len⟩
  · rw [upd_ne (fun z => by rw [z, n0] at e; cases e)]
    exact I.base.free b u e n hx
  · have q := I.base.tups b xs e
    rw [upd_ne (ne q)]
    exact q
  · have q := I.base.frzs b u xs e
    rw [upd_ne (ne q)]
    exact q
  · obtain ⟨m, q⟩ := I.base.tbls b ps e
    exact ⟨m, by rw [upd_ne (ne q)]; exact q⟩
  · rw [upd_ne nL.symm]
    exact I.free
  · rw [upd_ne (nC x c e)]
    exact I.freeC x c e
  · obtain ⟨h1, h2, h3, h4, h5⟩ := I.pin p hp
    exact ⟨h1, by rw [upd_ne (nP p hp)]; exact h2, h3, h4, h5⟩
  · by_cases hb : b = a
    · subst hb
      rw [upd_same] at e
      cases e
      exact new
    · rw [upd_ne hb] at e
      exact (I.hok b u e).stay (fun c v _ q => q) (fun c q => by rw [upd_ne (ne q)]; exact q) fun c xs q => by rw [upd_ne (ne q)]; exact q
/-- fewer pins -/
theorem inv_unpin {q : Addr × Obj} (I : Inv X (q :: pins) σ H s) : Inv X pins σ H s :=
  ⟨I.ok, I.os, I.bare, I.base, I.loc, I.cell, I.free, I.freeC, fun p hp => I.pin p (by
    rcases List.mem_append.mp hp with h | h
    · exact List.mem_append_left _ h
    · exact List.mem_append_right _ (List.mem_cons_of_mem _ h)), I.hok, I.len⟩
theorem inv_unsuite {a : Addr} {q : Addr × Obj} {pn' : List (Addr × Obj)} (I : Inv (X.suite a (q :: (X.pn ++ pins))) pn' σ H s) (ok : X.Ok) : Inv X (q :: pins) σ H s :=
  ⟨ok, I.os, I.bare, I.base, I.loc, I.cell, I.free, I.freeC, fun p hp => I.pin p (by
    refine List.mem_append_left _ ?_
    rcases List.mem_append.mp hp with h | h
    · exact List.mem_cons_of_mem _ (List.mem_append_left _ h)
    · rcases List.mem_cons.mp h with e | h
      · rw [e]; exact List.mem_cons_self
      · exact List.mem_cons_of_mem _ (List.mem_append_right _ h)), I.hok, I.len⟩
end
/-- what is wished of an exception of the body -/
def wSet (K : PySem.W.Frag) (c : Value) (i j : Nat) (Wout : WX) (D : Ends) : WX := fun cls d σ H =>
  ∃ b, PySem.W.exmOne K cls c = some b ∧ (b = true → ∀ a, H a = none → D.nx (((σ.set i (some (.ref a))).set j (some (.ref a))).set i none) (upd H a (ExK cls d a))) ∧ (b = false → Wout cls d σ H)
theorem exK_ok {P : Program} {w : World} {H : Hp} {h : Heap} {a : Addr} {cls : Value} {d : Option Addr} {oe : Obj} {vs : Array Value} (e : h.get? a = some oe) (z : Zc cls d oe) (dd : oe.data = .fields vs) : ObjOk P w H h a (ExK cls d a) :=
  ⟨⟨oe, vs, e, z, dd⟩, ⟨oe, e⟩, fun _ _ ⟨o, v, q, r⟩ k => ⟨o, v, k o q, r⟩⟩
section
variable {X : Cx} {x n m : Str} {c : Value} {i j : Nat} {body : List Stmt} {np mp np2 sp pos pos' : Pos} {tb : WX → TS} {Wout : WX}
theorem ps_try_set (hex : X.ex = []) (hs : X.stack = X.env :: X.outer) (hf : X.env.frame = some X.env.locals) (hN : X.N.Nodup) (hi : X.N[i]? = some n) (hj : X.N[j]? = some m) (hln : X.env.kindOf n = some .local) (hvn : Vis X.env.scope n) (hlm : Loc X.env.scope m) (hfm : X.fn m = true ∨ X.env.scope.names.lookup m = some .local)
    (hd1 : (n == ("__debug__" : Str)) = false) (hd2 : (n == ("__classdict__" : Str)) = false) (hc : Names X x c) (tk : Takes X Wout)
    (hb : ∀ (W : WX) (pn : List (Addr × Obj)) (xe : Value → Shared → Prop), Takes (X.tr pn xe) W → PassesOwn (model X.prog X.w) X.A X.env xe → PSs (X.tr pn xe) body (tb W)) :
    PS X (.Try body [.ExceptHandler (some (.Name x np)) (some n) [.Assign [.Name m mp] (.Name n np2) sp] pos'] [] [] pos) (fun D σ H => tb (wSet X.K c i j Wout D) D σ H) := by
  refine ⟨fun pins s σ H D I h => ?_⟩
  have ok := I.ok
  have hfr : X.A.frames = some (X.env :: X.outer) := by rw [ok.frames, hs]
  have hloc : Loc X.env.scope n := .inl hln
  refine wpAny_Try_except ?_
  refine wpAny_mono ((hb (wSet X.K c i j Wout D) (X.pn ++ pins) (fun e s₁ => wpAny (model X.prog X.w) X.A (noteFrame e X.env) (fun _ s₂ => wpAny (model X.prog X.w) X.A (setFlight e none) (fun _ s₃ =>
    wpAny (model X.prog X.w) X.A (handleBy e X.env [.ExceptHandler (some (.Name x np)) (some n) [.Assign [.Name m mp] (.Name n np2) sp] pos']) (SP X pins D) X.xe s₃) X.xe s₂) X.xe s₁) (fun u s' xx => ?_) PassesOwn.looking).run [] s σ H D (I.toTry _) h) (fun f s1 hsp => ?_) (fun e s1 he => he)
  · obtain ⟨a, B, sI, pins', σ', H', cls, d, rfl, J', nb, up, sky, na, os, ag, b, hb1, hyes, hno⟩ := xx
    have J : Inv X pins σ' H' sI := J'.ofTry ok
    have sky' : Sky B (X.env :: X.outer) a (Zc cls d) X.env.locals s'.heap := by rw [← hs]; exact sky
    show wpAny (model X.prog X.w) X.A (noteFrame (.ref a) X.env) _ _ _
    refine Sky.land Zc.steady hfr hf sky' fun h3 fl3 up3 => ?_
    have J3 : Inv X pins σ' H' { s' with heap := h3 } := J.landed nb fl3.1 (up.trans up3) os ag
    obtain ⟨oe3, vs3, he3, hz3, hd3⟩ := fl3.there
    have notFr : ∀ {h : Heap} {o : Obj} {vs : Array Value}, h.FunFrames B (X.env :: X.outer) → h.get? a = some o → o.data = .fields vs → a ∉ frs (X.env :: X.outer) := fun {h o vs} ff e dd hm => by
      obtain ⟨_, o', e', hnf⟩ := ff.mem hm
      rw [e] at e'; cases e'
      exact hnf _ dd
    have nfr := notFr fl3.2.2.1 he3 hd3
    have nL : a ≠ X.env.locals := fun z => nfr (List.mem_filterMap.mpr ⟨X.env, List.mem_cons_self, by rw [hf, z]⟩)
    have nF : a ∉ X.fs := fun hm => by
      obtain ⟨e, he, q⟩ := List.mem_filterMap.mp hm
      exact nfr (List.mem_filterMap.mpr ⟨e, List.mem_cons_of_mem _ he, q⟩)
    -- the error is new
    have nI : sI.heap.get? a = none := by
      cases e : sI.heap.get? a with
      | none => rfl
      | some o =>
        have z := nb a o e (by rw [hs]; exact nfr)
        rw [fl3.2.1] at z
        cases z
    have n0 : X.s_0.heap.get? a = none := by
      cases e : X.s_0.heap.get? a with
      | none => rfl
      | some o =>
        obtain ⟨o', z⟩ := J.base.there a o e (by rw [hex]; exact fun z => nomatch z)
        rw [nI] at z
        cases z
    have nC : ∀ x c, X.env.cells.lookup x = some c → c ≠ a := fun x c e z => by
      obtain ⟨v, o, ho, _⟩ := J.cell x c e
      rw [z, nI] at ho
      cases ho
    have nP : ∀ p ∈ X.pn ++ pins, p.1 ≠ a := fun p hp z => by
      have q := (J.pin p hp).1
      rw [z, nI] at q
      cases q
    have S3 := J3.suite he3 hd3 na nL nF
    refine wpAny_handleBy_cons (codeAny_handlers_test ?_) (by intro q; cases q)
    have LT : PySem.W.Looks (model X.prog X.w) h3 (typeOf (.ref a)) cls := fun A Q E s k q => wpAny_typeOf_ref (k _ _ he3) (by rw [hz3.1]; exact q)
    have LM := PySem.W.exm_one (M := model X.prog X.w) (J3.kIn) LT hb1
    have test : ∀ {Q : Value → Shared → Prop} {E : Value → Shared → Prop}, Q c { s' with heap := h3 } → wpAny (model X.prog X.w) (X.A.mark (some (.ref a))) (eval (.Name x np) X.env) Q E { s' with heap := h3 } := fun {Q E} q => by
      obtain ⟨hg, hdbg, hm | ⟨hm, hv, hnn⟩⟩ := hc
      · exact ld_glob (X := X.suite a ((a, oe3) :: (X.pn ++ pins))) S3 hg hm q hdbg
      · exact ld_blt (X := X.suite a ((a, oe3) :: (X.pn ++ pins))) S3 hg hm hv q hnn hdbg
    refine test (LM.here ?_)
    cases b with
    | true =>
      refine codeAny_handlers_suite_as ?_
      refine HandSPX.lands_againZ fl3 fun h4 fl4 up4 => ?_
      have J4 : Inv X pins σ' H' { s' with heap := h4 } := J.landed nb fl4.1 ((up.trans up3).trans up4) os ag
      obtain ⟨oe4, vs4, he4, hz4, hd4⟩ := fl4.there
      have S4 := J4.suite he4 hd4 na nL nF
      refine store_ok (X := X.suite a ((a, oe4) :: (X.pn ++ pins))) (v := .ref a) S4 hN hi hloc rfl (fun s5 S5 => ?_) (.inr hln)
      have hilt : i < σ'.length := by
        rw [J.len]
        exact (List.getElem?_eq_some_iff.mp hi).1
      have hsu : PSs (X.suite a ((a, oe4) :: (X.pn ++ pins))) [.Assign [.Name m mp] (.Name n np2) sp] (tAsg (tVar i) (gName j)) :=
        pss_one (ps_set (X := X.suite a ((a, oe4) :: (X.pn ++ pins))) hN hj hlm (pe_var hi hvn hd1 hd2) rfl hfm)
      have hgo : tAsg (tVar i) (gName j) { nx := fun σ2 H2 => D.nx (σ2.set i none) (upd H2 a (ExK cls d a)), rt := fun _ _ => False, bk := fun _ _ => False, ct := fun _ _ => False } (σ'.set i (some (.ref a))) H' := ⟨.ref a, List.getElem?_set_self hilt, hyes rfl a na⟩
      refine wpAny_mono (hsu.run [] s5 _ H' _ S5 hgo) (fun f s6 hsp => ?_) (fun _ _ z => False.elim z)
      have end_ : ∀ {σ6 : L2.St} {H6 : Hp} {Q : Shared → Prop}, Inv (X.suite a ((a, oe4) :: (X.pn ++ pins))) [] σ6 H6 s6 → (∀ s7, Inv X ((a, oe4) :: pins) (σ6.set i none) H6 s7 → Q s7) →
          wpAny (model X.prog X.w) X.A (do bindName X.env n .none; unbindBehindTheSuite X.env n pos') (fun _ s7 => Q s7) X.xe s6 := fun {σ6 H6 Q} S6 hq => gone_ok (inv_unsuite S6 ok) hN hi hln hq
      cases f with
      | next =>
        obtain ⟨σ6, H6, S6, q6⟩ := hsp
        refine end_ S6 fun s7 J7 => ⟨_, upd H6 a (ExK cls d a), ?_, q6⟩
        obtain ⟨p1, p2, _⟩ := J7.pin (a, oe4) (List.mem_append_right _ List.mem_cons_self)
        exact inv_track (inv_unpin J7) n0 p2 nL nC nP (exK_ok p1 hz4 hd4)
      | brk =>
        obtain ⟨σ6, H6, S6, q6⟩ := hsp
        exact q6.elim
      | cont =>
        obtain ⟨σ6, H6, S6, q6⟩ := hsp
        exact q6.elim
      | ret u =>
        obtain ⟨v6, σ6, H6, S6, r6, q6⟩ := hsp
        exact q6.elim
    | false =>
      show wpAny _ X.A (handleBy (.ref a) X.env []) _ _ _
      refine wpAny_handleBy_nil ?_
      obtain ⟨k1, k2, k3, oe, vs, T, oT, ts', he, hz, hd, h1, hr⟩ := id fl3
      unfold PySem.passOn
      refine wpAny_bind (wpAny_field he hd h1 ?_)
      rw [if_neg (show ¬ ((Value.ref T == Value.none) = true) from by simp)]
      have fin : wpAny (model X.prog X.w) X.A (setFlight (.ref a) X.env.frame) (fun _ s4 => wpAny (model X.prog X.w) X.A (throw (.ref a) : Sem Flow) (SP X pins D) X.xe s4) X.xe { s' with heap := h3 } := by
        rw [hf]
        refine HandSPX.setFlight_upZ fl3 fun h4 hh4 up4 => wpAny_throw (tk _ _ ?_)
        exact ⟨a, B, sI, pins, σ', H', cls, d, rfl, J, nb, (up.trans up3).trans up4, .inr (.inr (by rw [hs]; exact hh4)), na, os, ag, hno rfl⟩
      first
        | exact wpAny_bind (wpAny_pure (wpAny_bind fin))
        | exact wpAny_bind fin
  · cases f with
    | next =>
      obtain ⟨σ', H', J', q⟩ := hsp
      exact wpAny_execs_nil ⟨σ', H', J'.ofTry ok, q⟩
    | brk =>
      obtain ⟨σ', H', J', q⟩ := hsp
      exact ⟨σ', H', J'.ofTry ok, q⟩
    | cont =>
      obtain ⟨σ', H', J', q⟩ := hsp
      exact ⟨σ', H', J'.ofTry ok, q⟩
    | ret u =>
      obtain ⟨v, σ', H', J', r, q⟩ := hsp
      exact ⟨v, σ', H', J'.ofTry ok, r, q⟩
end
end PyD

namespace PyD
open PySem PySem.Spec PyProof.Rows L2
section
variable {G : Gx} {T : Tb} {N : List Str} {X : Cx} {W : WX} {n : Nat} {sc : Scope}
/-- the context of a def's body -/
structure CF (G : Gx) (T : Tb) (N : List Str) (sc : Scope) (X : Cx) (W : WX) (n : Nat) : Prop where
  ct : CT G T N sc X W n
  fn : ∀ x, sc.names.lookup x = some .cell → X.fn x = true
  kind : sc.kind = .function
  tk : Takes X W
  own : PassesOwn (model X.prog X.w) X.A X.env X.xe
  ex : X.ex = []
  stk : X.stack = X.env :: X.outer
  frm : X.env.frame = some X.env.locals
theorem CF.bk (c : CF G T N sc X W n) : X.env.blockKind = .function := by
  unfold Env.blockKind
  rw [c.ct.sc, c.kind]
  rfl
def swpB (sc : Scope) (e : Expr) (t : Str) (tp : Pos) : Bool := match e with
  | .ListComp _ _ s _ => decide (sc.names.lookup t = some .local) && (tp.line == e.pos.line && !(s.names.any fun (n, k) => n == t && (k == .local || k == .cell)))
  | .SetComp _ _ _ _ => true
  | .DictComp _ _ _ _ _ => true
  | _ => false
theorem swpB_no (c : CF G T N sc X W n) {e : Expr} {t : Str} {tp : Pos} {ln : Nat} (h : swpB sc e t tp = false) : swapsWith e (some (.Name t tp)) ln X.env = pure false := by
  cases e <;> first
    | rfl
    | (cases h; done)
    | skip
  rename_i elt gs s pos
  show (pure (X.env.blockKind == .function && X.env.kindOf t == some .local && tp.line == (Expr.ListComp elt gs s pos).pos.line && !(s.names.any fun (n, k) => n == t && (k == .local || k == .cell))) : Sem Bool) = pure false
  refine congrArg pure ?_
  have h' : (decide (sc.names.lookup t = some .local) && (tp.line == (Expr.ListComp elt gs s pos).pos.line && !(s.names.any fun (n, k) => n == t && (k == .local || k == .cell)))) = false := h
  unfold Env.kindOf
  rw [c.bk, c.ct.sc, ← h']
  have e1 : (sc.names.lookup t == some NameKind.local) = decide (sc.names.lookup t = some NameKind.local) := by
    by_cases z : sc.names.lookup t = some NameKind.local
    · rw [decide_eq_true z, z]; rfl
    · rw [decide_eq_false z]; exact beq_eq_false_iff_ne.mpr z
  rw [e1, Bool.and_assoc, Bool.and_assoc]
  rfl
theorem swpB_yes (c : CF G T N sc X W n) {elt : Expr} {gs : List Comprehension} {s : Scope} {pos : Pos} {t : Str} {tp : Pos} {ln : Nat} (h : swpB sc (.ListComp elt gs s pos) t tp = true) :
    sc.names.lookup t = some .local ∧ swapsWith (.ListComp elt gs s pos) (some (.Name t tp)) ln X.env = pure true := by
  have h' : (decide (sc.names.lookup t = some .local) && (tp.line == (Expr.ListComp elt gs s pos).pos.line && !(s.names.any fun (n, k) => n == t && (k == .local || k == .cell)))) = true := h
  have h2 := of_decide_eq_true (Bool.and_eq_true_iff.mp h').1
  refine ⟨h2, ?_⟩
  show (pure (X.env.blockKind == .function && X.env.kindOf t == some .local && tp.line == (Expr.ListComp elt gs s pos).pos.line && !(s.names.any fun (n, k) => n == t && (k == .local || k == .cell))) : Sem Bool) = pure true
  refine congrArg pure ?_
  unfold Env.kindOf
  rw [c.bk, c.ct.sc, h2, Bool.and_assoc, (Bool.and_eq_true_iff.mp h').2]
  rfl
/-- no comprehension -/
def ncB : Expr → Bool
  | .ListComp _ _ _ _ => false
  | .SetComp _ _ _ _ => false
  | .DictComp _ _ _ _ _ => false
  | _ => true
theorem ncB_ok {e : Expr} (h : ncB e = true) (t : Option Expr) (ln : Nat) (env : Env) : swapsWith e t ln env = pure false := by
  cases e <;> first | rfl | cases h
def swNs (sc : Scope) (ts : List Expr) : List Str := ts.filterMap fun
    | .Name id pos => if sc.names.lookup id == some .local && pos.line == (ts.head?.map (·.pos.line)).getD 0 then some id else none
    | _ => none
/-- the pair is built and taken apart -/
def swNo (sc : Scope) (ts : List Expr) : Expr → Bool
  | .Tuple vs _ _ => (swNs sc ts).length != ts.length || vs.all (foldedForSure 8)
  | _ => true
theorem swNo_ok (c : CF G T N sc X W n) {ts : List Expr} {k : Nat} {p : Pos} {e : Expr} (h : swNo sc ts e = true) : swappedStores [.Tuple ts k p] e X.env = pure none := by
  cases e <;> first | rfl | skip
  rename_i vs k2 p2
  have hb := c.bk
  have hs := c.ct.sc
  unfold swappedStores
  have h2 : ((swNs sc ts).length != ts.length || vs.all (foldedForSure 8)) = true := h
  dsimp only
  split
  · rfl
  · split
    · rfl
    · generalize hz : List.filterMap _ ts = names
      have e1 : names = swNs sc ts := by
        rw [← hz]
        unfold swNs Env.kindOf
        rw [hs]
        rfl
      rcases Bool.or_eq_true_iff.mp h2 with h2 | h2
      · rw [e1, h2]
        rfl
      · split
        · rfl
        · first
          | rfl
          | (rw [h2]; rfl)
def swYes (sc : Scope) (x y : Str) (ts vs : List Expr) : Bool := decide (swNs sc ts = [x, y]) && (decide (x ≠ y) && (!(vs.all (foldedForSure 8)) && !(vs.all (constantsAlone 8))))
theorem swYes_ok (c : CF G T N sc X W n) {x y : Str} {t1 t2 a b : Expr} {k k2 : Nat} {p p2 : Pos} (h : swYes sc x y [t1, t2] [a, b] = true) (h1 : nsB a = true) (h2 : nsB b = true) : swappedStores [.Tuple [t1, t2] k p] (.Tuple [a, b] k2 p2) X.env = pure (some [x, y]) := by
  have hb := c.bk
  have hs := c.ct.sc
  unfold swYes at h
  simp only [Bool.and_eq_true, decide_eq_true_eq, Bool.not_eq_true'] at h
  obtain ⟨g1, g2, g3, g4⟩ := h
  unfold swappedStores
  have e3 : ([x, y] : List Str).eraseDups.length = 2 := by
    have : (y == x) = false := beq_eq_false_iff_ne.mpr fun z => g2 z.symm
    simp [List.eraseDups, List.eraseDupsBy, List.eraseDupsBy.loop, this]
  have hb' : (X.env.blockKind != ScopeKind.function) = false := by rw [hb]; rfl
  dsimp only
  generalize hz : List.filterMap _ [t1, t2] = names
  have e1 : names = [x, y] := by
    rw [← hz, ← g1]
    unfold swNs Env.kindOf
    rw [hs]
    rfl
  generalize hz2 : List.any [a, b] _ = qq
  have e2 : qq = false := by
    rw [← hz2]
    cases a <;> first | (cases h1; done) | (cases b <;> first | (cases h2; done) | rfl)
  rw [e1, e2, e3, g3, g4, hb']
  rfl
def swYes3 (sc : Scope) (x y z : Str) (ts vs : List Expr) : Bool := decide (swNs sc ts = [x, y, z]) && (decide (x ≠ y ∧ x ≠ z ∧ y ≠ z) && (!(vs.all (foldedForSure 8)) && !(vs.all (constantsAlone 8))))
theorem swYes3_ok (c : CF G T N sc X W n) {x y z : Str} {t1 t2 t3 a b d : Expr} {k k2 : Nat} {p p2 : Pos} (h : swYes3 sc x y z [t1, t2, t3] [a, b, d] = true) (h1 : nsB a = true) (h2 : nsB b = true) (h3 : nsB d = true) : swappedStores [.Tuple [t1, t2, t3] k p] (.Tuple [a, b, d] k2 p2) X.env = pure (some [x, y, z]) := by
  have hb := c.bk
  have hs := c.ct.sc
  unfold swYes3 at h
  simp only [Bool.and_eq_true, decide_eq_true_eq, Bool.not_eq_true'] at h
  obtain ⟨g1, ⟨g2, g2', g2''⟩, g3, g4⟩ := h
  unfold swappedStores
  have e3 : ([x, y, z] : List Str).eraseDups.length = 3 := by
    have q1 : (y == x) = false := beq_eq_false_iff_ne.mpr fun z => g2 z.symm
    have q2 : (z == x) = false := beq_eq_false_iff_ne.mpr fun z => g2' z.symm
    have q3 : (z == y) = false := beq_eq_false_iff_ne.mpr fun z => g2'' z.symm
    simp [List.eraseDups, List.eraseDupsBy, List.eraseDupsBy.loop, q1, q2, q3]
  have hb' : (X.env.blockKind != ScopeKind.function) = false := by rw [hb]; rfl
  dsimp only
  generalize hz : List.filterMap _ [t1, t2, t3] = names
  have e1 : names = [x, y, z] := by
    rw [← hz, ← g1]
    unfold swNs Env.kindOf
    rw [hs]
    rfl
  generalize hz2 : List.any [a, b, d] _ = qq
  have e2 : qq = false := by
    rw [← hz2, List.any_eq_false]
    have key : ∀ e ∈ [a, b, d], nsB e = true := fun e he => by
      simp only [List.mem_cons, List.mem_nil_iff, or_false] at he
      rcases he with rfl | rfl | rfl <;> assumption
    intro e he q
    have hn := key e he
    cases e <;> first | (cases hn; done) | (cases q; done)
  rw [e1, e2, e3, g3, g4, hb']
  rfl
def stB (sc : Scope) (N : List Str) (i : Nat) (x : Str) : Bool := decide (N[i]? = some x) && locB sc x
theorem stB_ok (c : CF G T N sc X W n) {i : Nat} {x : Str} (h : stB sc N i x = true) : X.N[i]? = some x ∧ L2.Loc X.env.scope x ∧ (X.fn x = true ∨ X.env.scope.names.lookup x = some .local) := by
  unfold stB at h
  rw [Bool.and_eq_true, decide_eq_true_eq] at h
  refine ⟨by rw [c.ct.N]; exact h.1, ?_⟩
  unfold L2.Loc
  rw [c.ct.sc]
  rcases locB_ok h.2 with z | z
  · exact ⟨.inl z, .inr z⟩
  · exact ⟨.inr z, .inl (c.fn x z)⟩
theorem tg_fn (c : CF G T N sc X W n) {t : Tg} {e : Expr} (h : tgC N sc t e = true) : PG X e (tgT G.K t) := by
  have nm : ∀ {i : Nat} {x : Str} {p : Pos}, N[i]? = some x → locB sc x = true → PG X (.Name x p) (gName i) := fun {i x p} h1 h2 => by
    obtain ⟨g1, g2, g3⟩ := stB_ok c (i := i) (x := x) (by unfold stB; rw [h2, decide_eq_true h1]; rfl)
    exact pg_name c.ct.ok.nd g1 g2 g3
  unfold tgC at h
  split at h
  · simp only [Bool.and_eq_true, decide_eq_true_eq] at h
    exact nm h.1 h.2
  · simp only [Bool.and_eq_true, decide_eq_true_eq] at h
    have hK : X.K = G.K := c.ct.ok.K
    show PG _ _ (gTup G.K 2 (gCons (gName _) (gCons (gName _) gNil)))
    rw [← hK]
    exact pg_tup (n := 2) c.ct.ok.calm (pgs_cons (nm h.1 h.2.2.1) (pgs_cons (nm h.2.1 h.2.2.2) pgs_nil rfl) rfl) rfl rfl
  · simp only [Bool.and_eq_true, decide_eq_true_eq] at h
    have hK : X.K = G.K := c.ct.ok.K
    show PG _ _ (gTup G.K 3 (gCons (gName _) (gCons (gName _) (gCons (gName _) gNil))))
    rw [← hK]
    exact pg_tup (n := 3) c.ct.ok.calm (pgs_cons (nm h.1 h.2.2.2.1) (pgs_cons (nm h.2.1 h.2.2.2.2.1) (pgs_cons (nm h.2.2.1 h.2.2.2.2.2) pgs_nil rfl) rfl) rfl) rfl rfl
  · cases h
def isCmp : Ex → Bool
  | .cmp0 _ _ _ => true
  | .cmp1 _ _ _ _ => true
  | _ => false
theorem m_lc {x : Ex} {md : Md} {e : Expr} (c : CT G T N sc X W n) (h1 : isCmp x = true) (h : m T N x sc md e = true) :
    ∃ elt tg iter ifs scope pos t fs fc fe, e = .ListComp elt [⟨tg, iter, ifs, 0⟩] scope pos ∧ LcOk G T X W elt tg iter ifs scope t fs fc fe ∧ ev (T.call n) T.kf x = lcF t fs fc fe := by
  cases x <;> first | (cases h1; done) | skip
  · rename_i s t e'
    simp only [m, Bool.and_eq_true] at h
    obtain ⟨elt, tg, iter, ifs, scope, pos, rfl, l⟩ := lcC_ok (fc := yesF) (fe := ev (T.call n) T.kf e') c h.2 (fun tg it z => mr_ok s c true tg it z) (fun c' ifs z => by
      cases ifs with
      | nil => exact yes_pts
      | cons _ _ => cases z) (fun c' x z => m_ok e' (md := .d) c' x z)
    exact ⟨elt, tg, iter, ifs, scope, pos, t, _, _, _, rfl, l, rfl⟩
  · rename_i s t d e'
    simp only [m, Bool.and_eq_true] at h
    obtain ⟨elt, tg, iter, ifs, scope, pos, rfl, l⟩ := lcC_ok (fc := ev (T.call n) T.kf d) (fe := ev (T.call n) T.kf e') c h.2 (fun tg it z => mr_ok s c true tg it z) (fun c' ifs z => by
      match ifs, z with
      | [x], z => exact pts_one (m_ok d (md := .t) c' x z)) (fun c' x z => m_ok e' (md := .d) c' x z)
    exact ⟨elt, tg, iter, ifs, scope, pos, t, _, _, _, rfl, l, rfl⟩
def asgM (T : Tb) (N : List Str) (sc : Scope) (md : Md) (i : Nat) (x : Ex) (s : Stmt) : Bool := match s with
  | .Assign [.Name y p] e _ => stB sc N i y && (m T N x sc md e && (!(swpB sc e y p) || isCmp x))
  | _ => false
theorem asgM_d (c : CF G T N sc X W n) {i : Nat} {x : Ex} {s : Stmt} (h : asgM T N sc .d i x s = true) : PS X s (tB G W (asgF i (ev (T.call n) T.kf x))) := by
  unfold asgM at h
  split at h
  · rename_i y p e pos
    simp only [Bool.and_eq_true, Bool.or_eq_true, Bool.not_eq_true'] at h
    obtain ⟨h1, h2, h3⟩ := h
    obtain ⟨g1, g2, g3⟩ := stB_ok c h1
    cases hs : swpB sc e y p with
    | false => exact s_asg c.ct.ok g1 g2 g3 (swpB_no c hs) (m_ok x c.ct e h2)
    | true =>
      have h4 := h3.resolve_left fun z => by rw [hs] at z; cases z
      obtain ⟨elt, tg, iter, ifs, scope, pos2, t, fs, fc, fe, rfl, l, e1⟩ := m_lc c.ct h4 h2
      obtain ⟨k1, k2⟩ := swpB_yes c (ln := pos.line) hs
      rw [e1]
      exact s_asgC c.ct.ok g1 (by rw [c.ct.sc]; exact k1) k2 l
  · cases h
theorem asgM_o (c : CF G T N sc X W n) {i : Nat} {x : Ex} {s : Stmt} (h : asgM T N sc .o i x s = true) : PS X s (tB G W (ownF i (ev (T.call n) T.kf x))) := by
  unfold asgM at h
  split at h
  · rename_i y p e pos
    simp only [Bool.and_eq_true, Bool.or_eq_true, Bool.not_eq_true'] at h
    obtain ⟨h1, h2, h3⟩ := h
    obtain ⟨g1, g2, g3⟩ := stB_ok c h1
    cases hs : swpB sc e y p with
    | false => exact s_own c.ct.ok g1 g2 g3 (swpB_no c hs) (m_ok x c.ct e h2)
    | true =>
      have h4 := h3.resolve_left fun z => by rw [hs] at z; cases z
      obtain ⟨elt, tg, iter, ifs, scope, pos2, t, fs, fc, fe, rfl, l, e1⟩ := m_lc c.ct h4 h2
      obtain ⟨k1, k2⟩ := swpB_yes c (ln := pos.line) hs
      rw [e1]
      exact s_ownC c.ct.ok g1 (by rw [c.ct.sc]; exact k1) k2 l
  · cases h
def par2M (T : Tb) (N : List Str) (sc : Scope) (i j : Nat) (a b : Ex) (s : Stmt) : Bool := match s with
  | .Assign [.Tuple [.Name x px, .Name y py] _ _] (.Tuple [e1, e2] _ _) _ => decide (N[i]? = some x) && (decide (N[j]? = some y) && (decide (i ≠ j) && (decide (sc.names.lookup x = some .local) && (decide (sc.names.lookup y = some .local) &&
      (m T N a sc .d e1 && (m T N b sc .d e2 && (nsB e1 && (nsB e2 && swYes sc x y [.Name x px, .Name y py] [e1, e2]))))))))
  | _ => false
theorem par2M_ok (c : CF G T N sc X W n) {i j : Nat} {a b : Ex} {s : Stmt} (h : par2M T N sc i j a b s = true) : PS X s (tB G W (par2F i j (ev (T.call n) T.kf a) (ev (T.call n) T.kf b))) := by
  unfold par2M at h
  split at h
  · simp only [Bool.and_eq_true, decide_eq_true_eq] at h
    obtain ⟨h1, h2, h3, h4, h5, h6, h7, h8, h9, h10⟩ := h
    exact s_par2 c.ct.ok (by rw [c.ct.N]; exact h1) (by rw [c.ct.N]; exact h2) h3 (by rw [c.ct.sc]; exact h4) (by rw [c.ct.sc]; exact h5) (m_ok a (md := .d) c.ct _ h6) (m_ok b (md := .d) c.ct _ h7) h8 h9 (swYes_ok c h10 h8 h9)
  · cases h
def par3M (T : Tb) (N : List Str) (sc : Scope) (i j l : Nat) (a b d : Ex) (s : Stmt) : Bool := match s with
  | .Assign [.Tuple [.Name x px, .Name y py, .Name z pz] _ _] (.Tuple [e1, e2, e3] _ _) _ => decide (N[i]? = some x) && (decide (N[j]? = some y) && (decide (N[l]? = some z) && (decide (i ≠ j ∧ i ≠ l ∧ j ≠ l) && (decide (sc.names.lookup x = some .local) && (decide (sc.names.lookup y = some .local) && (decide (sc.names.lookup z = some .local) &&
      (m T N a sc .d e1 && (m T N b sc .d e2 && (m T N d sc .d e3 && (nsB e1 && (nsB e2 && (nsB e3 && swYes3 sc x y z [.Name x px, .Name y py, .Name z pz] [e1, e2, e3]))))))))))))
  | _ => false
theorem par3M_ok (c : CF G T N sc X W n) {i j l : Nat} {a b d : Ex} {s : Stmt} (h : par3M T N sc i j l a b d s = true) : PS X s (tB G W (par3F i j l (ev (T.call n) T.kf a) (ev (T.call n) T.kf b) (ev (T.call n) T.kf d))) := by
  unfold par3M at h
  split at h
  · simp only [Bool.and_eq_true, decide_eq_true_eq] at h
    obtain ⟨h1, h2, h3, h4, h5, h6, h7, h8, h9, h10, h11, h12, h13, h14⟩ := h
    exact s_par3 c.ct.ok (by rw [c.ct.N]; exact h1) (by rw [c.ct.N]; exact h2) (by rw [c.ct.N]; exact h3) h4.1 h4.2.1 h4.2.2 (by rw [c.ct.sc]; exact h5) (by rw [c.ct.sc]; exact h6) (by rw [c.ct.sc]; exact h7) (m_ok a (md := .d) c.ct _ h8) (m_ok b (md := .d) c.ct _ h9) (m_ok d (md := .d) c.ct _ h10) h11 h12 h13 (swYes3_ok c h14 h11 h12 h13)
  · cases h
def unpM (T : Tb) (N : List Str) (sc : Scope) (i j : Nat) (a : Ex) (s : Stmt) : Bool := match s with
  | .Assign [.Tuple [t1, t2] k p] e _ => tgC N sc (.two i j) (.Tuple [t1, t2] k p) && (m T N a sc .d e && swNo sc [t1, t2] e)
  | _ => false
theorem unpM_ok (c : CF G T N sc X W n) {i j : Nat} {a : Ex} {s : Stmt} (h : unpM T N sc i j a s = true) : PS X s (tB G W (unpF i j (ev (T.call n) T.kf a))) := by
  unfold unpM at h
  split at h
  · simp only [Bool.and_eq_true] at h
    obtain ⟨h1, h2, h3⟩ := h
    refine s_unp c.ct.ok (m_ok a (md := .d) c.ct _ h2) (tg_fn c h1) ?_ (swNo_ok c h3) rfl
    rename_i e _
    cases e <;> rfl
  · cases h
def augM (T : Tb) (N : List Str) (sc : Scope) (md : Md) (i : Nat) (x : Ex) (s : Stmt) : Bool := match s with
  | .AugAssign (.Name y _) .Add e _ => stB sc N i y && m T N x sc md e
  | _ => false
theorem augM_d (c : CF G T N sc X W n) {i : Nat} {x : Ex} {s : Stmt} (h : augM T N sc .d i x s = true) : PS X s (tB G W (augF i (ev (T.call n) T.kf x))) := by
  unfold augM at h
  split at h
  · rw [Bool.and_eq_true] at h
    obtain ⟨g1, g2, g3⟩ := stB_ok c h.1
    exact s_aug c.ct.ok g1 g2 g3 (m_ok x (md := .d) c.ct _ h.2)
  · cases h
theorem augM_s (c : CF G T N sc X W n) {i : Nat} {x : Ex} {s : Stmt} (h : augM T N sc .s i x s = true) : PS X s (tB G W (extF i (ev (T.call n) T.kf x))) := by
  unfold augM at h
  split at h
  · rw [Bool.and_eq_true] at h
    obtain ⟨g1, g2, g3⟩ := stB_ok c h.1
    exact s_ext c.ct.ok g1 g2 g3 (m_ok x (md := .s) c.ct _ h.2)
  · cases h
def mutM (T : Tb) (N : List Str) (sc : Scope) (name : Str) (i : Nat) (x : Ex) (s : Stmt) : Bool := match s with
  | .Expr (.Call (.Attribute (.Name y _) mm apos) [e] [] cpos) _ => decide (mm = name) && (decide (N[i]? = some y) && (visB sc y && (m T N x sc .d e && (nsB e && lnB apos cpos))))
  | _ => false
theorem vis_fn (c : CT G T N sc X W n) {i : Nat} {y : Str} (h1 : N[i]? = some y) (h2 : visB sc y = true) : X.N[i]? = some y ∧ Vis X.env.scope y ∧ (y == ("__debug__" : Str)) = false ∧ (y == ("__classdict__" : Str)) = false := by
  obtain ⟨g1, g2, g3⟩ := visB_ok h2
  exact ⟨by rw [c.N]; exact h1, by unfold Vis; rw [c.sc]; exact g1, g2, g3⟩
theorem mutM_app (c : CF G T N sc X W n) {i : Nat} {x : Ex} {s : Stmt} (h : mutM T N sc "append" i x s = true) : PS X s (tB G W (appF i (ev (T.call n) T.kf x))) := by
  unfold mutM at h
  split at h
  · simp only [Bool.and_eq_true, decide_eq_true_eq] at h
    obtain ⟨rfl, h1, h2, h3, h4, h5⟩ := h
    obtain ⟨g1, g2, g3, g4⟩ := vis_fn c.ct h1 h2
    exact s_app c.ct.ok g1 g2 g3 g4 (m_ok x (md := .d) c.ct _ h3) h4 h5
  · cases h
theorem mutM_rem (c : CF G T N sc X W n) {i : Nat} {x : Ex} {s : Stmt} (h : mutM T N sc "remove" i x s = true) : PS X s (tB G W (remF i (ev (T.call n) T.kf x))) := by
  unfold mutM at h
  split at h
  · simp only [Bool.and_eq_true, decide_eq_true_eq] at h
    obtain ⟨rfl, h1, h2, h3, h4, h5⟩ := h
    obtain ⟨g1, g2, g3, g4⟩ := vis_fn c.ct h1 h2
    exact s_rem c.ct.ok g1 g2 g3 g4 (m_ok x (md := .d) c.ct _ h3) h4 h5
  · cases h
def putM (T : Tb) (N : List Str) (sc : Scope) (i : Nat) (k x : Ex) (s : Stmt) : Bool := match s with
  | .Assign [.Subscript (.Name y _) ek _] e _ => decide (N[i]? = some y) && (visB sc y && (m T N x sc .d e && (m T N k sc .s ek && (nslB ek && ncB e))))
  | _ => false
theorem putM_ok (c : CF G T N sc X W n) {i : Nat} {k x : Ex} {s : Stmt} (h : putM T N sc i k x s = true) : PS X s (tB G W (putF i (ev (T.call n) T.kf x) (ev (T.call n) T.kf k))) := by
  unfold putM at h
  split at h
  · simp only [Bool.and_eq_true, decide_eq_true_eq] at h
    obtain ⟨h1, h2, h3, h4, h5, h6⟩ := h
    obtain ⟨g1, g2, g3, g4⟩ := vis_fn c.ct h1 h2
    rename_i e _
    refine s_put c.ct.ok g1 g2 g3 g4 (m_ok x (md := .d) c.ct _ h3) (m_ok k (md := .s) c.ct _ h4) ?_ ?_ rfl (sub_asg h5)
    · cases e <;> rfl
    · cases e <;> rfl
  · cases h
def expM (T : Tb) (N : List Str) (sc : Scope) (x : Ex) (s : Stmt) : Bool := match s with
  | .Expr e _ => m T N x sc .d e && ncB e
  | _ => false
theorem expM_ok (c : CF G T N sc X W n) {x : Ex} {s : Stmt} (h : expM T N sc x s = true) : PS X s (tB G W (expF (ev (T.call n) T.kf x))) := by
  unfold expM at h
  split at h
  · rw [Bool.and_eq_true] at h
    exact s_exp (ncB_ok h.2 _ _ _) (m_ok x (md := .d) c.ct _ h.1)
  · cases h
def retM (T : Tb) (N : List Str) (sc : Scope) (md : Md) (x : Ex) (s : Stmt) : Bool := match s with
  | .Return (some e) _ => m T N x sc md e
  | _ => false
theorem retM_d (c : CF G T N sc X W n) {x : Ex} {s : Stmt} (h : retM T N sc .d x s = true) : PS X s (tB G W (retF (ev (T.call n) T.kf x))) := by
  unfold retM at h
  split at h
  · exact s_ret (m_ok x (md := .d) c.ct _ h)
  · cases h
theorem retM_o (c : CF G T N sc X W n) {x : Ex} {s : Stmt} (h : retM T N sc .o x s = true) : PS X s (tB G W (retoF (ev (T.call n) T.kf x))) := by
  unfold retM at h
  split at h
  · exact s_reto (m_ok x (md := .o) c.ct _ h)
  · cases h
def rseM (T : Tb) (sc : Scope) (k : Nat) (s : Stmt) : Bool := match s with
  | .Raise (some (.Call (.Name x _) [.Constant (.str _) _ _] [] _)) none _ => decide (T.es.lookup k = some x) && glB sc x
  | _ => false
theorem rseM_ok (c : CF G T N sc X W n) {k : Nat} {s : Stmt} (h : rseM T sc k s = true) : PS X s (tB G W fun δ S => .exc k δ S) := by
  unfold rseM at h
  split at h
  · rw [Bool.and_eq_true, decide_eq_true_eq] at h
    obtain ⟨g1, g2⟩ := glB_ok c.ct h.2
    exact s_rse c.ct.ok c.tk h.1 g1 g2
  · cases h
def ifM (rc : Expr → Bool) (ra rb : List Stmt → Bool) (s : Stmt) : Bool := match s with
  | .If e a b _ => rc e && (ra a && rb b)
  | _ => false
def forM (T : Tb) (N : List Str) (sc : Scope) (src : Src) (t : Tg) (rb : List Stmt → Bool) (s : Stmt) : Bool := match s with
  | .For tg it b [] _ => mr T N src sc false tg it && (fsB it && (tgC N sc t tg && rb b))
  | _ => false
def whlM (rc : Expr → Bool) (rb : List Stmt → Bool) (s : Stmt) : Bool := match s with
  | .While e b [] _ => rc e && rb b
  | _ => false
def lappM (T : Tb) (N : List Str) (sc : Scope) (i j : Nat) (s : Stmt) : Bool := match s with
  | .Expr (.Call (.Attribute a mm apos) [y] [] cpos) _ => decide (mm = "append") && (lineC N sc i a && (varC N sc j y && (lnB apos cpos && tlB T)))
  | _ => false
theorem lappM_ok (c : CF G T N sc X W n) {i j : Nat} {s : Stmt} (h : lappM T N sc i j s = true) : PS X s (tB G W (lappF i j)) := by
  unfold lappM at h
  split at h
  · simp only [Bool.and_eq_true, decide_eq_true_eq] at h
    obtain ⟨rfl, h1, h2, h3, h4⟩ := h
    obtain ⟨x, q1, q2, rfl, g1⟩ := lineC_ok c.ct h1
    obtain ⟨y, q3, rfl, g2⟩ := varC_nm c.ct h2
    exact s_lapp c.ct.ok (tl_c c.ct.ok h4) g1 g2 h3
  · cases h
def tappM (T : Tb) (N : List Str) (sc : Scope) (x y : Ex) (s : Stmt) : Bool := match s with
  | .Expr (.Call (.Attribute o mm apos) [e] [] cpos) _ => decide (mm = "append") && (m T N x sc .d o && (m T N y sc .d e && (atB o && (nsB e && lnB apos cpos))))
  | _ => false
theorem tappM_ok (c : CF G T N sc X W n) {x y : Ex} {s : Stmt} (h : tappM T N sc x y s = true) : PS X s (tB G W (tappF (ev (T.call n) T.kf x) (ev (T.call n) T.kf y))) := by
  unfold tappM at h
  split at h
  · simp only [Bool.and_eq_true, decide_eq_true_eq] at h
    obtain ⟨rfl, h1, h2, h3, h4, h5⟩ := h
    exact s_tapp c.ct.ok (m_ok x (md := .d) c.ct _ h1) (m_ok y (md := .d) c.ct _ h2) h3 h4 h5
  · cases h
def retvM (N : List Str) (sc : Scope) (i : Nat) (s : Stmt) : Bool := match s with
  | .Return (some e) _ => varC N sc i e
  | _ => false
theorem retvM_ok (c : CF G T N sc X W n) {i : Nat} {s : Stmt} (h : retvM N sc i s = true) : PS X s (tB G W (retvF i)) := by
  unfold retvM at h
  split at h
  · obtain ⟨x, q1, rfl, g1⟩ := varC_nm c.ct h
    exact s_retv g1
  · cases h
def pasM : Stmt → Bool
  | .Pass _ => true
  | _ => false
theorem CF.tr (c : CF G T N sc X W n) {W' : WX} {pn : List (Addr × Obj)} {xe : Value → Shared → Prop} (tk : Takes (X.tr pn xe) W') (own : PassesOwn (model X.prog X.w) X.A X.env xe) : CF G T N sc (X.tr pn xe) W' n where
  ct := ⟨⟨c.ct.ok.calm, c.ct.ok.nd, c.ct.ok.room, fun σ => passAt tk σ, c.ct.ok.K, c.ct.ok.tb⟩, c.ct.sc, c.ct.N⟩
  fn := c.fn
  kind := c.kind
  tk := tk
  own := own
  ex := c.ex
  stk := c.stk
  frm := c.frm
abbrev tryF (fb : En → Store → SRes) (k n j : Nat) : En → Store → SRes := fun δ s => match fb δ s with
  | .exc q δ' s' => if q < 7 then (if subE q k then .nxt ((δ'.set j (.val (excD q))).set n .non) s' else .exc q δ' s') else .bad
  | r => r
theorem s_try {body : List Stmt} {fb : En → Store → SRes} {k i j : Nat} {x y z : Str} {np mp np2 sp pos pos' : Pos} (c : CF G T N sc X W n) (hal : allE T) (hk : T.es.lookup k = some x) (hg : L2.Gl X x) (hdx : (x == ("__debug__" : Str)) = false)
    (hi : N[i]? = some y) (hj : N[j]? = some z) (hij : i ≠ j) (hly : sc.names.lookup y = some .local) (hlz : sc.names.lookup z = some .local) (hd1 : (y == ("__debug__" : Str)) = false) (hd2 : (y == ("__classdict__" : Str)) = false)
    (hb : ∀ {X' : Cx} {W' : WX}, CF G T N sc X' W' n → PSs X' body (tB G W' fb)) :
    PS X (.Try body [.ExceptHandler (some (.Name x np)) (some y) [.Assign [.Name z mp] (.Name y np2) sp] pos'] [] [] pos) (tB G W (tryF fb k i j)) := by
  have ey := c.ct.ok.tb.es k x hk
  have hsc := c.ct.sc
  have h1 : X.env.kindOf y = some .local := by unfold Env.kindOf; rw [hsc]; exact hly
  have hN1 : X.N[i]? = some y := by rw [c.ct.N]; exact hi
  have hN2 : X.N[j]? = some z := by rw [c.ct.N]; exact hj
  refine (ps_try_set (tb := fun W' => tB G W' fb) (Wout := W) (c := .ref (G.C k)) (i := i) (j := j) c.ex c.stk c.frm c.ct.ok.nd hN1 hN2 h1 (.inl (by rw [hsc]; exact hly)) (.inl (by rw [hsc]; exact hlz)) (.inr (by rw [hsc]; exact hlz)) hd1 hd2 ⟨hg, hdx, .inl ey.at_⟩ c.tk (fun W' pn xe tk own => hb (c.tr tk own))).imp fun D σ H q => ?_
  obtain ⟨w0, w, S, δ, e, ok, l, q⟩ := q
  refine ⟨w0, w, S, δ, e, ok, l, ?_⟩
  have q' : SQ G W w0 D (match fb δ S with
    | .exc q δ' s' => if q < 7 then (if subE q k then .nxt ((δ'.set j (.val (excD q))).set i .non) s' else .exc q δ' s') else .bad
    | r => r) := q
  clear q
  cases hr : fb δ S with
  | nxt δ1 S1 => rw [hr] at q'; exact q'
  | ret d S1 => rw [hr] at q'; exact q'
  | reto ds S1 => rw [hr] at q'; exact q'
  | bad => rw [hr] at q'; exact q'
  | exc q δ1 S1 =>
    rw [hr] at q'
    dsimp only at q'
    split at q'
    · rename_i hq7
      obtain ⟨xq, hxq⟩ := hal q hq7
      have hsub := c.ct.ok.tb.sub q k xq x hxq hk
      rw [← c.ct.ok.K] at hsub
      intro w1 σ1 l1 k1
      refine ⟨subE q k, hsub, fun hb2 a na => ?_, fun hb2 => ?_⟩
      · rw [if_pos hb2] at q'
        have hx2 : (δ1.set j (.val (excD q))).set i .non = ((δ1.set i (.val (excD q))).set j (.val (excD q))).set i .non := by
          rw [List.set_comm _ _ hij, List.set_set, List.set_comm _ _ hij.symm]
        rw [hx2] at q'
        have l2 : LI G w0 (w1.put a (ExK (.ref (G.C q)) none a)) σ1 δ1 := l1.step (Adv.new1 k1 na)
        have r2 : RepW G (w1.put a (ExK (.ref (G.C q)) none a)) (.ref a) (excD q) := .exc (vis_some.mpr ⟨k1.newH na, upd_same⟩)
        exact q' (w1.put a (ExK (.ref (G.C q)) none a)) _ (((l2.setV i r2).setV j r2).drop i none) (Ok.new1 k1 na)
      · rw [if_neg (by rw [hb2]; exact Bool.false_ne_true)] at q'
        exact q' w1 σ1 l1 k1
    · exact q'.elim
def tryM (T : Tb) (N : List Str) (sc : Scope) (k i j : Nat) (rb : List Stmt → Bool) (s : Stmt) : Bool := match s with
  | .Try b [.ExceptHandler (some (.Name x _)) (some y) [.Assign [.Name z _] (.Name y2 _) _] _] [] [] _ =>
    decide (y2 = y) && (allEB T && (decide (T.es.lookup k = some x) && (glB sc x && (decide (N[i]? = some y) && (decide (N[j]? = some z) && (decide (i ≠ j) && (decide (sc.names.lookup y = some .local) && (decide (sc.names.lookup z = some .local) && (!(y == ("__debug__" : Str)) && (!(y == ("__classdict__" : Str)) && rb b))))))))))
  | _ => false
mutual
def mS (T : Tb) (N : List Str) : St → Scope → Stmt → Bool
  | .asg i x, sc, s => asgM T N sc .d i x s
  | .own i x, sc, s => asgM T N sc .o i x s
  | .par2 i j a b, sc, s => par2M T N sc i j a b s
  | .par3 i j l a b d, sc, s => par3M T N sc i j l a b d s
  | .unp i j a, sc, s => unpM T N sc i j a s
  | .app i x, sc, s => mutM T N sc "append" i x s
  | .ext i x, sc, s => augM T N sc .s i x s
  | .aug i x, sc, s => augM T N sc .d i x s
  | .put i k x, sc, s => putM T N sc i k x s
  | .rem i x, sc, s => mutM T N sc "remove" i x s
  | .exp x, sc, s => expM T N sc x s
  | .ifs x a b, sc, s => ifM (m T N x sc .t) (mSs T N a sc) (mSs T N b sc) s
  | .for_ src t b, sc, s => forM T N sc src t (mSs T N b sc) s
  | .whl x b, sc, s => whlM (m T N x sc .t) (mSs T N b sc) s
  | .ret x, sc, s => retM T N sc .d x s
  | .reto x, sc, s => retM T N sc .o x s
  | .rse k, sc, s => rseM T sc k s
  | .try_ b k i j, sc, s => tryM T N sc k i j (mSs T N b sc) s
  | .pas, _, s => pasM s
  | .shr i t, sc, s => mS T N t sc s
  | .lapp i j, sc, s => lappM T N sc i j s
  | .retv i, sc, s => retvM N sc i s
  | .tapp x y, sc, s => tappM T N sc x y s
def mSs (T : Tb) (N : List Str) : Sts → Scope → List Stmt → Bool
  | .nil, _, l => (match l with
    | [] => true
    | _ => false)
  | .cons t ts, sc, l => (match l with
    | s :: r => mS T N t sc s && mSs T N ts sc r
    | [] => false)
end
mutual
theorem mS_ok : ∀ (t : St) {sc : Scope} {X : Cx} {W : WX} (c : CF G T N sc X W n) (s : Stmt), mS T N t sc s = true → PS X s (tB G W (evT (T.call n) T.kf t))
  | .asg i x, sc, X, W, c, s, h => by simp only [mS] at h; exact asgM_d c h
  | .own i x, sc, X, W, c, s, h => by simp only [mS] at h; exact asgM_o c h
  | .par2 i j a b, sc, X, W, c, s, h => by simp only [mS] at h; exact par2M_ok c h
  | .par3 i j l a b d, sc, X, W, c, s, h => by simp only [mS] at h; exact par3M_ok c h
  | .unp i j a, sc, X, W, c, s, h => by simp only [mS] at h; exact unpM_ok c h
  | .app i x, sc, X, W, c, s, h => by simp only [mS] at h; exact mutM_app c h
  | .ext i x, sc, X, W, c, s, h => by simp only [mS] at h; exact augM_s c h
  | .aug i x, sc, X, W, c, s, h => by simp only [mS] at h; exact augM_d c h
  | .put i k x, sc, X, W, c, s, h => by simp only [mS] at h; exact putM_ok c h
  | .rem i x, sc, X, W, c, s, h => by simp only [mS] at h; exact mutM_rem c h
  | .exp x, sc, X, W, c, s, h => by simp only [mS] at h; exact expM_ok c h
  | .ifs x a b, sc, X, W, c, s, h => by
    simp only [mS] at h
    unfold ifM at h
    split at h
    · simp only [Bool.and_eq_true] at h
      exact s_if (m_ok x (md := .t) c.ct _ h.1) (mSs_ok a c _ h.2.1) (mSs_ok b c _ h.2.2)
    · cases h
  | .for_ src t b, sc, X, W, c, s, h => by
    simp only [mS] at h
    unfold forM at h
    split at h
    · simp only [Bool.and_eq_true] at h
      exact s_for c.ct.ok c.own (mr_ok src c.ct false _ _ h.1) h.2.1 (tg_fn c h.2.2.1) (mSs_ok b c _ h.2.2.2)
    · cases h
  | .whl x b, sc, X, W, c, s, h => by
    simp only [mS] at h
    unfold whlM at h
    split at h
    · simp only [Bool.and_eq_true] at h
      exact s_whl c.own (m_ok x (md := .t) c.ct _ h.1) (mSs_ok b c _ h.2)
    · cases h
  | .ret x, sc, X, W, c, s, h => by simp only [mS] at h; exact retM_d c h
  | .reto x, sc, X, W, c, s, h => by simp only [mS] at h; exact retM_o c h
  | .rse k, sc, X, W, c, s, h => by simp only [mS] at h; exact rseM_ok c h
  | .try_ b k i j, sc, X, W, c, s, h => by
    simp only [mS] at h
    unfold tryM at h
    split at h
    · simp only [Bool.and_eq_true, decide_eq_true_eq, Bool.not_eq_true'] at h
      obtain ⟨g0, g1, g2, g3, g4, g5, g6, g7, g8, g9, g10, g11⟩ := h
      subst g0
      obtain ⟨z1, z2⟩ := glB_ok c.ct g3
      exact s_try c (allEB_ok g1) g2 z1 z2 g4 g5 g6 g7 g8 g9 g10 fun c' => mSs_ok b c' _ g11
    · cases h
  | .pas, sc, X, W, c, s, h => by
    simp only [mS] at h
    unfold pasM at h
    split at h
    · exact s_pas
    · cases h
  | .shr i t, sc, X, W, c, s, h => by
    simp only [mS] at h
    exact s_shr (mS_ok t c s h)
  | .lapp i j, sc, X, W, c, s, h => by simp only [mS] at h; exact lappM_ok c h
  | .retv i, sc, X, W, c, s, h => by simp only [mS] at h; exact retvM_ok c h
  | .tapp x y, sc, X, W, c, s, h => by simp only [mS] at h; exact tappM_ok c h
theorem mSs_ok : ∀ (ts : Sts) {sc : Scope} {X : Cx} {W : WX} (c : CF G T N sc X W n) (l : List Stmt), mSs T N ts sc l = true → PSs X l (tB G W (evTs (T.call n) T.kf ts))
  | .nil, sc, X, W, c, l, h => by
    simp only [mSs] at h
    cases l with
    | nil => exact s_nil
    | cons _ _ => cases h
  | .cons t ts, sc, X, W, c, l, h => by
    simp only [mSs] at h
    cases l with
    | nil => cases h
    | cons s r =>
      simp only [Bool.and_eq_true] at h
      exact s_cons (mS_ok t c s h.1) (mSs_ok ts c r h.2)
end
end
end PyD

namespace PyD
open PySem PySem.Spec PyProof.Rows L2
section
variable {P : Program} {w : World} {G : Gx} {mg : Str → Option Value} {base : Heap} {T : Tb} {n : Nat}
theorem lookup2 {α : Type} {a b : Nat} {x y : α} (h : (a == b) = false) : ([(a, x), (b, y)] : List (Nat × α)).lookup a = some x ∧ ([(a, x), (b, y)] : List (Nat × α)).lookup b = some y := by
  have h1 : a ≠ b := by simpa using h
  have h2 : (b == a) = false := by simpa using fun z : b = a => h1 z.symm
  refine ⟨?_, ?_⟩
  · rw [List.lookup_cons]
    simp
  · rw [List.lookup_cons, h2, List.lookup_cons]
    simp
theorem all_tl {f fT fI chk : Nat} {d : DefI} (h0 : T.ds.lookup f = none) (h1 : T.mt.lookup f = none) (htl : T.tl = some (fT, fI, chk)) (h : (tlDs (some (fT, fI, chk))).lookup f = some d) : T.all.lookup f = some d := by
  unfold Tb.all
  rw [lookup_app, h0]
  show (T.mt ++ tlDs T.tl).lookup f = some d
  rw [lookup_app, h1, htl]
  exact h
def finS : SRes → Res PyData
  | .nxt _ s' => .ok .none s'
  | .ret x s' => .ok x s'
  | .reto xs s' => .ok (.list xs) s'
  | .exc k _ s' => .exc k s'
  | .bad => .bad
theorem run_fin {C : Nat → List PyData → M PyData} {K : Str → Option PyData} {name : Str} {b : Sts} {d : PyData} {S : Store} : (⟨name, ["things"], ["things"], b, false⟩ : DefI).run C K [d] S = finS (evTs C K b [Slot.val d] S) := by
  unfold DefI.run
  refine (if_pos (show ([d] : List PyData).length = (["things"] : List Str).length from rfl)).trans ?_
  show (match evTs C K b [Slot.val d] S with
    | .nxt _ s' => if (false : Bool) = true then Res.bad else Res.ok PyData.none s'
    | .ret x s' => if (false : Bool) = true then Res.bad else Res.ok x s'
    | .reto xs s' => Res.ok (PyData.list xs) s'
    | .exc k _ s' => Res.exc k s'
    | .bad => Res.bad) = _
  cases evTs C K b [Slot.val d] S <;> rfl
theorem till_run {C : Nat → List PyData → M PyData} {K : Str → Option PyData} {fI : Nat} {d : PyData} {S : Store} : (dTill fI).run C K [d] S = C fI [d] S := by
  unfold dTill
  rw [run_fin]
  show finS (SRes.thn (SRes.of (C fI [d] S) [Slot.val d] fun x s => SRes.ret x s) fun δ s => SRes.nxt δ s) = _
  cases C fI [d] S <;> rfl
def initD (c : List PyData → M PyData) (d : PyData) : M PyData := M.bnd (pureC [d] (c [d])) fun _ => match d with
  | .int n => newT n
  | _ => M.bad
theorem init_run {C : Nat → List PyData → M PyData} {K : Str → Option PyData} {chk : Nat} {d : PyData} {S : Store} : (dInit chk).run C K [d] S = initD (C chk) d S := by
  unfold dInit
  rw [run_fin]
  show finS (SRes.thn (SRes.of (pureC [d] (C chk [d]) S) [Slot.val d] fun _ s => SRes.nxt [Slot.val d] s) fun δ s => SRes.thn (SRes.of (ev C K (.tok0 (.var 0)) δ s) δ fun x s => SRes.ret x s) fun δ s => SRes.nxt δ s) = _
  unfold initD M.bnd
  cases pureC [d] (C chk [d]) S with
  | bad => rfl
  | exc k s => rfl
  | ok r s => cases d <;> rfl
theorem tlB_parts {fT fI chk : Nat} (htl : T.tl = some (fT, fI, chk)) (h : tlB T = true) : T.ds.lookup fT = none ∧ T.mt.lookup fT = none ∧ T.ds.lookup fI = none ∧ T.mt.lookup fI = none ∧ (fT == fI) = false ∧ ∃ d, T.ds.lookup chk = some d ∧ d.ps.length = 1 ∧ d.fr = false ∧ d.name = ("check_things" : Str) := by
  unfold tlB at h
  rw [htl] at h
  simp only [Bool.and_eq_true, Bool.not_eq_true', Option.isNone_iff_eq_none] at h
  obtain ⟨h1, h2, h3, h4, h5, h6⟩ := h
  refine ⟨h1, h2, h3, h4, h5, ?_⟩
  cases hd : T.ds.lookup chk with
  | none => rw [hd] at h6; cases h6
  | some d =>
    rw [hd] at h6
    exact ⟨d, rfl, of_decide_eq_true h6⟩
theorem till_call {fT fI chk : Nat} (htl : T.tl = some (fT, fI, chk)) (h : tlB T = true) (d : PyData) (S : Store) : T.call (n + 2) fT [d] S = initD (T.call n chk) d S := by
  obtain ⟨h1, h2, h3, h4, h5, _⟩ := tlB_parts htl h
  obtain ⟨g1, g2⟩ := lookup2 (x := dTill fI) (y := dInit chk) h5
  rw [call_eq (all_tl h1 h2 htl g1), till_run, call_eq (all_tl h3 h4 htl g2), init_run]
abbrev rLnS (K : PySem.W.Frag) : List V → Hp → VK → Prop := fun xs H Q => ∃ p ys, xs = [.ref p] ∧ (SqL K H p ys ∨ SqT K H p ys) ∧ Q (.int ys.length) H
abbrev XsC (P : Program) (w : World) (G : Gx) (mg : Str → Option Value) (base : Heap) (N : List Str) (qual : Str) (scope : Scope) (f : Addr) (cdv : Value) (A : Around) (outer : List Env) (s : Shared) (H : Hp) (E : XK) : Cx := cxOf (L2.CX P w) P w G.K mg base N qual scope f cdv A outer s H E
abbrev wOf (E : XK) : WX := fun cls d _ H => E cls d H
def t_len (K : PySem.W.Frag) : TS := tRet (tCB (rLnS K) (tCons (tFld K (tVar 0) "line") tNil))
theorem len_fn {x qual : Str} {params : Arguments} {body : List Stmt} {scope : Scope} {f : Addr} {fd : FuncData} (tc : TillC G) (F : FunD G.K x qual params body scope [] [] f fd) (S : FnScope ["self"] ["self"] scope)
    (hb : ∀ cdv A outer s H E, PSs (XsC P w G mg base ["self"] qual scope f cdv A outer s H E) body (t_len G.K)) : FnOk P w G.K mg base (L2.CX P w) 1 f fd ["self"] (spLn G) :=
  F.ok S (fun vs H Q E h => by obtain ⟨_, _, _, _, _, rfl, _⟩ := h; rfl) fun cdv A outer s H vs Q E hr h => ⟨t_len G.K, hb cdv A outer s H E, by
    obtain ⟨x, dx, l, ys, m, rfl, h1, h2, q⟩ := h
    exact ⟨.ref x, rfl, x, G.T, dx, _, .ref l, rfl, h1, tc.cl, tc.nL, lk_line, l, ys, rfl, .inl (.inl (.inl h2)), q⟩⟩
def t_init (G : Gx) (T : Tb) (n chk : Nat) (fr : Bool) (W : WX) : TS := tSeq (tDrop (tCallS (spD G (T.call n chk) fr) (WE W) (tCons (tVar 1) tNil))) (tSeq (sFld G.K (tVar 0) (tVar 1) "things") (sFld G.K (tVar 0) (tLst tNil) "line"))
theorem putF_line {m : Int} {l : Addr} : L2.putF "line" (.ref l) (L2.putF "things" (.int m) []) = ([("things", V.int m), ("line", .ref l)] : List (Str × V)) := by
  show (if ("things" : Str) = "line" then _ else (("things" : Str), V.int m) :: L2.putF "line" (.ref l) []) = _
  rw [if_neg (by decide +kernel)]
  rfl
theorem init_fn {fT fI chk : Nat} {x qual : Str} {params : Arguments} {body : List Stmt} {scope : Scope} {f : Addr} {fd : FuncData} (tb : TbOk P w G mg base T n) (tc : TillC G) (htl : T.tl = some (fT, fI, chk)) (hB : tlB T = true)
    (F : FunD G.K x qual params body scope [] [] f fd) (S : FnScope ["self", "things"] ["self", "things"] scope)
    (hb : ∀ cdv A outer s H E (ps : List Str) (fr : Bool), FnT P w G mg base (n + 2) "check_things" ps (spD G (T.call n chk) fr) → XOk G T (XsC P w G mg base ["self", "things"] qual scope f cdv A outer s H E) (wOf E) n → PSs (XsC P w G mg base ["self", "things"] qual scope f cdv A outer s H E) body (t_init G T n chk fr (wOf E))) :
    FnOk P w G.K mg base (L2.CX P w) (n + 2 + 1) f fd ["self", "things"] (spI G (T.call (n + 2) fT)) := by
  obtain ⟨_, _, _, _, _, dd, hd, hps, hfr, hnm⟩ := tlB_parts htl hB
  refine F.ok S (fun vs H Q E h => by obtain ⟨_, _, _, _, _, _, rfl, _⟩ := h; rfl) fun cdv A outer s H vs Q E hr h => ?_
  have tk : Takes (cxOf (L2.CX P w) P w G.K mg base ["self", "things"] qual scope f cdv A outer s H E) (fun cls d _ H => E cls d H) := takes_of rfl rfl rfl rfl
  have c : XOk G T (XsC P w G mg base ["self", "things"] qual scope f cdv A outer s H E) (wOf E) n := { calm := rfl, nd := S.nd, room := hr, pass := fun σ => passAt tk σ, K := rfl, tb := tb }
  have FC : FnT P w G mg base (n + 2) "check_things" dd.ps (spD G (T.call n chk) dd.fr) := by
    have z := tb.fn chk dd hd
    rw [hnm] at z
    exact z
  refine ⟨t_init G T n chk dd.fr (wOf E), hb cdv A outer s H E dd.ps dd.fr FC c, ?_⟩
  obtain ⟨w1, S1, d, v, x, dx, rfl, rfl, hx, hdx, hne, k, rv, q⟩ := h
  rw [till_call htl hB, hfr] at *
  -- the world with the new instance
  have ka := k.newO (o := .own x) hdx
  have aa := Adv.newO (o := .own x) k hdx
  have hx2 : ((w1.put dx (.own x)).add fun b => b = dx).H x = none := (upd_ne fun z => hne z.symm).trans hx
  have kb := ka.newO (o := .ins G.T dx []) hx2
  have ab := aa.trans (Adv.newO (o := .ins G.T dx []) ka hx2)
  obtain ⟨wb, ewb⟩ : ∃ wb, wb = ((((w1.put dx (.own x)).add fun b => b = dx).put x (.ins G.T dx [])).add fun b => b = x) := ⟨_, rfl⟩
  rw [← ewb] at kb ab
  have hH : wb.H = upd (upd w1.H dx (.own x)) x (.ins G.T dx []) := by rw [ewb] <;> rfl
  have hst : wb.st = w1.st := by rw [ewb] <;> rfl
  have hsx : wb.hs x := by rw [ewb]; exact .inr rfl
  have hsd : wb.hs dx := by rw [ewb]; exact .inl (.inr rfl)
  have nx : x ∉ adr wb.st := by rw [hst]; exact k.nadr hx
  have nd : dx ∉ adr wb.st := by rw [hst]; exact k.nadr hdx
  have q0 : RQ G E w1 (M.bnd (pureC [d] (T.call n chk [d])) (fun _ => match d with
    | .int n => newT n
    | _ => M.bad) S1) fun w' _ t => ∀ u, RepW G w' u t → u = .ref x → Q .non w'.H := q
  -- the check
  refine ⟨v, rfl, wb.bare, [], [d], hH, kb.bare, ?_, ?_⟩
  · have hz := RQ.nb (RQ.bnd q0)
    unfold pureC at hz
    split at hz
    · rename_i hz2
      exact (RepL.cons (ab.rep rv) .nil).noTok hz2
    · exact absurd rfl hz
  · have hz := RQ.nb (RQ.bnd q0)
    unfold pureC at hz
    split at hz
    · rename_i hz2
      have hp : ∀ S, pureC [d] (T.call n chk [d]) S = match T.call n chk [d] [] with
        | .ok d [] => .ok d S
        | .exc k [] => .exc k S
        | _ => .bad := fun S => by unfold pureC; refine (if_pos hz2).trans ?_; cases T.call n chk [d] [] with | bad => rfl | ok r s => (cases s <;> rfl) | exc r s => (cases s <;> rfl)
      have q1 := q0
      unfold M.bnd at q1
      rw [hp] at q1
      cases e0 : T.call n chk [d] [] with
      | bad => rw [e0] at hz; exact absurd rfl hz
      | exc j s =>
        cases s with
        | cons _ _ => rw [e0] at hz; exact absurd rfl hz
        | nil =>
          rw [e0] at q1
          intro w' a k'
          obtain ⟨_, a2, k2⟩ := back_ok kb a k'
          exact q1 (w'.back wb.st) (ab.trans a2) k2
      | ok r s =>
        cases s with
        | cons _ _ => rw [e0] at hz; exact absurd rfl hz
        | nil =>
          rw [e0] at q1
          dsimp only at q1
          cases d <;> try (exact q1.elim)
          rename_i m
          have ev : v = .int m := by cases rv; rfl
          subst ev
          intro w' a k'
          obtain ⟨_, a2, k2⟩ := back_ok kb a k'
          refine L2.iteF fun u ru => ?_
          have gx : (w'.back wb.st).H x = some (.ins G.T dx []) := by
            have z := a.own x hsx (by simp [Wd.bare, adr])
            exact z.trans (by show wb.H x = _; rw [hH]; exact upd_same)
          have gd : (w'.back wb.st).H dx = some (.own x) := by
            have z := a.own dx hsd (by simp [Wd.bare, adr])
            exact z.trans (by show wb.H dx = _; rw [hH]; exact (upd_ne hne).trans upd_same)
          have sx : (w'.back wb.st).hs x := a2.sub x hsx
          have sd : (w'.back wb.st).hs dx := a2.sub dx hsd
          have ac : Adv w1 (w'.back wb.st) := ab.trans a2
          have n1x : ¬ w1.hs x := k.newH hx
          have n1d : ¬ w1.hs dx := k.newH hdx
          refine ⟨.int m, rfl, .ref x, rfl, x, G.T, dx, [], rfl, gx, tc.cl, tc.nT, by show 0 < 1000; decide, Nat.zero_le _, fun l hl => ?_⟩
          -- things stored
          have k3 : Ok G ((w'.back wb.st).put x (.ins G.T dx (L2.putF "things" (.int m) []))) S1 := k2.put sx nx
          have a3 : Adv w1 ((w'.back wb.st).put x (.ins G.T dx (L2.putF "things" (.int m) []))) := ac.put' hx n1x
          have nl : ¬ ((w'.back wb.st).put x (.ins G.T dx (L2.putF "things" (.int m) []))).hs l := k3.newH hl
          have k4 := k3.newO (o := .lst []) hl
          have a4 := a3.trans (Adv.newO (o := .lst []) k3 hl)
          have nlx : l ≠ x := fun z => nl (by rw [z]; exact sx)
          have nld : l ≠ dx := fun z => nl (by rw [z]; exact sd)
          have n1l : ¬ w1.hs l := fun z => nl (a3.sub l z)
          have nal : l ∉ adr wb.st := k3.nadr hl
          have k5 := k4.put (p := x) (o := .ins G.T dx (L2.putF "line" (.ref l) (L2.putF "things" (.int m) []))) (.inl sx) nx
          have a5 := a4.put' (p := x) (o := .ins G.T dx (L2.putF "line" (.ref l) (L2.putF "things" (.int m) []))) hx n1x
          refine ⟨.ref x, rfl, x, G.T, dx, L2.putF "things" (.int m) [], rfl, (upd_ne (fun z => nlx z.symm)).trans upd_same, tc.cl, tc.nL, by show 1 < 1000; decide, ?_⟩
          have k6 := k5.reg (as := [x, dx, l]) (ob := .till m []) (fun b hb => by
            simp only [List.mem_cons, List.mem_nil_iff, or_false] at hb
            rcases hb with rfl | rfl | rfl
            · exact .inl sx
            · exact .inl sd
            · exact .inr rfl) (fun b hb => by
            simp only [List.mem_cons, List.mem_nil_iff, or_false] at hb
            rcases hb with rfl | rfl | rfl
            · exact nx
            · exact nd
            · exact nal) (by simp [hne.symm, nlx.symm, nld.symm]) ⟨x, dx, l, [], rfl, by
              rw [← putF_line]
              exact upd_same, (upd_ne hne).trans ((upd_ne nld.symm).trans ((upd_ne hne).trans gd)), (upd_ne nlx).trans upd_same, Nat.zero_le _, .nil⟩
          exact q1 _ (a5.reg fun b hb => by
            simp only [List.mem_cons, List.mem_nil_iff, or_false] at hb
            rcases hb with rfl | rfl | rfl
            · exact n1x
            · exact n1d
            · exact n1l) k6 (.ref x) (reg_tok k5) rfl
    · exact absurd rfl hz
end
end PyD

namespace PyD
open PySem PySem.Spec PyProof.Rows L2
section
variable {P : Program} {w : World} {G : Gx} {mg : Str → Option Value} {base : Heap} {T : Tb} {n : Nat}
/-- the slots at a def's entry -/
def en0 (args : List PyData) (k : Nat) : En := args.map .val ++ List.replicate k .non
theorem en0_val {args : List PyData} {k i : Nat} {d : PyData} (h : (en0 args k)[i]? = some (.val d)) : args[i]? = some d := by
  unfold en0 at h
  by_cases hi : i < args.length
  · rw [List.getElem?_append_left (by rw [List.length_map]; exact hi), List.getElem?_map] at h
    obtain ⟨a, h1, h2⟩ := Option.map_eq_some_iff.mp h
    cases h2
    exact h1
  · rw [List.getElem?_append_right (by rw [List.length_map]; omega), List.getElem?_replicate] at h
    split at h <;> cases h
theorem en0_own {args : List PyData} {k i : Nat} {ds : List PyData} (h : (en0 args k)[i]? = some (.own ds)) : False := by
  unfold en0 at h
  by_cases hi : i < args.length
  · rw [List.getElem?_append_left (by rw [List.length_map]; exact hi), List.getElem?_map] at h
    obtain ⟨a, h1, h2⟩ := Option.map_eq_some_iff.mp h
    cases h2
  · rw [List.getElem?_append_right (by rw [List.length_map]; omega), List.getElem?_replicate] at h
    split at h <;> cases h
theorem start_get {N : List Str} {vs : List V} {i : Nat} {v : V} (h : vs[i]? = some v) : (L2.start N vs)[i]? = some (some v) := by
  unfold L2.start
  have hi := (List.getElem?_eq_some_iff.mp h).1
  rw [List.getElem?_append_left (by rw [List.length_map]; exact hi), List.getElem?_map, h]
  rfl
theorem start_li {w0 : Wd} {N : List Str} {vs : List V} {ds : List PyData} {k : Nat} (r : RepLW G w0 vs ds) (hk : k ≤ N.length - vs.length) : LI G w0 w0 (L2.start N vs) (en0 ds k) where
  adv := Adv.refl w0
  er := ⟨by
      unfold en0 L2.start
      rw [List.length_append, List.length_map, List.length_replicate, List.length_append, List.length_map, List.length_replicate, r.length]
      rw [r.length] at hk
      omega, fun i d h => by
      obtain ⟨v, h1, h2⟩ := r.get' (en0_val h)
      exact ⟨v, start_get h1, h2⟩, fun i ds h => (en0_own h).elim⟩
  own := fun i ds p h _ => (en0_own h).elim
  inj := fun i j ds es p h _ _ _ => (en0_own h).elim
/-- a def does as its datum does -/
theorem def_ok {d : DefI} {x qual : Str} {params : Arguments} {body : List Stmt} {scope : Scope} {f : Addr} {fd : FuncData} (tb : TbOk P w G mg base T n) (F : FunD G.K x qual params body scope [] [] f fd) (S : FnScope d.N d.ps scope)
    (hm : mSs T d.N d.body scope body = true) : FnOk P w G.K mg base (L2.CX P w) (n + 2 + 1) f fd d.ps (spD G (d.run (T.call n) T.kf) d.fr) := by
  have len : ∀ vs H Q E, spD G (d.run (T.call n) T.kf) d.fr vs H Q E → vs.length = d.ps.length := by
    rintro vs H Q E ⟨w0, S0, ds, e, k, r, q⟩
    unfold DefI.run at q
    split at q
    · rename_i h
      rw [r.length, h]
    · exact q.elim
  refine F.ok S len fun cdv A outer s H vs Q E hr hsp => ?_
  have hl := len _ _ _ _ hsp
  have tk : Takes (cxOf (L2.CX P w) P w G.K mg base d.N qual scope f cdv A outer s H E) (fun cls d _ H => E cls d H) := takes_of rfl rfl rfl rfl
  have c : CF G T d.N scope (cxOf (L2.CX P w) P w G.K mg base d.N qual scope f cdv A outer s H E) (fun cls d _ H => E cls d H) n := {
    ct := { ok := { calm := rfl, nd := S.nd, room := hr, pass := fun σ => passAt tk σ, K := rfl, tb := tb }, sc := rfl, N := rfl }
    fn := fun _ _ => rfl
    kind := S.kind
    tk := tk
    own := passes_of rfl
    ex := rfl
    stk := rfl
    frm := rfl }
  refine ⟨tB G (fun cls d _ H => E cls d H) (evTs (T.call n) T.kf d.body), mSs_ok d.body c body hm, ?_⟩
  obtain ⟨w0, S0, ds, e, k, r, q⟩ := hsp
  subst e
  unfold DefI.run at q
  split at q
  · rename_i hz
    have li : LI G w0 w0 (L2.start d.N vs) (en0 ds (d.N.length - d.ps.length)) := start_li r (by rw [hl]; exact Nat.le_refl _)
    refine ⟨w0, w0, S0, _, rfl, k, li, ?_⟩
    have q2 : RQ G E w0 (match evTs (T.call n) T.kf d.body (en0 ds (d.N.length - d.ps.length)) S0 with
      | .nxt _ s' => if d.fr then .bad else .ok .none s'
      | .ret x s' => if d.fr then .bad else .ok x s'
      | .reto xs s' => .ok (.list xs) s'
      | .exc k _ s' => .exc k s'
      | .bad => .bad) (fun w' _ dd => if d.fr = true then ∃ es, dd = .list es ∧ ∀ p us, OwnR G w0 w' p us es → Q (.ref p) w'.H else ∀ v, RepW G w' v dd → Q v w'.H) := q
    generalize evTs (T.call n) T.kf d.body (en0 ds (d.N.length - d.ps.length)) S0 = res at q2 ⊢
    cases hfr : d.fr with
    | false =>
      rw [hfr] at q2
      cases res with
      | nxt δ s' => 
        intro w' σ' l k'
        have z := q2 w' l.adv k'
        dsimp only at z
        rw [if_neg Bool.false_ne_true] at z
        exact z .non .non
      | ret x s' => 
        intro w' a k' v rv
        have z := q2 w' a k'
        dsimp only at z
        rw [if_neg Bool.false_ne_true] at z
        exact z v rv
      | reto xs s' =>
        intro w' a k' p us o
        obtain ⟨a2, k2, r2⟩ := o.show a k'
        have z := q2 _ a2 k2
        dsimp only at z
        rw [if_neg Bool.false_ne_true] at z
        exact z _ r2
      | exc j δ s' => exact fun w' σ' l k' => q2 w' l.adv k'
      | bad => exact q2
    | true =>
      rw [hfr] at q2
      cases res with
      | nxt δ s' => exact q2.elim
      | ret x s' => exact q2.elim
      | reto xs s' =>
        intro w' a k' p us o
        have z := q2 w' a k'
        dsimp only at z
        rw [if_pos rfl] at z
        obtain ⟨es, e1, e2⟩ := z
        cases e1
        exact e2 p us o
      | exc j δ s' => exact fun w' σ' l k' => q2 w' l.adv k'
      | bad => exact q2
  · exact q.elim
/-- a def of the text as it stands -/
structure DefT (K : PySem.W.Frag) (mg : Str → Option Value) (T : Tb) (d : DefI) : Prop where
  ex : ∃ qual params body scope f fd, FunD K d.name qual params body scope [] [] f fd ∧ mg d.name = some (.ref f) ∧ FnScope d.N d.ps scope ∧ mSs T d.N d.body scope body = true ∧ Binds K fd d.ps []
/-- a method of the text as it stands -/
structure MtD (G : Gx) (T : Tb) (d : DefI) : Prop where
  ex : ∃ qual params body scope f fd, FunD G.K d.name qual params body scope [] [] f fd ∧ Meth G.K G.T d.name f ∧ FnScope d.N d.ps scope ∧ mSs T d.N d.body scope body = true ∧ Binds G.K fd d.ps []
/-- the text's class as it stands -/
structure TlD (P : Program) (w : World) (G : Gx) (mg : Str → Option Value) (base : Heap) (T : Tb) (fT : Nat) : Prop where
  c : TillC G
  at_ : mg "Till" = some (.ref G.T)
  len : ∃ f fd, Meth G.K G.T "__len__" f ∧ FnOk P w G.K mg base (L2.CX P w) 1 f fd ["self"] (spLn G) ∧ Binds G.K fd ["self"] []
  ini : ∃ f fd, Mk G.K G.T f ∧ Binds G.K fd ["self", "things"] [] ∧ ∀ n, TbOk P w G mg base T n → FnOk P w G.K mg base (L2.CX P w) (n + 2 + 1) f fd ["self", "things"] (spI G (T.call (n + 2) fT))
/-- what stands at every level -/
structure TbBase (P : Program) (w : World) (G : Gx) (mg : Str → Option Value) (base : Heap) (T : Tb) : Prop where
  defs : ∀ (f : Nat) (d : DefI), T.ds.lookup f = some d → DefT G.K mg T d
  ks : ∀ (x : Str) (d : PyData), T.ks.lookup x = some d → ∃ v u, mg x = some u ∧ L2.RelV v u ∧ ∀ st H, Rep G st H v d
  bl : ∀ x, x ∈ T.bl → mg x = none
  es : ∀ (k : Nat) (x : Str), T.es.lookup k = some x → ExT G mg k x
  sub : ∀ (k j : Nat) (x y : Str), T.es.lookup k = some x → T.es.lookup j = some y → PySem.W.exmOne G.K (.ref (G.C k)) (.ref (G.C j)) = some (subE k j)
  isx : T.xi = true → ∀ (k : Nat) (x : Str), T.es.lookup k = some x → ExcC G.K (G.C k) ∧ PySem.W.kitOne G.K (.ref (G.C k)) (.type "ValueError") = some true ∧ ∀ (j : Nat) (y : Str), T.es.lookup j = some y → PySem.W.kitOne G.K (.ref (G.C k)) (.ref (G.C j)) = some (subE k j)
  start : FnT P w G mg base 1 "_law_start" ["_law_script"] (spStart G)
  draw : FnT P w G mg base 1 "_law_draw" ["_law_draws", "_law_limit"] spDraw
  pick : T.pk = true → FnT P w G mg base 2 "_law_pick" ["_law_draws", "_law_choices"] spPick
  mts : ∀ (f : Nat) (d : DefI), T.mt.lookup f = some d → MtD G T d
  tl : ∀ fT fI chk : Nat, T.tl = some (fT, fI, chk) → tlB T = true → TlD P w G mg base T fT
theorem FnT.mono {x : Str} {ps : List Str} {sp : Sp} {j k : Nat} (h : FnT P w G mg base j x ps sp) (hk : j ≤ k) : FnT P w G mg base k x ps sp := ⟨by
    obtain ⟨a, fd, h1, h2⟩ := h.ex
    exact ⟨a, fd, h1.mono hk, h2⟩⟩
theorem spD_bad {vs : List V} {H : Hp} {Q : VK} {E : XK} {fr : Bool} (h : spD G (fun _ => M.bad) fr vs H Q E) : False := by
  obtain ⟨w0, S, ds, _, _, _, q⟩ := h
  exact q
theorem spI_bad {c : List PyData → M PyData} (hc : ∀ d S, c [d] S = .bad) {vs : List V} {H : Hp} {Q : VK} {E : XK} (h : spI G c vs H Q E) : False := by
  obtain ⟨w0, S, d, v, x, dx, _, _, _, _, _, _, _, q⟩ := h
  rw [hc] at q
  exact q
theorem tl_bad {n fT fI chk : Nat} (b : TbBase P w G mg base T) (htl : T.tl = some (fT, fI, chk)) (hB : tlB T = true) (hc : ∀ d S, T.call n fT [d] S = .bad) : TlT P w G mg base T n fT := by
  have t := b.tl fT fI chk htl hB
  obtain ⟨f, fd, h1, h2, _⟩ := t.ini
  exact ⟨t.c, t.at_, t.len, f, fd, h1, ⟨fun vs H Q E h => (spI_bad hc h).elim, fun A outer s H args us vs Q E _ _ _ _ h => (spI_bad hc h).elim⟩, h2⟩
theorem tb_zero (b : TbBase P w G mg base T) : TbOk P w G mg base T 0 where
  fn := fun f d hd => by
    obtain ⟨qual, params, body, scope, fa, fd, h1, h2, h3, h4, h5⟩ := (b.defs f d hd).ex
    refine ⟨fa, fd, ⟨fun vs H Q E h => (spD_bad h).elim, fun A outer s H args us vs Q E _ _ _ _ h => (spD_bad h).elim⟩, h2, h1.kp, h5⟩
  ks := b.ks
  bl := b.bl
  es := b.es
  sub := b.sub
  isx := b.isx
  start := b.start.mono (by omega)
  draw := b.draw.mono (by omega)
  pick := fun z => (b.pick z).mono (by omega)
  mt := fun f d _ hd => by
    obtain ⟨qual, params, body, scope, fa, fd, h1, h2, h3, h4, h5⟩ := (b.mts f d hd).ex
    exact ⟨fa, fd, ⟨fun vs H Q E h => (spD_bad h).elim, fun A outer s H args us vs Q E _ _ _ _ h => (spD_bad h).elim⟩, h2, h5⟩
  tl := fun fT fI chk htl hB => tl_bad b htl hB fun d S => rfl
theorem tb_succ (b : TbBase P w G mg base T) {n : Nat} (tb : TbOk P w G mg base T n) (tl : ∀ fT fI chk : Nat, T.tl = some (fT, fI, chk) → tlB T = true → TlT P w G mg base T (n + 1) fT) : TbOk P w G mg base T (n + 1) where
  fn := fun f d hd => by
    obtain ⟨qual, params, body, scope, fa, fd, h1, h2, h3, h4, h5⟩ := (b.defs f d hd).ex
    refine ⟨fa, fd, ?_, h2, h1.kp, h5⟩
    have z := def_ok tb h1 h3 h4
    rw [call_eq (all_ds hd)]
    have e2 : n + 1 + 2 = n + 2 + 1 := by omega
    rw [e2]
    exact z
  ks := b.ks
  bl := b.bl
  es := b.es
  sub := b.sub
  isx := b.isx
  start := b.start.mono (by omega)
  draw := b.draw.mono (by omega)
  pick := fun z => (b.pick z).mono (by omega)
  mt := fun f d h0 hd => by
    obtain ⟨qual, params, body, scope, fa, fd, h1, h2, h3, h4, h5⟩ := (b.mts f d hd).ex
    refine ⟨fa, fd, ?_, h2, h5⟩
    have z := def_ok tb h1 h3 h4
    rw [call_eq (all_mt h0 hd)]
    have e2 : n + 1 + 2 = n + 2 + 1 := by omega
    rw [e2]
    exact z
  tl := tl
theorem tb_two (b : TbBase P w G mg base T) : ∀ n : Nat, TbOk P w G mg base T n ∧ TbOk P w G mg base T (n + 1)
  | 0 => ⟨tb_zero b, tb_succ b (tb_zero b) fun fT fI chk htl hB => tl_bad b htl hB fun d S => by
    obtain ⟨h1, h2, h3, h4, h5, _⟩ := tlB_parts htl hB
    obtain ⟨g1, g2⟩ := lookup2 (x := dTill fI) (y := dInit chk) h5
    rw [call_eq (all_tl h1 h2 htl g1), till_run]
    rfl⟩
  | n + 1 => ⟨(tb_two b n).2, tb_succ b (tb_two b n).2 fun fT fI chk htl hB => by
    have t := b.tl fT fI chk htl hB
    obtain ⟨f, fd, h1, h2, h3⟩ := t.ini
    exact ⟨t.c, t.at_, t.len, f, fd, h1, h3 n (tb_two b n).1, h2⟩⟩
theorem tb_ok (b : TbBase P w G mg base T) (n : Nat) : TbOk P w G mg base T n := (tb_two b n).1
/-- the law's def, over scripts -/
def spLaw (K : PySem.W.Frag) : Sp := fun vs H Q _ => ∃ (a : Addr) (ns : List Int), vs = [.ref a] ∧ SqL K H a (ns.map V.int) ∧ ns.length ≤ 63 ∧ ∀ H', Q (.bl true) H'
theorem law_sp {c : List PyData → M PyData} (h : ∀ ns : List Int, ns.length ≤ 63 → ∃ S, c [scrD ns] [] = .ok (.bool true) S) {vs : List V} {H : Hp} {Q : VK} {E : XK} (s : spLaw G.K vs H Q E) : spD G c false vs H Q E := by
  obtain ⟨a, ns, rfl, hs, hl, q⟩ := s
  have ev : vis (fun _ => False) H = H := by
    funext b
    exact if_neg fun z => z
  refine ⟨⟨fun _ => False, [], H⟩, [], [scrD ns], rfl, ⟨fun b z => z.elim, rfl, fun k as o z => by simp at z, fun b z => by simp [adr] at z, by simp [adr]⟩, .cons (.scr (by show SqL G.K (vis (fun _ => False) H) a (ns.map V.int); rw [ev]; exact hs) (by rw [sizeLine_eq]; omega)) .nil, ?_⟩
  obtain ⟨S, e⟩ := h ns hl
  rw [e]
  intro w' _ _
  refine L2.iteF fun v rv => ?_
  cases rv
  exact q _
end
end PyD

namespace PyD
open PySem PySem.Spec PyProof.Rows L2
abbrev rGe : R2 := rI0 fun i j => .bl (decide (j ≤ i))
abbrev rAdd : R2 := rI0 fun i j => .int (i + j)
abbrev rMod : R2 := rI (fun _ j => 0 < j) fun i j => .int (i % j)
abbrev rDiv : R2 := rI CDiv fun i j => .int (i / j)
abbrev rMul : R2 := rI CMul fun i j => .int (i * j)
abbrev rPow : R2 := rI CPow fun i j => .int (i ^ j.toNat)
abbrev rLn (K : PySem.W.Frag) : List V → Hp → VK → Prop := fun xs H Q => ∃ x n, xs = [x] ∧ LenV K x H n ∧ Q (.int n) H
abbrev rLs (K : PySem.W.Frag) : List V → Hp → VK → Prop := fun xs H Q => ∃ p ys, xs = [.ref p] ∧ (SqL K H p ys ∨ SqT K H p ys) ∧ ∀ l, H l = none → Q (.ref l) (upd H l (.lst ys))
/-- [list(s) if s != [] else [0], 0] -/
def t_start (K : PySem.W.Frag) : TS := tRet (tLst (tCons (tIf (tTest (tOp (rNeA K) (tVar 0) (tLst tNil))) (tCB (rLs K) (tCons (tVar 0) tNil)) (tLst (tCons (tC (.int 0)) tNil))) (tCons (tC (.int 0)) tNil)))
def t_draw (K : PySem.W.Frag) : TS :=
  tSeq (tAsg (tOp (rIxL K) (tVar 0) (tC (.int 0))) (gName 2)) (
  tSeq (tAsg (tOp rAdd (tOp (rIxL K) (tVar 0) (tC (.int 1))) (tC (.int 1))) (gSub (tVar 0) (tC (.int 1)) rSetL)) (
  tSeq (tAsg (tOp rMod (tOp (rIxL K) (tVar 0) (tC (.int 1))) (tCB (rLn K) (tCons (tVar 2) tNil))) (gName 3)) (
  tSeq (tAsg (tOp (rIxL K) (tVar 2) (tVar 3)) (gName 4)) (
  tSeq (tIfS (tTest (tOp rGe (tVar 4) (tC (.int 1000000000000000000)))) (tSeq (tAsg (tOp rDiv (tVar 4) (tVar 1)) (gSub (tVar 2) (tVar 3) rSetL)) (tRet (tOp rMod (tVar 4) (tVar 1)))) tNext) (
  tSeq (tAsg (tOp rMod (tOp rAdd (tVar 4) (tOp rMul (tC (.int 104729)) (tOp (rIxL K) (tVar 0) (tC (.int 1))))) (tC (.int 4294967291))) (gName 5)) (
  tSeq (tAsg (tOp rMod (tOp rPow (tVar 5) (tC (.int 5))) (tC (.int 4294967279))) (gName 5)) (
  tRet (tOp rMod (tOp rDiv (tOp rMod (tOp rAdd (tOp rMul (tOp rDiv (tVar 5) (tC (.int 64))) (tC (.int 69621))) (tVar 5)) (tC (.int 4294967231))) (tC (.int 8))) (tVar 1)))))))))
def t_pick (K : PySem.W.Frag) : TS := tRet (tOp (rIxL K) (tVar 1) (tCallS spDraw (WE W0) (tCons (tVar 0) (tCons (tCB (rLn K) (tCons (tVar 1) tNil)) tNil))))
section
variable {G : Gx}
theorem len_start {vs : List V} {H : Hp} {Q : VK} {E : XK} (h : spStart G vs H Q E) : vs.length = (["_law_script"] : List Str).length := by
  obtain ⟨a, ns, rfl, _⟩ := h
  rfl
theorem len_draw {vs : List V} {H : Hp} {Q : VK} {E : XK} (h : spDraw vs H Q E) : vs.length = (["_law_draws", "_law_limit"] : List Str).length := by
  obtain ⟨a, b, ns, c, l, rfl, _⟩ := h
  rfl
theorem len_pick {vs : List V} {H : Hp} {Q : VK} {E : XK} (h : spPick vs H Q E) : vs.length = (["_law_draws", "_law_choices"] : List Str).length := by
  obtain ⟨a, b, p, ns, c, xs, rfl, _⟩ := h
  rfl
theorem dpAll_ints {K : PySem.W.Frag} {H : Hp} : ∀ ns : List Int, DpAll K H (ns.map V.int) (ns.map PyData.int)
  | [] => .nil
  | n :: ns => .cons (.int n) (dpAll_ints ns)
theorem okD_ints (ns : List Int) : okD (.list (ns.map .int)) = true := by
  have h1 : PyData.plainAll (ns.map PyData.int) = true := by
    induction ns with
    | nil => rfl
    | cons n ns ih => simpa [PyData.plainAll, PyData.plain] using ih
  have h2 : PyData.depthAll (ns.map PyData.int) ≤ 1 := by
    induction ns with
    | nil => exact Nat.zero_le _
    | cons n ns ih => simp [PyData.depthAll, PyData.depth] <;> (try omega) <;> (try exact ih (by assumption))
  unfold okD
  rw [Bool.and_eq_true, decide_eq_true_eq]
  refine ⟨by simpa [PyData.plain] using h1, ?_⟩
  simp only [PyData.depth]
  omega
theorem pure_start (vs : List V) (H : Hp) (Q : VK) (E : XK) (h : spStart G vs H Q E) : t_start G.K { nx := fun _ H' => Q .non H', rt := Q } (L2.start ["_law_script"] vs) H := by
  obtain ⟨a, ns, rfl, hs, hl, q⟩ := h
  refine ⟨.ref a, rfl, Nat.zero_le _, fun p0 hp0 => ?_⟩
  have k0 : ∀ b o, H b = some o → (upd H p0 (.lst [])) b = some o := fun b o e => (upd_ne (ne_of_none e hp0)).trans e
  refine ⟨.list (ns.map .int), .list [], .lst (sql_mono (G := G) k0 hs) (dpAll_ints ns), .lst (.inl (.inl upd_same)) .nil, okD_ints ns, rfl, ?_⟩
  -- behind the test
  have fin : ∀ (H1 : Hp) (r : Addr) (ms : List Int), (∀ b o, H b = some o → H1 b = some o) → H1 r = some (.lst (ms.map V.int)) → H r = none → ms = (if ns.isEmpty then [0] else ns) →
      ([V.ref r, V.int 0]).length ≤ sizeLine ∧ ∀ p, H1 p = none → Q (.ref p) (upd H1 p (.lst [V.ref r, V.int 0])) := fun H1 r ms hk h1 h2 h3 => by
    refine ⟨by rw [sizeLine_eq, List.length_cons, List.length_cons, List.length_nil]; decide, fun p hp => ?_⟩
    have hpn : H p = none := by
      cases e : H p with
      | none => rfl
      | some o =>
        rw [hk p o e] at hp
        cases hp
    have npr : p ≠ r := fun z => by
      rw [z, h1] at hp
      cases hp
    refine q p r _ hpn h2 npr (fun b o e => (upd_ne (fun z => ?_)).trans (hk b o e)) upd_same ?_
    · rw [z, hpn] at e
      cases e
    · rw [← h3]
      exact (upd_ne (Ne.symm npr)).trans h1
  cases ns with
  | nil =>
    refine ⟨false, rfl, ?_⟩
    refine L2.iteF ⟨by rw [sizeLine_eq]; decide, fun r hr => ?_⟩
    have hrn : H r = none := by
      cases e : H r with
      | none => rfl
      | some o =>
        rw [k0 r o e] at hr
        cases hr
    exact fin _ r [0] (fun b o e => (upd_ne (ne_of_none (k0 b o e) hr)).trans (k0 b o e)) upd_same hrn rfl
  | cons n ns =>
    refine ⟨true, rfl, ?_⟩
    refine iteT ⟨.ref a, rfl, a, _, rfl, .inl (sql_mono (G := G) k0 hs), fun r hr => ?_⟩
    have hrn : H r = none := by
      cases e : H r with
      | none => rfl
      | some o =>
        rw [k0 r o e] at hr
        cases hr
    exact fin _ r (n :: ns) (fun b o e => (upd_ne (ne_of_none (k0 b o e) hr)).trans (k0 b o e)) upd_same hrn rfl
theorem ix_at {n : Nat} {i : Int} (h0 : 0 ≤ i) (h1 : i < n) : ixN n i = some i.toNat := by
  unfold ixN
  rw [if_pos h0, if_pos h1]
theorem at_ints {ns : List Int} {i : Int} (h0 : 0 ≤ i) (h1 : i < ns.length) : atI (ns.map V.int) i = some (.int (ns.getD i.toNat 0)) := by
  have hl : i.toNat < ns.length := by omega
  unfold atI
  rw [ix_at h0 (by rw [List.length_map]; exact h1)]
  show (ns.map V.int)[i.toNat]? = _
  rw [List.getElem?_map, List.getElem?_eq_getElem hl, List.getD_eq_getElem?_getD, List.getElem?_eq_getElem hl]
  rfl
theorem pure_draw {N : List Str} (hN : N.length = 6) (vs : List V) (H : Hp) (Q : VK) (E : XK) (h : spDraw vs H Q E) : t_draw G.K { nx := fun _ H' => Q .non H', rt := Q } (L2.start N vs) H := by
  obtain ⟨a, b, ns, c, l, rfl, hab, ha, hb, hne, hl, h0, h1, q⟩ := h
  have hst  : L2.start N [.ref a, .int l] = [some (.ref a), some (.int l), none, none, none, none] := by
    unfold L2.start
    rw [hN]
    rfl
  rw [hst]
  have hlen : 0 < ns.length := List.length_pos_iff.mpr hne
  have ha1 : upd H a (.lst [.ref b, .int (c + 1)]) a = some (.lst [.ref b, .int (c + 1)]) := upd_same
  have hb1 : upd H a (.lst [.ref b, .int (c + 1)]) b = some (.lst (ns.map V.int)) := (upd_ne (Ne.symm hab)).trans hb
  have m0 := Int.emod_nonneg (c + 1) (show (ns.length : Int) ≠ 0 by omega)
  have m1 := Int.emod_lt_of_pos (c + 1) (show (0 : Int) < ns.length by omega)
  refine ⟨.ref a, rfl, a, _, 0, .ref b, rfl, rfl, .inl (.inl ha), rfl, ?_⟩
  refine ⟨.ref a, rfl, a, _, 1, .int c, rfl, rfl, .inl (.inl ha), rfl, c, 1, rfl, rfl, ?_⟩
  refine ⟨.ref a, rfl, a, _, 1, 1, rfl, rfl, ha, rfl, ?_⟩
  refine ⟨.ref a, rfl, a, _, 1, .int (c + 1), rfl, rfl, .inl (.inl ha1), rfl, .ref b, rfl, .ref b, (ns.map V.int).length, rfl, .inl ⟨_, .inl (.inl hb1), rfl⟩, c + 1, ns.length, rfl, by rw [List.length_map], by omega, ?_⟩
  refine ⟨.ref b, rfl, .int ((c + 1) % ns.length), rfl, b, _, _, _, rfl, rfl, .inl (.inl hb1), at_ints m0 m1, ?_⟩
  generalize hcell : ns.getD ((c + 1) % (ns.length : Int)).toNat 0 = cell
  refine ⟨.int cell, rfl, cell, 1000000000000000000, rfl, rfl, decide ((1000000000000000000 : Int) ≤ cell), rfl, ?_⟩
  by_cases hbig : (1000000000000000000 : Int) ≤ cell
  · rw [decide_eq_true hbig]
    refine iteT ?_
    refine ⟨.int cell, rfl, .int l, rfl, cell, l, rfl, rfl, ⟨h0, by omega⟩, ?_⟩
    have hix : ixN (ns.map V.int).length ((c + 1) % (ns.length : Int)) = some ((c + 1) % (ns.length : Int)).toNat := ix_at m0 (by rw [List.length_map]; exact m1)
    refine ⟨.ref b, rfl, .int ((c + 1) % ns.length), rfl, b, _, _, _, rfl, rfl, hb1, hix, ?_⟩
    refine ⟨.int cell, rfl, .int l, rfl, cell, l, rfl, rfl, h0, ?_⟩
    have e : drawF ns c l = (cell % l, ns.set ((c + 1) % (ns.length : Int)).toNat (cell / l)) := by
      unfold drawF
      dsimp only
      rw [hcell, if_pos hbig]
    have q' := q
    unfold drawH at q'
    rw [e] at q'
    rw [← List.map_set]
    exact q'
  · rw [decide_eq_false hbig]
    refine L2.iteF ?_
    refine ⟨.int cell, rfl, .ref a, rfl, a, _, 1, .int (c + 1), rfl, rfl, .inl (.inl ha1), rfl, 104729, c + 1, rfl, rfl, .inl ⟨by decide, by decide⟩, cell, _, rfl, rfl, _, 4294967291, rfl, rfl, (by show (0 : Int) < 4294967291; decide), ?_⟩
    obtain ⟨mm, hm'⟩ : ∃ mm, mm = (cell + 104729 * (c + 1)) % 4294967291 := ⟨_, rfl⟩
    have hm := hm'.symm
    have b0 : 0 ≤ mm := by rw [← hm]; exact Int.emod_nonneg _ (by decide)
    have b1 : mm < 4294967291 := by rw [← hm]; exact Int.emod_lt_of_pos _ (by decide)
    refine ⟨.int mm, by rw [hm'] <;> rfl, mm, 5, rfl, rfl, ⟨by decide, by decide, by omega⟩, _, 4294967279, rfl, rfl, (by show (0 : Int) < 4294967279; decide), ?_⟩
    obtain ⟨m2, hm2'⟩ : ∃ m2, m2 = mm ^ 5 % 4294967279 := ⟨_, rfl⟩
    have hm2 := hm2'.symm
    have d0 : 0 ≤ m2 := by rw [← hm2]; exact Int.emod_nonneg _ (by decide)
    have d1 : m2 < 4294967279 := by rw [← hm2]; exact Int.emod_lt_of_pos _ (by decide)
    refine ⟨.int m2, by rw [hm2'] <;> rfl, m2, 64, rfl, rfl, ⟨by decide, by decide⟩, _, 69621, rfl, rfl, .inr ⟨by decide, by decide⟩, .int m2, by rw [hm2'] <;> rfl, _, m2, rfl, rfl, _, 4294967231, rfl, rfl, (by show (0 : Int) < 4294967231; decide), _, 8, rfl, rfl, ⟨by decide, by decide⟩, .int l, rfl, _, l, rfl, rfl, h0, ?_⟩
    have e : drawF ns c l = ((m2 / 64 * 69621 + m2) % 4294967231 / 8 % l, ns) := by
      unfold drawF
      dsimp only
      rw [hcell, if_neg hbig, hm, hm2]
    have q' := q
    unfold drawH at q'
    rw [e] at q'
    have eh : upd (upd H a (.lst [.ref b, .int (c + 1)])) b (.lst (ns.map V.int)) = upd H a (.lst [.ref b, .int (c + 1)]) := by
      funext z
      by_cases ez : z = b
      · rw [ez, upd_same, hb1]
      · rw [upd_ne ez]
    rw [eh] at q'
    exact q'
theorem drawF_lt {ns : List Int} {c l : Int} (h : 0 < l) : 0 ≤ (drawF ns c l).1 ∧ (drawF ns c l).1 < l := by
  unfold drawF
  dsimp only
  split
  · exact ⟨Int.emod_nonneg _ (by omega), Int.emod_lt_of_pos _ h⟩
  · exact ⟨Int.emod_nonneg _ (by omega), Int.emod_lt_of_pos _ h⟩
theorem pure_pick (vs : List V) (H : Hp) (Q : VK) (E : XK) (h : spPick vs H Q E) : t_pick G.K { nx := fun _ H' => Q .non H', rt := Q } (L2.start ["_law_draws", "_law_choices"] vs) H := by
  obtain ⟨a, b, p, ns, c, xs, rfl, hab, hpa, hpb, ha, hb, hne, hl, hp, h0, h1, q⟩ := h
  refine ⟨.ref p, rfl, .ref a, rfl, .ref p, rfl, .ref p, xs.length, rfl, .inl ⟨_, .inl (.inl hp), rfl⟩, a, b, ns, c, xs.length, rfl, hab, ha, hb, hne, hl, by omega, by omega, ?_⟩
  obtain ⟨d0, d1⟩ := drawF_lt (ns := ns) (c := c) (l := (xs.length : Int)) (by omega)
  have hp1 : drawH H a b ns c xs.length p = some (.lst xs) := by
    unfold drawH
    rw [upd_ne hpb, upd_ne hpa]
    exact hp
  have hlt : (drawF ns c (xs.length : Int)).1.toNat < xs.length := by omega
  have hat : atI xs (drawF ns c (xs.length : Int)).1 = some xs[(drawF ns c (xs.length : Int)).1.toNat] := by
    unfold atI
    rw [ix_at d0 d1]
    exact List.getElem?_eq_getElem hlt
  exact ⟨p, xs, _, _, rfl, rfl, .inl (.inl hp1), hat, q _ (List.getElem?_eq_getElem hlt)⟩
end
end PyD

namespace PyD
open PySem PySem.Spec PyProof.Rows L2
section
variable {P : Program} {w : World} {K : PySem.W.Frag} {mg : Str → Option Value} {base : Heap}
/-- a promise that lets nothing out -/
theorem fn_cx0 {k : Nat} {f : Addr} {fd : FuncData} {ps : List Str} {sp : Sp} (F : FnOk P w K mg base (L2.CX P w) k f fd ps sp) (h : ∀ vs H Q E, sp vs H Q E → sp vs H Q fun _ _ _ => False) : FnOk P w K mg base CX0 k f fd ps sp := by
  refine ⟨F.len, fun A outer s H args us vs Q E hr he hb hv hs => codeAny_mono (F.run A outer s H args us vs Q (fun _ _ _ => False) hr he hb hv (h _ _ _ _ hs)) fun r s' q => ?_⟩
  cases r with
  | ok fl => cases fl <;> exact q
  | error e =>
    obtain ⟨_, _, _, _, _, _, _, _, _, _, _, _, z⟩ := q
    exact z.elim
def gx (K : PySem.W.Frag) (es : List (Nat × Str)) : Gx := ⟨K, fun k => He.ga K ((es.lookup k).getD (Str.ofString "")), He.ga K "Till"⟩
def exmF (es : List (Nat × Str)) : List He.Fa := es.flatMap fun p => es.map fun q => .exm p.2 q.2 (subE p.1 q.1)
def ksF : Str × PyData → He.Fa
  | (x, .int i) => .int x i
  | (x, .str z) => .str x z
  | (x, _) => .exm x x true
def facts (T : Tb) : List He.Fa := T.ds.map (fun d => .glo d.2.name) ++ (T.bl.map .free ++ (T.ks.map ksF ++ (T.es.map (fun p => .glo p.2) ++ (T.es.map (fun p => .exc p.2) ++ exmF T.es))))
variable {fa : List He.Fa} {fn : List He.DefD}
theorem says_mem (c : He.SaysD fa fn K) {f : He.Fa} (h : f ∈ fa) : f.ok K = true := by
  obtain ⟨i, e⟩ := List.getElem?_of_mem h
  exact c.fact i e
theorem lookup_mem' {α : Type} : ∀ {l : List (Str × α)} {x : Str} {d : α}, l.lookup x = some d → (x, d) ∈ l
  | [], _, _, h => by cases h
  | (y, v) :: r, x, d, h => by
    rw [List.lookup_cons] at h
    split at h
    · rename_i e
      have e' := eq_of_beq e
      cases h
      rw [e']
      exact List.mem_cons_self
    · exact List.mem_cons_of_mem _ (lookup_mem' h)
theorem lookup_memN {α : Type} : ∀ {l : List (Nat × α)} {x : Nat} {d : α}, l.lookup x = some d → (x, d) ∈ l
  | [], _, _, h => by cases h
  | (y, v) :: r, x, d, h => by
    rw [List.lookup_cons] at h
    split at h
    · rename_i e
      have e' := eq_of_beq e
      cases h
      rw [e']
      exact List.mem_cons_self
    · exact List.mem_cons_of_mem _ (lookup_memN h)
theorem tb_base {T : Tb} (c : He.SaysD fa fn K) (X : K.In base) (Gn : base.Ns mainGlobals mg) (hfa : ∀ f ∈ facts T, f ∈ fa) (hk : ∀ p ∈ T.ks, (∃ i, p.2 = .int i) ∨ ∃ z, p.2 = .str z)
    (hd : ∀ d ∈ T.ds, DefT K mg T d.2)
    (hx : T.xi = true → ∀ (k : Nat) (x : Str), T.es.lookup k = some x → ExcC (gx K T.es).K ((gx K T.es).C k) ∧ PySem.W.kitOne (gx K T.es).K (.ref ((gx K T.es).C k)) (.type "ValueError") = some true ∧ ∀ (j : Nat) (y : Str), T.es.lookup j = some y → PySem.W.kitOne (gx K T.es).K (.ref ((gx K T.es).C k)) (.ref ((gx K T.es).C j)) = some (subE k j))
    (st : FnT P w (gx K T.es) mg base 1 "_law_start" ["_law_script"] (spStart (gx K T.es))) (dr : FnT P w (gx K T.es) mg base 1 "_law_draw" ["_law_draws", "_law_limit"] spDraw)
    (pk : T.pk = true → FnT P w (gx K T.es) mg base 2 "_law_pick" ["_law_draws", "_law_choices"] spPick)
    (hmt : ∀ d ∈ T.mt, MtD (gx K T.es) T d.2) (htl : ∀ fT fI chk : Nat, T.tl = some (fT, fI, chk) → tlB T = true → TlD P w (gx K T.es) mg base T fT) : TbBase P w (gx K T.es) mg base T := by
  have hC : ∀ (k : Nat) (x : Str), T.es.lookup k = some x → (gx K T.es).C k = He.ga K x := fun k x h => by
    show He.ga K ((T.es.lookup k).getD _) = _
    rw [h]
    rfl
  refine { defs := fun f d h => hd (f, d) (lookup_memN h), ks := fun x d h => ?_, bl := fun x h => ?_, es := fun k x h => ?_, sub := fun k j x y h1 h2 => ?_, isx := hx, start := st, draw := dr, pick := pk, mts := fun f d h => hmt (f, d) (lookup_memN h), tl := htl }
  · rcases hk _ (lookup_mem' h) with ⟨i, e⟩ | ⟨sz, e⟩
    · have e : d = .int i := e
      subst e
      have z := says_mem c (hfa (.int x i) (List.mem_append_right _ (List.mem_append_right _ (List.mem_append_left _ (List.mem_map.mpr ⟨_, lookup_mem' h, rfl⟩)))))
      obtain ⟨t, e2⟩ := He.int_ok X Gn z
      exact ⟨.int i, .int i t, e2, ⟨t, rfl⟩, fun _ _ => .int i⟩
    · have e : d = .str sz := e
      subst e
      have z := says_mem c (hfa (.str x sz) (List.mem_append_right _ (List.mem_append_right _ (List.mem_append_left _ (List.mem_map.mpr ⟨_, lookup_mem' h, rfl⟩)))))
      obtain ⟨t, e2⟩ := He.str_ok X Gn z
      exact ⟨.str sz, .str sz t, e2, ⟨t, rfl⟩, fun _ _ => .str sz⟩
  · exact He.free_ok X Gn (says_mem c (hfa (.free x) (List.mem_append_right _ (List.mem_append_left _ (List.mem_map.mpr ⟨_, h, rfl⟩)))))
  · have hm := lookup_memN h
    have z1 := says_mem c (hfa (.glo x) (List.mem_append_right _ (List.mem_append_right _ (List.mem_append_right _ (List.mem_append_left _ (List.mem_map.mpr ⟨_, hm, rfl⟩))))))
    have z2 := says_mem c (hfa (.exc x) (List.mem_append_right _ (List.mem_append_right _ (List.mem_append_right _ (List.mem_append_right _ (List.mem_append_left _ (List.mem_map.mpr ⟨_, hm, rfl⟩)))))))
    obtain ⟨g1, g2, g3, g4⟩ := He.exc_ok z2
    refine ⟨?_, ?_, ?_, ?_, ?_⟩
    · rw [hC k x h]; exact He.glo_ok X Gn z1
    · rw [hC k x h]; exact g1
    · rw [hC k x h]; exact g2
    · rw [hC k x h]; exact g3
    · rw [hC k x h]; exact g4
  · have hm : (He.Fa.exm x y (subE k j)) ∈ exmF T.es := List.mem_flatMap.mpr ⟨(k, x), lookup_memN h1, List.mem_map.mpr ⟨(j, y), lookup_memN h2, rfl⟩⟩
    have z := says_mem c (hfa _ (List.mem_append_right _ (List.mem_append_right _ (List.mem_append_right _ (List.mem_append_right _ (List.mem_append_right _ hm))))))
    rw [hC k x h1, hC j y h2]
    exact He.exm_ok z
def excB (K : PySem.W.Frag) (D : Addr) : Bool := He.eqO (PySem.W.findIn K (.ref D) "__getattribute__") (some (some (.builtin "BaseException.__getattribute__"))) && (He.eqO (PySem.W.findIn K (.ref D) "__getattr__") (some none) && (decide (PySem.W.subIn K (.ref D) (.type "BaseException") = some true) && (PySem.W.hasDictIn K D &&
  (He.eqO (PySem.W.findIn K (.ref D) "__class__") (some (some (.builtin "object.__class__"))) && (He.eqO (PySem.W.specialIn K (.builtin "object.__class__") "__get__") (some (some (.builtin "getset_descriptor.__get__"))) && (decide (PySem.W.takesIn K (.builtin "object.__class__") = some true) && decide (PySem.W.mroIn K D (.type "object") = some true)))))))
theorem excB_ok {K : PySem.W.Frag} {D : Addr} (h : excB K D = true) : ExcC K D := by
  unfold excB at h
  simp only [Bool.and_eq_true, decide_eq_true_eq] at h
  obtain ⟨h1, h2, h3, h4, h5, h6, h7, h8⟩ := h
  exact ⟨He.eqO_ok h1, He.eqO_ok h2, h3, h4, He.eqO_ok h5, He.eqO_ok h6, h7, h8⟩
def xiB (es : List (Nat × Str)) (K : PySem.W.Frag) : Bool := es.all fun p => excB K (He.ga K p.2) && (decide (PySem.W.kitOne K (.ref (He.ga K p.2)) (.type "ValueError") = some true) && es.all fun q => decide (PySem.W.kitOne K (.ref (He.ga K p.2)) (.ref (He.ga K q.2)) = some (subE p.1 q.1)))
theorem xi_ok {K : PySem.W.Frag} {es : List (Nat × Str)} (h : xiB es K = true) (k : Nat) (x : Str) (hk : es.lookup k = some x) : ExcC (gx K es).K ((gx K es).C k) ∧ PySem.W.kitOne (gx K es).K (.ref ((gx K es).C k)) (.type "ValueError") = some true ∧ ∀ (j : Nat) (y : Str), es.lookup j = some y → PySem.W.kitOne (gx K es).K (.ref ((gx K es).C k)) (.ref ((gx K es).C j)) = some (subE k j) := by
  have hC : ∀ (k : Nat) (x : Str), es.lookup k = some x → (gx K es).C k = He.ga K x := fun k x h => by
    show He.ga K ((es.lookup k).getD _) = _
    rw [h]
    rfl
  have z := List.all_eq_true.mp h _ (lookup_memN hk)
  simp only [Bool.and_eq_true, decide_eq_true_eq] at z
  rw [hC k x hk]
  refine ⟨excB_ok z.1, z.2.1, fun j y hj => ?_⟩
  rw [hC j y hj]
  exact of_decide_eq_true (List.all_eq_true.mp z.2.2 _ (lookup_memN hj))
/-- the hook of the defs and facts, and one Bool more -/
structure SaysE (fa : List He.Fa) (fn : List He.DefD) (ex : PySem.W.Frag → Bool) (K : PySem.W.Frag) : Prop where
  d : He.SaysD fa fn K
  more : ex K = true
abbrev AlE : Type := He.AlD × Bool
def obsE (n : Nat) (fa : List He.Fa) (fn : List He.DefD) (ex : PySem.W.Frag → Bool) (g : Addr → Option Obj) : AlE := (He.obsD fa fn (He.frG g (He.asD g n)), ex (He.frG g (He.asD g n)))
def hookE (n : Nat) (fa : List He.Fa) (fn : List He.DefD) (ex : PySem.W.Frag → Bool) : PySem.W.Hook where
  α := AlE
  obs := fun s => obsE n fa fn ex s.heap.get?
  val := fun _ => (He.valD fn, true)
  says := fun _ h => ∃ K : PySem.W.Frag, K.In h ∧ SaysE fa fn ex K
  of := fun _ _ e => ⟨_, He.frG_in, ⟨congrArg (fun z : AlE => z.1) e, congrArg (fun z : AlE => z.2) e⟩⟩
  keeps := fun _ _ _ ⟨K, hK, c⟩ k => ⟨K, PySem.W.Frag.In.keeps hK k, c⟩
theorem obsE_eq {n : Nat} {fa : List He.Fa} {fn : List He.DefD} {ex : PySem.W.Frag → Bool} {g : Addr → Option Obj} {s : Shared} (h : ∀ a, g a = s.heap.get? a) : obsE n fa fn ex g = (hookE n fa fn ex).obs s := by
  have e : g = s.heap.get? := funext h
  rw [e] <;> rfl
/-- the law's def, from the plain law -/
theorem law_end {T : Tb} {n : Nat} {d : DefI} {x qual : Str} {params : Arguments} {body : List Stmt} {scope : Scope} {f : Addr} {fd : FuncData} {G : Gx} (tb : TbOk P w G mg base T n) (F : FunD G.K x qual params body scope [] [] f fd) (S : FnScope d.N d.ps scope)
    (hm : mSs T d.N d.body scope body = true) (hps : d.ps = (["_law_script"] : List Str)) (hfr : d.fr = false) (plain : ∀ ns : List Int, ns.length ≤ 63 → ∃ S, d.run (T.call n) T.kf [scrD ns] [] = .ok (.bool true) S) :
    FnOk P w G.K mg base CX0 (n + 3) f fd ["_law_script"] (spLaw G.K) := by
  have z := def_ok tb F S hm
  rw [hps, hfr] at z
  exact fn_cx0 (z.imp fun vs H Q E s => law_sp plain s) fun vs H Q E s => s
end
section
variable {P : Program} {w : World} {G : Gx} {mg : Str → Option Value} {base : Heap} {qual : Str} {params : Arguments} {body : List Stmt} {scope : Scope} {f : Addr} {fd : FuncData}
abbrev Xs (P : Program) (w : World) (G : Gx) (mg : Str → Option Value) (base : Heap) (N : List Str) (qual : Str) (scope : Scope) (f : Addr) (cdv : Value) (A : Around) (outer : List Env) (s : Shared) (H : Hp) (E : XK) : Cx := cxOf (L2.CX P w) P w G.K mg base N qual scope f cdv A outer s H E
theorem start_fn {x : Str} (F : FunD G.K x qual params body scope [] [] f fd) (S : FnScope ["_law_script"] ["_law_script"] scope)
    (hb : ∀ cdv A outer s H E, Room 0 (Xs P w G mg base ["_law_script"] qual scope f cdv A outer s H E).A → PSs (Xs P w G mg base ["_law_script"] qual scope f cdv A outer s H E) body (t_start G.K)) : FnOk P w G.K mg base (L2.CX P w) 1 f fd ["_law_script"] (spStart G) :=
  F.ok S (fun vs H Q E h => len_start h) fun cdv A outer s H vs Q E hr h => ⟨t_start G.K, hb cdv A outer s H E hr, pure_start vs H Q E h⟩
theorem draw_fn {x : Str} {N : List Str} (hN : N.length = 6) (F : FunD G.K x qual params body scope [] [] f fd) (S : FnScope N ["_law_draws", "_law_limit"] scope)
    (hb : ∀ cdv A outer s H E, PSs (Xs P w G mg base N qual scope f cdv A outer s H E) body (t_draw G.K)) : FnOk P w G.K mg base (L2.CX P w) 1 f fd ["_law_draws", "_law_limit"] spDraw :=
  F.ok S (fun vs H Q E h => len_draw h) fun cdv A outer s H vs Q E hr h => ⟨t_draw G.K, hb cdv A outer s H E, pure_draw hN vs H Q E h⟩
theorem pick_fn {x : Str} (F : FunD G.K x qual params body scope [] [] f fd) (S : FnScope ["_law_draws", "_law_choices"] ["_law_draws", "_law_choices"] scope)
    (hb : ∀ cdv A outer s H E, Room 1 (Xs P w G mg base ["_law_draws", "_law_choices"] qual scope f cdv A outer s H E).A → PSs (Xs P w G mg base ["_law_draws", "_law_choices"] qual scope f cdv A outer s H E) body (t_pick G.K)) : FnOk P w G.K mg base (L2.CX P w) 2 f fd ["_law_draws", "_law_choices"] spPick :=
  F.ok S (fun vs H Q E h => len_pick h) fun cdv A outer s H vs Q E hr h => ⟨t_pick G.K, hb cdv A outer s H E hr, pure_pick vs H Q E h⟩
end
end PyD

namespace PyD
open PySem PySem.Spec L2

def Res.on {α : Type} : Res α → Store → Res α
  | .ok a _, s => .ok a s
  | .exc k _, s => .exc k s
  | .bad, _ => .bad
def PF {α : Type} (f : M α) : Prop := ∀ s, f s = (f []).on s
section
variable {α β : Type} {f : M α} {g : α → M β}
theorem PF.ok (h : PF f) {s s' : Store} {a : α} (e : f s = .ok a s') : s' = s ∧ f [] = .ok a [] := by
  have h0 := h []
  have h1 := h s
  rw [e] at h1
  cases hz : f [] with
  | ok b t =>
    rw [hz] at h1 h0
    cases h1
    cases h0
    exact ⟨rfl, rfl⟩
  | exc k t => rw [hz] at h1; cases h1
  | bad => rw [hz] at h1; cases h1
theorem pf_ret {a : α} : PF (M.ret a) := fun s => rfl
theorem pf_bad : PF (M.bad : M α) := fun s => rfl
theorem pf_opt {o : Option α} : PF (M.opt o) := fun s => by cases o <;> rfl
theorem pf_bnd (h : PF f) (hg : ∀ a, PF (g a)) : PF (M.bnd f g) := fun s => by
  unfold M.bnd
  rw [h s]
  have h0 := h []
  cases hz : f [] with
  | ok a t =>
    rw [hz] at h0
    cases h0
    exact hg a s
  | exc k t => rfl
  | bad => rfl
theorem pf_nox (h : PF f) : PF (M.nox f) := fun s => by
  unfold M.nox
  rw [h s]
  cases f [] <;> rfl
theorem pf_pure {ds : List PyData} {r : M PyData} : PF (pureC ds r) := fun s => by
  unfold pureC
  split
  · split <;> rfl
  · rfl
theorem pf_lst {f : PyData → M (Option α)} (h : ∀ x, PF (f x)) : ∀ xs, PF (M.lst f xs)
  | [] => pf_ret
  | x :: xs => pf_bnd (pf_nox (h x)) fun r => pf_bnd (pf_lst h xs) fun rs => pf_ret
end
mutual
def px : Ex → Bool
  | .draw _ _ => false
  | .pick _ _ => false
  | .start _ => false
  | .cals _ _ => false
  | .tok0 _ => false
  | .thg _ => false
  | .lcal _ _ _ => false
  | .llen _ => false
  | .lemp _ => false
  | .lcpy _ => false
  | .lpop _ => false
  | .tnew _ _ => false
  | .mc0 _ _ => false
  | .mc1 _ _ _ => false
  | .mln _ => false
  | .nlst _ => false
  | .tcal _ _ _ => false
  | .lst es => pxs es
  | .tup es => pxs es
  | .bin _ a b => px a && px b
  | .neg a => px a
  | .cmp _ a b => px a && px b
  | .chn _ _ a b c => px a && (px b && px c)
  | .bop _ es => pxs es
  | .not a => px a
  | .ite c a b => px c && (px a && px b)
  | .call _ es => pxs es
  | .calr _ es => pxs es
  | .bi _ a => px a
  | .mx2 _ a b => px a && px b
  | .isi a _ => px a
  | .srs a => px a
  | .lrg a => px a
  | .trg a => px a
  | .lrg2 a b => px a && px b
  | .idx a b => px a && px b
  | .slc a l h => px a && (pxo l && pxo h)
  | .rev a => px a
  | .cnt a b => px a && px b
  | .ind a b => px a && px b
  | .joi a b => px a && px b
  | .spl a b => px a && px b
  | .fs3 a _ b => px a && px b
  | .cmp0 s _ e => pxr s && px e
  | .cmp1 s _ c e => pxr s && (px c && px e)
  | .var _ => true
  | .ovr _ => true
  | .cst _ => true
  | .glo _ => true
def pxs : Exs → Bool
  | .nil => true
  | .cons e es => px e && pxs es
def pxo : Exo → Bool
  | .none => true
  | .some e => px e
def pxr : Src → Bool
  | .it e => px e
  | .rg1 a => px a
  | .rg2 a b => px a && px b
  | .enu a => px a
  | .zip a b => px a && px b
end
section
variable {C : Nat → List PyData → M PyData} {K : Str → Option PyData}
theorem ba2 {a b : Bool} (h : (a && b) = true) : a = true ∧ b = true := Bool.and_eq_true_iff.mp h
mutual
theorem pf_ev : ∀ (x : Ex), px x = true → ∀ δ, PF (ev C K x δ)
  | .draw _ _, h, _ => by cases h
  | .pick _ _, h, _ => by cases h
  | .start _, h, _ => by cases h
  | .cals _ _, h, _ => by cases h
  | .tok0 _, h, _ => by cases h
  | .thg _, h, _ => by cases h
  | .lcal _ _ _, h, _ => by cases h
  | .llen _, h, _ => by cases h
  | .lemp _, h, _ => by cases h
  | .lcpy _, h, _ => by cases h
  | .lpop _, h, _ => by cases h
  | .tnew _ _, h, _ => by cases h
  | .mc0 _ _, h, _ => by cases h
  | .mc1 _ _ _, h, _ => by cases h
  | .mln _, h, _ => by cases h
  | .nlst _, h, _ => by cases h
  | .tcal _ _ _, h, _ => by cases h
  | .lst es, h, δ => pf_bnd (pf_evs es (by simpa only [px] using h) δ) fun _ => pf_ret
  | .tup es, h, δ => pf_bnd (pf_evs es (by simpa only [px] using h) δ) fun _ => pf_ret
  | .bin _ a b, h, δ => by
    simp only [px] at h
    exact pf_bnd (pf_ev a (ba2 h).1 δ) fun _ => pf_bnd (pf_ev b (ba2 h).2 δ) fun _ => pf_opt
  | .neg a, h, δ => by
    simp only [px] at h
    exact pf_bnd (pf_ev a h δ) fun d => by cases d <;> exact fun s => rfl
  | .cmp _ a b, h, δ => by
    simp only [px] at h
    exact pf_bnd (pf_ev a (ba2 h).1 δ) fun _ => pf_bnd (pf_ev b (ba2 h).2 δ) fun _ => pf_opt
  | .chn _ _ a b c, h, δ => by
    simp only [px] at h
    refine pf_bnd (pf_ev a (ba2 h).1 δ) fun _ => pf_bnd (pf_ev b (ba2 (ba2 h).2).1 δ) fun _ => pf_bnd pf_opt fun d => ?_
    cases d <;> try (exact fun s => rfl)
    rename_i t
    cases t
    · exact fun s => rfl
    · exact pf_bnd (pf_ev c (ba2 (ba2 h).2).2 δ) fun _ => pf_opt
  | .bop k es, h, δ => by
    simp only [px] at h
    exact pf_evb es h k δ
  | .not a, h, δ => by
    simp only [px] at h
    exact pf_bnd (pf_ev a h δ) fun d => by cases d <;> exact fun s => rfl
  | .ite c a b, h, δ => by
    simp only [px] at h
    refine pf_bnd (pf_ev c (ba2 h).1 δ) fun d => ?_
    cases d <;> try (exact fun s => rfl)
    rename_i t
    cases t
    · exact pf_ev b (ba2 (ba2 h).2).2 δ
    · exact pf_ev a (ba2 (ba2 h).2).1 δ
  | .call _ es, h, δ => by
    simp only [px] at h
    exact pf_bnd (pf_evs es h δ) fun _ => pf_pure
  | .calr _ es, h, δ => by
    simp only [px] at h
    exact pf_bnd (pf_evs es h δ) fun _ => pf_pure
  | .bi _ a, h, δ => by
    simp only [px] at h
    exact pf_bnd (pf_ev a h δ) fun _ => pf_opt
  | .mx2 _ a b, h, δ => by
    simp only [px] at h
    exact pf_bnd (pf_ev a (ba2 h).1 δ) fun x => pf_bnd (pf_ev b (ba2 h).2 δ) fun y => by cases x <;> cases y <;> exact fun s => rfl
  | .isi a _, h, δ => by
    simp only [px] at h
    exact pf_bnd (pf_ev a h δ) fun _ => pf_opt
  | .srs a, h, δ => by
    simp only [px] at h
    exact pf_bnd (pf_ev a h δ) fun _ => pf_opt
  | .lrg a, h, δ => by
    simp only [px] at h
    exact pf_bnd (pf_ev a h δ) fun _ => pf_opt
  | .trg a, h, δ => by
    simp only [px] at h
    exact pf_bnd (pf_ev a h δ) fun _ => pf_opt
  | .lrg2 a b, h, δ => by
    simp only [px] at h
    exact pf_bnd (pf_ev a (ba2 h).1 δ) fun _ => pf_bnd (pf_ev b (ba2 h).2 δ) fun _ => pf_opt
  | .idx a b, h, δ => by
    simp only [px] at h
    exact pf_bnd (pf_ev a (ba2 h).1 δ) fun _ => pf_bnd (pf_ev b (ba2 h).2 δ) fun _ => pf_opt
  | .slc a l u, h, δ => by
    simp only [px] at h
    exact pf_bnd (pf_ev a (ba2 h).1 δ) fun _ => pf_bnd (pf_evo l (ba2 (ba2 h).2).1 δ) fun _ => pf_bnd (pf_evo u (ba2 (ba2 h).2).2 δ) fun _ => pf_opt
  | .rev a, h, δ => by
    simp only [px] at h
    exact pf_bnd (pf_ev a h δ) fun d => by cases d <;> exact fun s => rfl
  | .cnt a b, h, δ => by
    simp only [px] at h
    exact pf_bnd (pf_ev a (ba2 h).1 δ) fun d => by
      cases d <;> try (exact fun s => rfl)
      exact pf_bnd (pf_ev b (ba2 h).2 δ) fun _ => pf_opt
  | .ind a b, h, δ => by
    simp only [px] at h
    exact pf_bnd (pf_ev a (ba2 h).1 δ) fun d => by
      cases d <;> try (exact fun s => rfl)
      exact pf_bnd (pf_ev b (ba2 h).2 δ) fun _ => pf_opt
  | .joi a b, h, δ => by
    simp only [px] at h
    exact pf_bnd (pf_ev a (ba2 h).1 δ) fun d => by
      cases d <;> try (exact fun s => rfl)
      exact pf_bnd (pf_ev b (ba2 h).2 δ) fun _ => pf_opt
  | .spl a b, h, δ => by
    simp only [px] at h
    exact pf_bnd (pf_ev a (ba2 h).1 δ) fun d => by
      cases d <;> try (exact fun s => rfl)
      exact pf_bnd (pf_ev b (ba2 h).2 δ) fun _ => pf_opt
  | .fs3 a z b, h, δ => by
    simp only [px] at h
    by_cases hz : z.length ≤ 1000
    · unfold ev
      rw [if_pos hz]
      exact pf_bnd (pf_ev a (ba2 h).1 δ) fun _ => pf_bnd pf_opt fun _ => pf_bnd (pf_ev b (ba2 h).2 δ) fun _ => pf_bnd pf_opt fun _ => pf_ret
    · unfold ev
      rw [if_neg hz]
      exact pf_bad
  | .cmp0 s t e, h, δ => by
    simp only [px] at h
    refine pf_bnd (pf_evS s (ba2 h).1 δ) fun _ => pf_bnd (pf_lst (fun x => ?_) _) fun _ => pf_ret
    cases t.set x (wipeD δ t.vs) with
    | none => exact pf_bad
    | some δ' => exact pf_bnd (pf_ev e (ba2 h).2 δ') fun _ => pf_ret
  | .cmp1 s t c e, h, δ => by
    simp only [px] at h
    refine pf_bnd (pf_evS s (ba2 h).1 δ) fun _ => pf_bnd (pf_lst (fun x => ?_) _) fun _ => pf_ret
    cases t.set x (wipeD δ t.vs) with
    | none => exact pf_bad
    | some δ' =>
      refine pf_bnd (pf_ev c (ba2 (ba2 h).2).1 δ') fun d => ?_
      cases d <;> try (exact fun s => rfl)
      rename_i b
      cases b
      · exact pf_ret
      · exact pf_bnd (pf_ev e (ba2 (ba2 h).2).2 δ') fun _ => pf_ret
  | .var i, _, δ => by
    show PF (match δ[i]? with
      | some (.val d) => M.ret d
      | _ => M.bad)
    split <;> exact fun s => rfl
  | .ovr i, _, δ => by
    show PF (match δ[i]? with
      | some (.own ds) => M.ret (PyData.list ds)
      | _ => M.bad)
    split <;> exact fun s => rfl
  | .cst _, _, δ => fun s => rfl
  | .glo _, _, δ => pf_opt
theorem pf_evs : ∀ (x : Exs), pxs x = true → ∀ δ, PF (evs C K x δ)
  | .nil, _, _ => pf_ret
  | .cons e es, h, δ => by
    simp only [pxs] at h
    exact pf_bnd (pf_ev e (ba2 h).1 δ) fun _ => pf_bnd (pf_evs es (ba2 h).2 δ) fun _ => pf_ret
theorem pf_evb : ∀ (x : Exs), pxs x = true → ∀ k δ, PF (evb C K k x δ)
  | .nil, _, _, _ => pf_bad
  | .cons e es, h, k, δ => by
    simp only [pxs] at h
    cases es with
    | nil => exact pf_ev e (ba2 h).1 δ
    | cons e' es' =>
      refine pf_bnd (pf_ev e (ba2 h).1 δ) fun d => ?_
      cases d <;> try (exact fun s => rfl)
      rename_i c
      show PF (if c == k then evb C K k (.cons e' es') δ else M.ret (.bool c))
      split
      · exact pf_evb (.cons e' es') (ba2 h).2 k δ
      · exact pf_ret
theorem pf_evo : ∀ (x : Exo), pxo x = true → ∀ δ, PF (evo C K x δ)
  | .none, _, _ => pf_ret
  | .some e, h, δ => by
    simp only [pxo] at h
    exact pf_bnd (pf_ev e h δ) fun d => by cases d <;> exact fun s => rfl
theorem pf_evS : ∀ (x : Src), pxr x = true → ∀ δ, PF (evS C K x δ)
  | .it e, h, δ => by
    simp only [pxr] at h
    exact pf_bnd (pf_ev e h δ) fun _ => pf_opt
  | .rg1 a, h, δ => by
    simp only [pxr] at h
    exact pf_bnd (pf_ev a h δ) fun _ => pf_opt
  | .rg2 a b, h, δ => by
    simp only [pxr] at h
    exact pf_bnd (pf_ev a (ba2 h).1 δ) fun _ => pf_bnd (pf_ev b (ba2 h).2 δ) fun _ => pf_opt
  | .enu a, h, δ => by
    simp only [pxr] at h
    exact pf_bnd (pf_ev a h δ) fun _ => pf_opt
  | .zip a b, h, δ => by
    simp only [pxr] at h
    exact pf_bnd (pf_ev a (ba2 h).1 δ) fun _ => pf_bnd (pf_ev b (ba2 h).2 δ) fun _ => pf_opt
end
def SRes.on : SRes → Store → SRes
  | .nxt δ _, s => .nxt δ s
  | .ret d _, s => .ret d s
  | .reto d _, s => .reto d s
  | .exc k δ _, s => .exc k δ s
  | .bad, _ => .bad
def PG' (f : En → Store → SRes) : Prop := ∀ δ s, f δ s = (f δ []).on s
theorem PG'.nil {f : En → Store → SRes} (h : PG' f) {δ δ' : En} {s : Store} (e : f δ [] = .nxt δ' s) : s = [] := by
  have z := h δ []
  rw [e] at z
  cases z
  rfl
theorem pg_of {α : Type} {f : En → M α} {g : En → α → Store → SRes} (h : ∀ δ, PF (f δ)) (hg : ∀ δ a s, g δ a s = (g δ a []).on s) : PG' fun δ s => SRes.of (f δ s) δ (g δ) := fun δ s => by
  show SRes.of (f δ s) δ (g δ) = (SRes.of (f δ []) δ (g δ)).on s
  rw [h δ s]
  have z := h δ []
  cases e : f δ [] with
  | ok a t =>
    rw [e] at z
    cases z
    exact hg δ a s
  | exc k t => rfl
  | bad => rfl
theorem pg_thn {f g : En → Store → SRes} (hf : PG' f) (hg : PG' g) : PG' fun δ s => (f δ s).thn g := fun δ s => by
  show (f δ s).thn g = ((f δ []).thn g).on s
  rw [hf δ s]
  cases e : f δ [] with
  | nxt δ' t =>
    cases hf.nil e
    exact hg δ' s
  | ret d t => rfl
  | reto d t => rfl
  | exc k δ' t => rfl
  | bad => rfl
theorem pg_for {b : En → Store → SRes} (h : PG' b) (t : Tg) : ∀ its, PG' (forD b t its)
  | [] => fun δ s => rfl
  | x :: xs => fun δ s => by
    show (match t.set x δ with
      | some δ' => (b δ' s).thn (forD b t xs)
      | none => .bad) = (match t.set x δ with
      | some δ' => (b δ' []).thn (forD b t xs)
      | none => .bad : SRes).on s
    cases t.set x δ with
    | none => rfl
    | some δ' => exact pg_thn h (pg_for h t xs) δ' s
theorem pg_whl {c : En → M PyData} {b : En → Store → SRes} (hc : ∀ δ, PF (c δ)) (h : PG' b) : ∀ n, PG' (whlD c b n)
  | 0 => fun δ s => rfl
  | n + 1 => pg_of (g := fun (δ : En) (d : PyData) (s' : Store) => match d with
    | .bool true => (b δ s').thn (whlD c b n)
    | .bool false => .nxt δ s'
    | _ => .bad) hc fun δ d s => by
    cases d <;> try rfl
    rename_i t
    cases t
    · rfl
    · exact pg_thn h (pg_whl hc h n) δ s
mutual
def pt : St → Bool
  | .asg _ e => px e
  | .own _ e => px e
  | .par2 _ _ a b => px a && px b
  | .par3 _ _ _ a b c => px a && (px b && px c)
  | .unp _ _ e => px e
  | .app _ e => px e
  | .ext _ e => px e
  | .aug _ e => px e
  | .put _ k e => px k && px e
  | .rem _ e => px e
  | .exp e => px e
  | .ifs c a b => px c && (pts a && pts b)
  | .for_ s _ b => pxr s && pts b
  | .whl c b => px c && pts b
  | .ret e => px e
  | .reto e => px e
  | .rse _ => true
  | .try_ b _ _ _ => pts b
  | .pas => true
  | .shr _ t => pt t
  | .lapp _ _ => false
  | .retv _ => true
  | .tapp _ _ => false
def pts : Sts → Bool
  | .nil => true
  | .cons t ts => pt t && pts ts
end
theorem own_on {δ : En} {i : Nat} {f : List PyData → Store → SRes} (h : ∀ ds s, f ds s = (f ds []).on s) (s : Store) : ownAt δ i (fun ds => f ds s) = (ownAt δ i fun ds => f ds []).on s := by
  unfold ownAt
  split
  · exact h _ s
  · rfl
mutual
theorem pg_evT : ∀ t : St, pt t = true → PG' (evT C K t)
  | .lapp _ _, h => by cases h
  | .retv i, h => fun δ s => own_on (f := fun ds s => .reto ds s) (fun ds s => rfl) s
  | .tapp _ _, h => by cases h
  | .asg i e, h => pg_of (g := fun (δ : En) (d : PyData) (s' : Store) => .nxt (δ.set i (.val d)) s') (pf_ev e (by simpa only [pt] using h)) fun _ _ _ => rfl
  | .own i e, h => pg_of (g := fun (δ : En) (d : PyData) (s' : Store) => match d with
    | .list ds => .nxt (δ.set i (.own ds)) s'
    | _ => .bad) (pf_ev e (by simpa only [pt] using h)) fun _ d _ => by cases d <;> rfl
  | .par2 i j a b, h => by
    simp only [pt] at h
    exact pg_of (g := fun (δ : En) (p : PyData × PyData) (s' : Store) => .nxt ((δ.set i (.val p.1)).set j (.val p.2)) s') (fun δ => pf_bnd (pf_ev a (ba2 h).1 δ) fun _ => pf_bnd (pf_ev b (ba2 h).2 δ) fun _ => pf_ret) fun _ _ _ => rfl
  | .par3 i j k a b c, h => by
    simp only [pt] at h
    exact pg_of (g := fun (δ : En) (p : PyData × PyData × PyData) (s' : Store) => .nxt (((δ.set i (.val p.1)).set j (.val p.2.1)).set k (.val p.2.2)) s') (fun δ => pf_bnd (pf_ev a (ba2 h).1 δ) fun _ => pf_bnd (pf_ev b (ba2 (ba2 h).2).1 δ) fun _ => pf_bnd (pf_ev c (ba2 (ba2 h).2).2 δ) fun _ => pf_ret) fun _ _ _ => rfl
  | .unp i j e, h => pg_of (g := fun (δ : En) (d : PyData) (s' : Store) => match d with
    | .tuple [x, y] => .nxt ((δ.set i (.val x)).set j (.val y)) s'
    | _ => .bad) (pf_ev e (by simpa only [pt] using h)) fun _ d _ => by
      cases d <;> try rfl
      rename_i xs
      match xs with
      | [] => rfl
      | [_] => rfl
      | [_, _] => rfl
      | _ :: _ :: _ :: _ => rfl
  | .app i e, h => fun δ s => own_on (f := fun ds s => SRes.of (ev C K e δ s) δ fun d s' => if ds.length < lineD then .nxt (δ.set i (.own (ds ++ [d]))) s' else .bad) (fun ds s => pg_of (g := fun (δ : En) (d : PyData) (s' : Store) => if ds.length < lineD then .nxt (δ.set i (.own (ds ++ [d]))) s' else .bad) (pf_ev e (by simpa only [pt] using h)) (fun _ _ _ => by split <;> rfl) δ s) s
  | .ext i e, h => fun δ s => own_on (f := fun ds s => SRes.of (ev C K e δ s) δ fun d s' => match d with
    | .list es => if ds.length + es.length ≤ lineD then .nxt (δ.set i (.own (ds ++ es))) s' else .bad
    | _ => .bad) (fun ds s => pg_of (g := fun (δ : En) (d : PyData) (s' : Store) => match d with
    | .list es => if ds.length + es.length ≤ lineD then .nxt (δ.set i (.own (ds ++ es))) s' else .bad
    | _ => .bad) (pf_ev e (by simpa only [pt] using h)) (fun _ d _ => by
      cases d <;> try rfl
      dsimp only
      split <;> rfl) δ s) s
  | .aug i e, h => fun δ s => by
    show (match δ[i]? with
      | some (.val (.int x)) => SRes.of (ev C K e δ s) δ fun d s' => match d with
        | .int y => .nxt (δ.set i (.val (.int (x + y)))) s'
        | _ => .bad
      | _ => .bad) = (match δ[i]? with
      | some (.val (.int x)) => SRes.of (ev C K e δ []) δ fun d s' => match d with
        | .int y => .nxt (δ.set i (.val (.int (x + y)))) s'
        | _ => .bad
      | _ => .bad : SRes).on s
    split
    · rename_i x _
      exact pg_of (g := fun (δ : En) (d : PyData) (s' : Store) => match d with
        | .int y => .nxt (δ.set i (.val (.int (x + y)))) s'
        | _ => .bad) (pf_ev e (by simpa only [pt] using h)) (fun _ d _ => by cases d <;> rfl) δ s
    · rfl
  | .put i k e, h => fun δ s => by
    simp only [pt] at h
    exact own_on (f := fun ds s => SRes.of (M.bnd (ev C K e δ) (fun y => M.bnd (ev C K k δ) fun x => M.ret (x, y)) s) δ fun (p : PyData × PyData) (s' : Store) => match p.1 with
      | .int z => match ixN ds.length z with
        | some j => .nxt (δ.set i (.own (ds.set j p.2))) s'
        | none => .bad
      | _ => .bad) (fun ds s => pg_of (f := fun δ => M.bnd (ev C K e δ) fun y => M.bnd (ev C K k δ) fun x => M.ret (x, y)) (g := fun (δ : En) (p : PyData × PyData) (s' : Store) => match p.1 with
      | .int z => match ixN ds.length z with
        | some j => .nxt (δ.set i (.own (ds.set j p.2))) s'
        | none => .bad
      | _ => .bad) (fun δ => pf_bnd (pf_ev e (ba2 h).2 δ) fun _ => pf_bnd (pf_ev k (ba2 h).1 δ) fun _ => pf_ret) (fun _ p _ => by
        obtain ⟨x, y⟩ := p
        cases x <;> try rfl
        dsimp only
        split <;> rfl) δ s) s
  | .rem i e, h => fun δ s => own_on (f := fun ds s => SRes.of (ev C K e δ s) δ fun d s' => match d, intsD ds with
    | .int k, some ns => match ns.findIdx? (fun z => decide (z = k)) with
      | some j => .nxt (δ.set i (.own (ds.eraseIdx j))) s'
      | none => .bad
    | _, _ => .bad) (fun ds s => pg_of (g := fun (δ : En) (d : PyData) (s' : Store) => match d, intsD ds with
    | .int k, some ns => match ns.findIdx? (fun z => decide (z = k)) with
      | some j => .nxt (δ.set i (.own (ds.eraseIdx j))) s'
      | none => .bad
    | _, _ => .bad) (pf_ev e (by simpa only [pt] using h)) (fun _ d _ => by
      cases d <;> cases intsD ds <;> try rfl
      dsimp only
      split <;> rfl) δ s) s
  | .exp e, h => pg_of (g := fun δ _ s' => .nxt δ s') (pf_ev e (by simpa only [pt] using h)) fun _ _ _ => rfl
  | .ifs c a b, h => by
    simp only [pt] at h
    exact pg_of (g := fun (δ : En) (d : PyData) (s' : Store) => match d with
      | .bool true => evTs C K a δ s'
      | .bool false => evTs C K b δ s'
      | _ => .bad) (pf_ev c (ba2 h).1) fun δ d s => by
      cases d <;> try rfl
      rename_i t
      cases t
      · exact pg_evTs b (ba2 (ba2 h).2).2 δ s
      · exact pg_evTs a (ba2 (ba2 h).2).1 δ s
  | .for_ src t b, h => by
    simp only [pt] at h
    exact pg_of (g := fun δ its s' => forD (evTs C K b) t its δ s') (pf_evS src (ba2 h).1) fun δ its s => pg_for (pg_evTs b (ba2 h).2) t its δ s
  | .whl c b, h => by
    simp only [pt] at h
    exact pg_whl (pf_ev c (ba2 h).1) (pg_evTs b (ba2 h).2) 40
  | .ret e, h => pg_of (g := fun (δ : En) (d : PyData) (s' : Store) => .ret d s') (pf_ev e (by simpa only [pt] using h)) fun _ _ _ => rfl
  | .reto e, h => pg_of (g := fun (δ : En) (d : PyData) (s' : Store) => match d with
    | .list ds => .reto ds s'
    | _ => .bad) (pf_ev e (by simpa only [pt] using h)) fun _ d _ => by cases d <;> rfl
  | .rse k, _ => fun δ s => rfl
  | .try_ b k n j, h => fun δ s => by
    simp only [pt] at h
    show (match evTs C K b δ s with
      | .exc q δ' s' => if q < 7 then (if subE q k then .nxt ((δ'.set j (.val (excD q))).set n .non) s' else .exc q δ' s') else .bad
      | r => r) = (match evTs C K b δ [] with
      | .exc q δ' s' => if q < 7 then (if subE q k then .nxt ((δ'.set j (.val (excD q))).set n .non) s' else .exc q δ' s') else .bad
      | r => r : SRes).on s
    rw [pg_evTs b h δ s]
    cases evTs C K b δ [] <;> try rfl
    rename_i q δ' s'
    show (if q < 7 then (if subE q k then _ else _) else _ : SRes) = SRes.on (if q < 7 then (if subE q k then _ else _) else _) s
    split
    · split <;> rfl
    · rfl
  | .pas, _ => fun δ s => rfl
  | .shr i t, h => fun δ s => own_on (f := fun ds s => evT C K t (δ.set i (.val (.list ds))) s) (fun ds s => pg_evT t (by simpa only [pt] using h) _ s) s
theorem pg_evTs : ∀ ts : Sts, pts ts = true → PG' (evTs C K ts)
  | .nil, _ => fun δ s => rfl
  | .cons t ts, h => by
    simp only [pts] at h
    exact pg_thn (pg_evT t (ba2 h).1) (pg_evTs ts (ba2 h).2)
end
theorem evTs_cons {t : St} {ts : Sts} {δ δ' : En} {s s' : Store} (h : evT C K t δ s = .nxt δ' s') : evTs C K (.cons t ts) δ s = evTs C K ts δ' s' := by
  show (evT C K t δ s).thn (evTs C K ts) = _
  rw [h]
  rfl
/-- a pure rest that ends, ends so on every store -/
theorem rest_ret {ts : Sts} {δ : En} {d : PyData} {s : Store} (hp : pts ts = true) (h : evTs C K ts δ [] = .ret d []) : evTs C K ts δ s = .ret d s := by
  rw [pg_evTs ts hp δ s, h]
  rfl
end
def Dr (S : Store) : Prop := ∃ ns c, S = [SObj.draws ns c] ∧ ns ≠ []
theorem draw_dr {S : Store} {l : Int} (h : Dr S) (h0 : 0 < l) (h1 : l < 1000000) : ∃ r S', Dr S' ∧ 0 ≤ r ∧ r < l ∧ drawD (tokD 0) (.int l) S = .ok r S' := by
  obtain ⟨ns, c, rfl, hne⟩ := h
  obtain ⟨d0, d1⟩ := drawF_lt (ns := ns) (c := c) h0
  refine ⟨(drawF ns c l).1, [.draws (drawF ns c l).2 (c + 1)], ⟨_, _, rfl, fun z => hne ?_⟩, d0, d1, ?_⟩
  · have e := drawF_len ns c l
    rw [z] at e
    exact List.length_eq_zero_iff.mp e.symm
  · show (if decide (0 < l) && (decide (l < 1000000) && !ns.isEmpty) then _ else _ : Res Int) = _
    have e : ns.isEmpty = false := by
      cases ns with
      | nil => exact absurd rfl hne
      | cons _ _ => rfl
    rw [decide_eq_true h0, decide_eq_true h1, e]
    rfl
theorem start_dr (ns : List Int) : ∃ S, Dr S ∧ startD (scrD ns) [] = .ok (tokD 0) S := by
  refine ⟨[.draws (if ns.isEmpty then [0] else ns) 0], ⟨_, _, rfl, ?_⟩, ?_⟩
  · cases ns <;> simp
  · show (match intsD (ns.map PyData.int) with
      | some ns => Res.ok (tokD ([] : Store).length) ([] ++ [SObj.draws (if ns.isEmpty then [0] else ns) 0])
      | none => .bad) = _
    rw [intsD_map]
    rfl
def subsD {α : Type} : List α → List (List α)
  | [] => [[]]
  | x :: xs => (subsD xs).map (x :: ·) ++ subsD xs
/-- each kept or not, as drawn -/
theorem lst_subs {f : PyData → M (Option PyData)} : ∀ (its : List PyData), (∀ x ∈ its, ∀ S, Dr S → ∃ r S', Dr S' ∧ (r = none ∨ r = some x) ∧ f x S = .ok r S') → ∀ S, Dr S → ∃ sub S', Dr S' ∧ sub ∈ subsD its ∧ M.lst f its S = .ok sub S'
  | [], _, S, h => ⟨[], S, h, List.mem_cons_self, rfl⟩
  | x :: xs, hf, S, h => by
    obtain ⟨r, S1, h1, hr, e1⟩ := hf x List.mem_cons_self S h
    obtain ⟨sub, S2, h2, hs, e2⟩ := lst_subs xs (fun y hy => hf y (List.mem_cons_of_mem _ hy)) S1 h1
    refine ⟨consO r sub, S2, h2, ?_, ?_⟩
    · rcases hr with rfl | rfl
      · exact List.mem_append_right _ hs
      · exact List.mem_append_left _ (List.mem_map.mpr ⟨sub, hs, rfl⟩)
    · show M.bnd (M.nox (f x)) (fun r => M.bnd (M.lst f xs) fun rs => M.ret (consO r rs)) S = _
      rw [bnd_ok (a := r) (S' := S1) (by unfold M.nox; rw [e1]), bnd_ok e2]
      rfl
end PyD

namespace Fn
open PySem PySem.Spec PyD
/-- 0 -/
def d_is_int : DefI := ⟨"is_int", ["value", "low", "high"], ["value", "low", "high"], (.cons (.ret (.bop true (.cons (.isi (.var 0) .int) (.cons (.not (.isi (.var 0) .bool)) (.cons (.chn .le .le (.var 1) (.var 0) (.var 2)) .nil))))) .nil), false⟩
/-- 1 -/
def d_check_things : DefI := ⟨"check_things", ["value"], ["value"], (.cons (.ifs (.not (.call 0 (.cons (.var 0) (.cons (.cst (.int 1)) (.cons (.glo "MOST_THINGS") .nil))))) (.cons (.rse 1) .nil) .nil) .nil), false⟩
/-- 2 -/
def d_is_set : DefI := ⟨"is_set", ["value", "things"], ["value", "things", "thing", "k"], (.cons (.ifs (.bop false (.cons (.not (.isi (.var 0) .tup)) (.cons (.not (.bi .all (.cmp0 (.it (.var 0)) (.one 2) (.call 0 (.cons (.var 2) (.cons (.cst (.int 0)) (.cons (.bin .sub (.var 1) (.cst (.int 1))) .nil))))))) .nil))) (.cons (.ret (.cst (.bool false))) .nil) .nil) (.cons (.ret (.bi .all (.cmp0 (.rg1 (.bin .sub (.bi .len (.var 0)) (.cst (.int 1)))) (.one 3) (.cmp .lt (.idx (.var 0) (.var 3)) (.idx (.var 0) (.bin .add (.var 3) (.cst (.int 1)))))))) .nil)), false⟩
/-- 3 -/
def d_check_set : DefI := ⟨"check_set", ["value", "things"], ["value", "things"], (.cons (.ifs (.not (.call 2 (.cons (.var 0) (.cons (.var 1) .nil)))) (.cons (.rse 3) .nil) .nil) .nil), false⟩
/-- 4 -/
def d_sets_of : DefI := ⟨"sets_of", ["things"], ["things", "found", "thing", "one", "size"], (.cons (.own 1 (.lst (.cons (.tup .nil) .nil))) (.cons (.for_ (.rg1 (.var 0)) (.one 2) (.cons (.ext 1 (.cmp0 (.it (.ovr 1)) (.one 3) (.bin .add (.var 3) (.tup (.cons (.var 2) .nil))))) .nil)) (.cons (.ret (.cmp0 (.it (.bi .srt (.cmp0 (.it (.ovr 1)) (.one 3) (.tup (.cons (.bi .len (.var 3)) (.cons (.var 3) .nil)))))) (.two 4 3) (.var 3))) .nil))), false⟩
/-- 5 -/
def d_all_sets : DefI := ⟨"all_sets", ["things"], ["things"], (.cons (.exp (.call 1 (.cons (.var 0) .nil))) (.cons (.ret (.call 4 (.cons (.var 0) .nil))) .nil)), false⟩
/-- 6 -/
def d_within : DefI := ⟨"within", ["one", "other"], ["one", "other", "thing"], (.cons (.ret (.bi .all (.cmp0 (.it (.var 0)) (.one 2) (.cmp .in_ (.var 2) (.var 1))))) .nil), false⟩
/-- 7 -/
def d_is_within : DefI := ⟨"is_within", ["things", "one", "other"], ["things", "one", "other"], (.cons (.exp (.call 1 (.cons (.var 0) .nil))) (.cons (.exp (.call 3 (.cons (.var 1) (.cons (.var 0) .nil)))) (.cons (.exp (.call 3 (.cons (.var 2) (.cons (.var 0) .nil)))) (.cons (.ret (.call 6 (.cons (.var 1) (.cons (.var 2) .nil)))) .nil)))), false⟩
/-- 8 -/
def d_shared : DefI := ⟨"shared", ["one", "other"], ["one", "other", "thing"], (.cons (.ret (.bi .tup (.cmp1 (.it (.var 0)) (.one 2) (.cmp .in_ (.var 2) (.var 1)) (.var 2)))) .nil), false⟩
/-- 9 -/
def d_either : DefI := ⟨"either", ["one", "other"], ["one", "other"], (.cons (.ret (.bi .tup (.srs (.bin .add (.var 0) (.var 1))))) .nil), false⟩
/-- 10 -/
def d_together : DefI := ⟨"together", ["things", "one", "other"], ["things", "one", "other"], (.cons (.exp (.call 1 (.cons (.var 0) .nil))) (.cons (.exp (.call 3 (.cons (.var 1) (.cons (.var 0) .nil)))) (.cons (.exp (.call 3 (.cons (.var 2) (.cons (.var 0) .nil)))) (.cons (.ret (.call 9 (.cons (.var 1) (.cons (.var 2) .nil)))) .nil)))), false⟩
/-- 11 -/
def d_common : DefI := ⟨"common", ["things", "one", "other"], ["things", "one", "other"], (.cons (.exp (.call 1 (.cons (.var 0) .nil))) (.cons (.exp (.call 3 (.cons (.var 1) (.cons (.var 0) .nil)))) (.cons (.exp (.call 3 (.cons (.var 2) (.cons (.var 0) .nil)))) (.cons (.ret (.call 8 (.cons (.var 1) (.cons (.var 2) .nil)))) .nil)))), false⟩
/-- 12 -/
def d_without : DefI := ⟨"without", ["things", "one", "other"], ["things", "one", "other", "thing"], (.cons (.exp (.call 1 (.cons (.var 0) .nil))) (.cons (.exp (.call 3 (.cons (.var 1) (.cons (.var 0) .nil)))) (.cons (.exp (.call 3 (.cons (.var 2) (.cons (.var 0) .nil)))) (.cons (.ret (.bi .tup (.cmp1 (.it (.var 1)) (.one 3) (.cmp .nin (.var 3) (.var 2)) (.var 3)))) .nil)))), false⟩
/-- 13 -/
def d_greater_sets : DefI := ⟨"greater_sets", ["things", "one"], ["things", "one", "other"], (.cons (.exp (.call 1 (.cons (.var 0) .nil))) (.cons (.exp (.call 3 (.cons (.var 1) (.cons (.var 0) .nil)))) (.cons (.ret (.cmp1 (.it (.call 4 (.cons (.var 0) .nil))) (.one 2) (.call 6 (.cons (.var 1) (.cons (.var 2) .nil))) (.var 2))) .nil))), false⟩
/-- 14 -/
def d__law_true : DefI := ⟨"_law_true", ["_law_value", "_law_expected"], ["_law_value", "_law_expected"], (.cons (.ret (.bop true (.cons (.isi (.var 0) .bool) (.cons (.cmp .eq (.var 0) (.var 1)) .nil)))) .nil), false⟩
/-- 15 -/
def d__law_sets : DefI := ⟨"_law_sets", ["_law_n"], ["_law_n", "_law_found", "_law_thing", "_law_one", "_law_size"], (.cons (.asg 1 (.lst (.cons (.tup .nil) .nil))) (.cons (.for_ (.rg1 (.var 0)) (.one 2) (.cons (.asg 1 (.bin .add (.var 1) (.cmp0 (.it (.var 1)) (.one 3) (.bin .add (.var 3) (.tup (.cons (.var 2) .nil)))))) .nil)) (.cons (.ret (.cmp0 (.it (.bi .srt (.cmp0 (.it (.var 1)) (.one 3) (.tup (.cons (.bi .len (.var 3)) (.cons (.var 3) .nil)))))) (.two 4 3) (.var 3))) .nil))), false⟩
/-- 16 -/
def d__law_set : DefI := ⟨"_law_set", ["_law_draws", "_law_n"], ["_law_draws", "_law_n", "_law_thing"], (.cons (.ret (.bi .tup (.cmp1 (.rg1 (.var 1)) (.one 2) (.cmp .eq (.draw (.var 0) (.cst (.int 2))) (.cst (.int 0))) (.var 2)))) .nil), false⟩
/-- 17 -/
def d__law_in : DefI := ⟨"_law_in", ["_law_one", "_law_other"], ["_law_one", "_law_other", "_law_thing"], (.cons (.ret (.cmp .eq (.cmp1 (.it (.var 0)) (.one 2) (.cmp .nin (.var 2) (.var 1)) (.var 2)) (.lst .nil))) .nil), false⟩
/-- 18 -/
def d_law : DefI := ⟨"law", ["_law_script"], ["_law_script", "_law_draws", "_law_n", "_law_one", "_law_other", "_law_every", "_law_thing", "_law_row"], (.cons (.asg 1 (.start (.var 0))) (.cons (.asg 2 (.bin .add (.cst (.int 1)) (.draw (.var 1) (.cst (.int 4))))) (.cons (.unp 3 4 (.tup (.cons (.cals 16 (.cons (.var 1) (.cons (.var 2) .nil))) (.cons (.cals 16 (.cons (.var 1) (.cons (.var 2) .nil))) .nil)))) (.cons (.asg 5 (.call 15 (.cons (.var 2) .nil))) (.cons (.ifs (.bop false (.cons (.cmp .ne (.call 5 (.cons (.var 2) .nil)) (.var 5)) (.cons (.cmp .isn (.call 2 (.cons (.var 3) (.cons (.var 2) .nil))) (.cst (.bool true))) (.cons (.not (.call 14 (.cons (.call 7 (.cons (.var 2) (.cons (.var 3) (.cons (.var 4) .nil)))) (.cons (.call 17 (.cons (.var 3) (.cons (.var 4) .nil))) .nil)))) .nil)))) (.cons (.ret (.cst (.bool false))) .nil) .nil) (.cons (.ifs (.cmp .ne (.call 10 (.cons (.var 2) (.cons (.var 3) (.cons (.var 4) .nil)))) (.bi .tup (.cmp1 (.rg1 (.var 2)) (.one 6) (.bop false (.cons (.cmp .in_ (.var 6) (.var 3)) (.cons (.cmp .in_ (.var 6) (.var 4)) .nil))) (.var 6)))) (.cons (.ret (.cst (.bool false))) .nil) .nil) (.cons (.ifs (.cmp .ne (.call 11 (.cons (.var 2) (.cons (.var 3) (.cons (.var 4) .nil)))) (.bi .tup (.cmp1 (.it (.var 3)) (.one 6) (.cmp .in_ (.var 6) (.var 4)) (.var 6)))) (.cons (.ret (.cst (.bool false))) .nil) .nil) (.cons (.ifs (.cmp .ne (.call 12 (.cons (.var 2) (.cons (.var 3) (.cons (.var 4) .nil)))) (.bi .tup (.cmp1 (.it (.var 3)) (.one 6) (.cmp .nin (.var 6) (.var 4)) (.var 6)))) (.cons (.ret (.cst (.bool false))) .nil) .nil) (.cons (.ifs (.cmp .ne (.call 13 (.cons (.var 2) (.cons (.var 3) .nil))) (.cmp1 (.it (.var 5)) (.one 7) (.call 17 (.cons (.var 3) (.cons (.var 7) .nil))) (.var 7))) (.cons (.ret (.cst (.bool false))) .nil) .nil) (.cons (.ret (.bop true (.cons (.cmp .eq (.call 13 (.cons (.var 2) (.cons (.tup .nil) .nil))) (.var 5)) (.cons (.cmp .eq (.call 13 (.cons (.var 2) (.cons (.trg (.var 2)) .nil))) (.lst (.cons (.trg (.var 2)) .nil))) .nil)))) .nil)))))))))), false⟩
/-- 19 -/
def d_is_baskets : DefI := ⟨"is_baskets", ["value", "things"], ["value", "things", "basket"], (.cons (.ifs (.bop false (.cons (.not (.isi (.var 0) .list)) (.cons (.cmp .gt (.bi .len (.var 0)) (.glo "MOST_BASKETS")) .nil))) (.cons (.ret (.cst (.bool false))) .nil) .nil) (.cons (.ret (.bi .all (.cmp0 (.it (.var 0)) (.one 2) (.call 2 (.cons (.var 2) (.cons (.var 1) .nil)))))) .nil)), false⟩
/-- 20 -/
def d_check_baskets : DefI := ⟨"check_baskets", ["things", "value"], ["things", "value"], (.cons (.exp (.call 1 (.cons (.var 0) .nil))) (.cons (.ifs (.not (.call 19 (.cons (.var 1) (.cons (.var 0) .nil)))) (.cons (.rse 2) .nil) .nil) .nil)), false⟩
/-- 21 -/
def d_many_sets : DefI := ⟨"many_sets", ["things"], ["things"], (.cons (.ret (.idx (.tup (.cons (.cst (.int 2)) (.cons (.cst (.int 4)) (.cons (.cst (.int 8)) (.cons (.cst (.int 16)) .nil))))) (.bin .sub (.var 0) (.cst (.int 1))))) .nil), false⟩
/-- 22 -/
def d_is_table : DefI := ⟨"is_table", ["value", "things"], ["value", "things", "count"], (.cons (.ifs (.bop false (.cons (.not (.isi (.var 0) .list)) (.cons (.cmp .ne (.bi .len (.var 0)) (.call 21 (.cons (.var 1) .nil))) .nil))) (.cons (.ret (.cst (.bool false))) .nil) .nil) (.cons (.ret (.bi .all (.cmp0 (.it (.var 0)) (.one 2) (.call 0 (.cons (.var 2) (.cons (.cst (.int 0)) (.cons (.glo "MOST_BASKETS") .nil))))))) .nil)), false⟩
/-- 23 -/
def d_check_table : DefI := ⟨"check_table", ["things", "value"], ["things", "value"], (.cons (.exp (.call 1 (.cons (.var 0) .nil))) (.cons (.ifs (.not (.call 22 (.cons (.var 1) (.cons (.var 0) .nil)))) (.cons (.rse 4) .nil) .nil) .nil)), false⟩
/-- 24 -/
def d_counted : DefI := ⟨"counted", ["baskets", "one"], ["baskets", "one", "basket"], (.cons (.ret (.bi .len (.cmp1 (.it (.var 0)) (.one 2) (.call 6 (.cons (.var 1) (.cons (.var 2) .nil))) (.var 2)))) .nil), false⟩
/-- 25 -/
def d_count : DefI := ⟨"count", ["things", "baskets", "one"], ["things", "baskets", "one"], (.cons (.exp (.call 20 (.cons (.var 0) (.cons (.var 1) .nil)))) (.cons (.exp (.call 3 (.cons (.var 2) (.cons (.var 0) .nil)))) (.cons (.ret (.call 24 (.cons (.var 1) (.cons (.var 2) .nil)))) .nil))), false⟩
/-- 26 -/
def d_table : DefI := ⟨"table", ["things", "baskets"], ["things", "baskets", "one"], (.cons (.exp (.call 20 (.cons (.var 0) (.cons (.var 1) .nil)))) (.cons (.ret (.cmp0 (.it (.call 4 (.cons (.var 0) .nil))) (.one 2) (.call 24 (.cons (.var 1) (.cons (.var 2) .nil))))) .nil)), false⟩
/-- 27 -/
def d_exact : DefI := ⟨"exact", ["things", "baskets"], ["things", "baskets", "one"], (.cons (.exp (.call 20 (.cons (.var 0) (.cons (.var 1) .nil)))) (.cons (.ret (.cmp0 (.it (.call 4 (.cons (.var 0) .nil))) (.one 2) (.cnt (.var 1) (.var 2)))) .nil)), false⟩
/-- 28 -/
def d_exact_numbers : DefI := ⟨"exact_numbers", ["things", "counts"], ["things", "counts", "found", "one", "whole", "other", "many"], (.cons (.own 2 (.lst .nil)) (.cons (.for_ (.it (.call 4 (.cons (.var 0) .nil))) (.one 3) (.cons (.asg 4 (.cst (.int 0))) (.cons (.for_ (.zip (.call 4 (.cons (.var 0) .nil)) (.var 1)) (.two 5 6) (.cons (.ifs (.call 6 (.cons (.var 3) (.cons (.var 5) .nil))) (.cons (.aug 4 (.ite (.cmp .eq (.bin .mod (.bin .sub (.bi .len (.var 5)) (.bi .len (.var 3))) (.cst (.int 2))) (.cst (.int 0))) (.var 6) (.neg (.var 6)))) .nil) .nil) .nil)) (.cons (.app 2 (.var 4)) .nil)))) (.cons (.shr 2 (.ret (.var 2))) .nil))), false⟩
/-- 29 -/
def d_exact_of : DefI := ⟨"exact_of", ["things", "counts"], ["things", "counts"], (.cons (.exp (.call 23 (.cons (.var 0) (.cons (.var 1) .nil)))) (.cons (.ret (.call 28 (.cons (.var 0) (.cons (.var 1) .nil)))) .nil)), false⟩
/-- 30 -/
def d_table_of : DefI := ⟨"table_of", ["things", "numbers"], ["things", "numbers", "found", "one", "other", "many"], (.cons (.exp (.call 1 (.cons (.var 0) .nil))) (.cons (.ifs (.not (.call 22 (.cons (.var 1) (.cons (.var 0) .nil)))) (.cons (.rse 4) .nil) .nil) (.cons (.ifs (.cmp .gt (.bi .sum (.var 1)) (.cst (.int 20))) (.cons (.rse 4) .nil) .nil) (.cons (.own 2 (.lst .nil)) (.cons (.for_ (.it (.call 4 (.cons (.var 0) .nil))) (.one 3) (.cons (.app 2 (.bi .sum (.cmp1 (.zip (.call 4 (.cons (.var 0) .nil)) (.var 1)) (.two 4 5) (.call 6 (.cons (.var 3) (.cons (.var 4) .nil))) (.var 5)))) .nil)) (.cons (.shr 2 (.ret (.var 2))) .nil)))))), false⟩
/-- 31 -/
def d_count_without : DefI := ⟨"count_without", ["things", "baskets", "one", "other"], ["things", "baskets", "one", "other", "basket", "thing"], (.cons (.exp (.call 20 (.cons (.var 0) (.cons (.var 1) .nil)))) (.cons (.exp (.call 3 (.cons (.var 2) (.cons (.var 0) .nil)))) (.cons (.exp (.call 3 (.cons (.var 3) (.cons (.var 0) .nil)))) (.cons (.ret (.bi .len (.cmp1 (.it (.var 1)) (.one 4) (.bop true (.cons (.call 6 (.cons (.var 2) (.cons (.var 4) .nil))) (.cons (.not (.bi .any (.cmp0 (.it (.var 4)) (.one 5) (.cmp .in_ (.var 5) (.var 3))))) .nil))) (.var 4)))) .nil)))), false⟩
/-- 32 -/
def d_sizes : DefI := ⟨"sizes", ["things", "baskets"], ["things", "baskets", "basket", "size"], (.cons (.exp (.call 20 (.cons (.var 0) (.cons (.var 1) .nil)))) (.cons (.ret (.cmp0 (.rg1 (.bin .add (.var 0) (.cst (.int 1)))) (.one 3) (.bi .len (.cmp1 (.it (.var 1)) (.one 2) (.cmp .eq (.bi .len (.var 2)) (.var 3)) (.var 2))))) .nil)), false⟩
/-- 33 -/
def d__law_baskets : DefI := ⟨"_law_baskets", ["_law_draws", "_law_n", "_law_most"], ["_law_draws", "_law_n", "_law_most", "_law_found", "_law_k", "_law_repeat"], (.cons (.own 3 (.lst .nil)) (.cons (.for_ (.rg1 (.draw (.var 0) (.bin .add (.var 2) (.cst (.int 1))))) (.one 4) (.cons (.asg 5 (.bop true (.cons (.cmp .ne (.ovr 3) (.lst .nil)) (.cons (.cmp .eq (.draw (.var 0) (.cst (.int 3))) (.cst (.int 0))) .nil)))) (.cons (.app 3 (.ite (.var 5) (.pick (.var 0) (.ovr 3)) (.cals 16 (.cons (.var 0) (.cons (.var 1) .nil))))) .nil))) (.cons (.shr 3 (.ret (.var 3))) .nil))), false⟩
/-- 34 -/
def d__law_count : DefI := ⟨"_law_count", ["_law_rows", "_law_one"], ["_law_rows", "_law_one", "_law_row"], (.cons (.ret (.bi .len (.cmp1 (.it (.var 0)) (.one 2) (.call 17 (.cons (.var 1) (.cons (.var 2) .nil))) (.var 2)))) .nil), false⟩
/-- 35 -/
def d__law_table : DefI := ⟨"_law_table", ["_law_n", "_law_rows"], ["_law_n", "_law_rows", "_law_one"], (.cons (.reto (.cmp0 (.it (.call 15 (.cons (.var 0) .nil))) (.one 2) (.call 34 (.cons (.var 1) (.cons (.var 2) .nil))))) .nil), true⟩
/-- 36 -/
def d__law_exact : DefI := ⟨"_law_exact", ["_law_n", "_law_counts"], ["_law_n", "_law_counts", "_law_every", "_law_found", "_law_one", "_law_whole", "_law_k", "_law_odd"], (.cons (.asg 2 (.call 15 (.cons (.var 0) .nil))) (.cons (.own 3 (.lst .nil)) (.cons (.for_ (.it (.var 2)) (.one 4) (.cons (.asg 5 (.cst (.int 0))) (.cons (.for_ (.rg1 (.bi .len (.var 2))) (.one 6) (.cons (.ifs (.call 17 (.cons (.var 4) (.cons (.idx (.var 2) (.var 6)) .nil))) (.cons (.asg 7 (.cmp .eq (.bin .mod (.bin .sub (.bi .len (.idx (.var 2) (.var 6))) (.bi .len (.var 4))) (.cst (.int 2))) (.cst (.int 1)))) (.cons (.asg 5 (.ite (.var 7) (.bin .sub (.var 5) (.idx (.var 1) (.var 6))) (.bin .add (.var 5) (.idx (.var 1) (.var 6))))) .nil)) .nil) .nil)) (.cons (.app 3 (.var 5)) .nil)))) (.cons (.shr 3 (.ret (.var 3))) .nil)))), false⟩
/-- 37 -/
def d__law_drawn : DefI := ⟨"_law_drawn", ["_law_draws", "_law_n"], ["_law_draws", "_law_n", "_law_counts", "_law_at"], (.cons (.own 2 (.call 35 (.cons (.var 1) (.cons (.cals 33 (.cons (.var 0) (.cons (.var 1) (.cons (.cst (.int 8)) .nil)))) .nil)))) (.cons (.ifs (.cmp .eq (.draw (.var 0) (.cst (.int 2))) (.cst (.int 0))) (.cons (.asg 3 (.draw (.var 0) (.bi .len (.ovr 2)))) (.cons (.put 2 (.var 3) (.mx2 true (.cst (.int 0)) (.mx2 false (.cst (.int 20)) (.bin .sub (.bin .add (.idx (.ovr 2) (.var 3)) (.draw (.var 0) (.cst (.int 5)))) (.cst (.int 2)))))) .nil)) .nil) (.cons (.shr 2 (.ret (.var 2))) .nil))), false⟩
/-- 38 -/
def d_law_v2 : DefI := ⟨"law", ["_law_script"], ["_law_script", "_law_draws", "_law_n", "_law_rows", "_law_every", "_law_due", "_law_one", "_law_numbers", "_law_other", "_law_row", "_law_thing", "_law_inside", "_law_size", "_law_drawn_here"], (.cons (.asg 1 (.start (.var 0))) (.cons (.asg 2 (.bin .add (.cst (.int 1)) (.draw (.var 1) (.cst (.int 4))))) (.cons (.asg 3 (.cals 33 (.cons (.var 1) (.cons (.var 2) (.cons (.cst (.int 12)) .nil))))) (.cons (.asg 4 (.call 15 (.cons (.var 2) .nil))) (.cons (.asg 5 (.call 35 (.cons (.var 2) (.cons (.var 3) .nil)))) (.cons (.ifs (.bop false (.cons (.cmp .isn (.call 19 (.cons (.var 3) (.cons (.var 2) .nil))) (.cst (.bool true))) (.cons (.cmp .ne (.call 26 (.cons (.var 2) (.cons (.var 3) .nil))) (.var 5)) (.cons (.cmp .isn (.call 22 (.cons (.var 5) (.cons (.var 2) .nil))) (.cst (.bool true))) .nil)))) (.cons (.ret (.cst (.bool false))) .nil) .nil) (.cons (.asg 7 (.cmp0 (.it (.var 4)) (.one 6) (.cnt (.var 3) (.var 6)))) (.cons (.ifs (.bop false (.cons (.cmp .ne (.call 27 (.cons (.var 2) (.cons (.var 3) .nil))) (.var 7)) (.cons (.cmp .ne (.call 29 (.cons (.var 2) (.cons (.var 5) .nil))) (.var 7)) (.cons (.cmp .ne (.call 30 (.cons (.var 2) (.cons (.var 7) .nil))) (.var 5)) .nil)))) (.cons (.ret (.cst (.bool false))) .nil) .nil) (.cons (.unp 6 8 (.tup (.cons (.cals 16 (.cons (.var 1) (.cons (.var 2) .nil))) (.cons (.cals 16 (.cons (.var 1) (.cons (.var 2) .nil))) .nil)))) (.cons (.ifs (.cmp .ne (.call 25 (.cons (.var 2) (.cons (.var 3) (.cons (.var 6) .nil)))) (.call 34 (.cons (.var 3) (.cons (.var 6) .nil)))) (.cons (.ret (.cst (.bool false))) .nil) .nil) (.cons (.asg 11 (.cmp1 (.it (.var 3)) (.one 9) (.bop true (.cons (.call 17 (.cons (.var 6) (.cons (.var 9) .nil))) (.cons (.cmp .eq (.cmp1 (.it (.var 9)) (.one 10) (.cmp .in_ (.var 10) (.var 8)) (.var 10)) (.lst .nil)) .nil))) (.var 9))) (.cons (.ifs (.cmp .ne (.call 31 (.cons (.var 2) (.cons (.var 3) (.cons (.var 6) (.cons (.var 8) .nil))))) (.bi .len (.var 11))) (.cons (.ret (.cst (.bool false))) .nil) .nil) (.cons (.ifs (.cmp .ne (.call 32 (.cons (.var 2) (.cons (.var 3) .nil))) (.cmp0 (.rg1 (.bin .add (.var 2) (.cst (.int 1)))) (.one 12) (.bi .len (.cmp1 (.it (.var 3)) (.one 9) (.cmp .eq (.bi .len (.var 9)) (.var 12)) (.var 9))))) (.cons (.ret (.cst (.bool false))) .nil) .nil) (.cons (.asg 13 (.cals 37 (.cons (.var 1) (.cons (.var 2) .nil)))) (.cons (.ret (.bop true (.cons (.cmp .eq (.call 29 (.cons (.var 2) (.cons (.var 13) .nil))) (.call 36 (.cons (.var 2) (.cons (.var 13) .nil)))) (.cons (.cmp .eq (.call 25 (.cons (.var 2) (.cons (.var 3) (.cons (.tup .nil) .nil)))) (.bi .len (.var 3))) (.cons (.cmp .eq (.bi .sum (.call 32 (.cons (.var 2) (.cons (.var 3) .nil)))) (.bi .len (.var 3))) .nil))))) .nil))))))))))))))), false⟩
/-- 39 -/
def d_check_known : DefI := ⟨"check_known", ["things", "known"], ["things", "known", "pair", "one", "many"], (.cons (.exp (.call 1 (.cons (.var 0) .nil))) (.cons (.ifs (.cmp .gt (.var 0) (.cst (.int 3))) (.cons (.rse 1) .nil) .nil) (.cons (.ifs (.bop false (.cons (.not (.isi (.var 1) .list)) (.cons (.not (.bi .all (.cmp0 (.it (.var 1)) (.one 2) (.bop true (.cons (.isi (.var 2) .tup) (.cons (.cmp .eq (.bi .len (.var 2)) (.cst (.int 2))) .nil)))))) .nil))) (.cons (.rse 3) .nil) .nil) (.cons (.ifs (.not (.bi .all (.cmp0 (.it (.var 1)) (.two 3 4) (.bop true (.cons (.call 2 (.cons (.var 3) (.cons (.var 0) .nil))) (.cons (.call 0 (.cons (.var 4) (.cons (.cst (.int 0)) (.cons (.glo "MOST_WHOLE") .nil)))) .nil)))))) (.cons (.rse 3) .nil) .nil) (.cons (.ifs (.cmp .nin (.tup .nil) (.cmp0 (.it (.var 1)) (.two 3 4) (.var 3))) (.cons (.rse 3) .nil) .nil) .nil))))), false⟩
/-- 40 -/
def d_divided : DefI := ⟨"divided", ["whole", "parts"], ["whole", "parts", "found", "first", "rest"], (.cons (.ifs (.cmp .eq (.var 1) (.cst (.int 1))) (.cons (.ret (.lst (.cons (.lst (.cons (.var 0) .nil)) .nil))) .nil) .nil) (.cons (.own 2 (.lst .nil)) (.cons (.for_ (.rg1 (.bin .add (.var 0) (.cst (.int 1)))) (.one 3) (.cons (.ext 2 (.cmp0 (.it (.call 40 (.cons (.bin .sub (.var 0) (.var 3)) (.cons (.bin .sub (.var 1) (.cst (.int 1))) .nil)))) (.one 4) (.bin .add (.lst (.cons (.var 3) .nil)) (.var 4)))) .nil)) (.cons (.shr 2 (.ret (.var 2))) .nil)))), false⟩
/-- 41 -/
def d_fitting : DefI := ⟨"fitting", ["things", "known"], ["things", "known", "one", "many", "whole", "every", "other", "masks", "found", "numbers", "n", "inside", "mask"], (.cons (.asg 4 (.idx (.cmp1 (.it (.var 1)) (.two 2 3) (.cmp .eq (.var 2) (.tup .nil)) (.var 3)) (.cst (.int 0)))) (.cons (.asg 5 (.call 4 (.cons (.var 0) .nil))) (.cons (.asg 7 (.cmp0 (.it (.var 1)) (.two 2 3) (.tup (.cons (.var 3) (.cons (.cmp0 (.it (.var 5)) (.one 6) (.call 6 (.cons (.var 2) (.cons (.var 6) .nil)))) .nil))))) (.cons (.own 8 (.lst .nil)) (.cons (.for_ (.it (.call 40 (.cons (.var 4) (.cons (.bi .len (.var 5)) .nil)))) (.one 9) (.cons (.ifs (.bi .all (.cmp0 (.it (.var 7)) (.two 3 12) (.cmp .eq (.bi .sum (.cmp1 (.zip (.var 9) (.var 12)) (.two 10 11) (.var 11) (.var 10))) (.var 3)))) (.cons (.app 8 (.var 9)) .nil) .nil) .nil)) (.cons (.shr 8 (.ret (.var 8))) .nil)))))), false⟩
/-- 42 -/
def d_possible_counts : DefI := ⟨"possible_counts", ["things", "known", "one"], ["things", "known", "one", "other", "mask", "n", "inside", "numbers", "found"], (.cons (.exp (.call 39 (.cons (.var 0) (.cons (.var 1) .nil)))) (.cons (.exp (.call 3 (.cons (.var 2) (.cons (.var 0) .nil)))) (.cons (.asg 4 (.cmp0 (.it (.call 4 (.cons (.var 0) .nil))) (.one 3) (.call 6 (.cons (.var 2) (.cons (.var 3) .nil))))) (.cons (.asg 8 (.cmp0 (.it (.call 41 (.cons (.var 0) (.cons (.var 1) .nil)))) (.one 7) (.bi .sum (.cmp1 (.zip (.var 7) (.var 4)) (.two 5 6) (.var 6) (.var 5))))) (.cons (.ret (.srs (.var 8))) .nil))))), false⟩
/-- 43 -/
def d_count_possible : DefI := ⟨"count_possible", ["things", "known"], ["things", "known"], (.cons (.exp (.call 39 (.cons (.var 0) (.cons (.var 1) .nil)))) (.cons (.ret (.bi .len (.call 41 (.cons (.var 0) (.cons (.var 1) .nil))))) .nil)), false⟩
/-- 44 -/
def d__law_divided : DefI := ⟨"_law_divided", ["_law_whole", "_law_parts"], ["_law_whole", "_law_parts", "_law_found", "_law_first", "_law_rest"], (.cons (.ifs (.cmp .eq (.var 1) (.cst (.int 1))) (.cons (.ret (.lst (.cons (.lst (.cons (.var 0) .nil)) .nil))) .nil) .nil) (.cons (.asg 2 (.lst .nil)) (.cons (.for_ (.rg1 (.bin .add (.var 0) (.cst (.int 1)))) (.one 3) (.cons (.asg 2 (.bin .add (.var 2) (.cmp0 (.it (.call 44 (.cons (.bin .sub (.var 0) (.var 3)) (.cons (.bin .sub (.var 1) (.cst (.int 1))) .nil)))) (.one 4) (.bin .add (.lst (.cons (.var 3) .nil)) (.var 4))))) .nil)) (.cons (.ret (.var 2)) .nil)))), false⟩
/-- 45 -/
def d_law_v3 : DefI := ⟨"law", ["_law_script"], ["_law_script", "_law_draws", "_law_n", "_law_rows", "_law_every", "_law_known", "_law_k", "_law_one", "_law_good", "_law_numbers", "_law_counts", "_law_row", "_law_many", "_law_own", "_law_pair", "_law_some", "_law_told"], (.cons (.asg 1 (.start (.var 0))) (.cons (.asg 2 (.bin .add (.cst (.int 1)) (.draw (.var 1) (.cst (.int 3))))) (.cons (.asg 3 (.cals 33 (.cons (.var 1) (.cons (.var 2) (.cons (.ite (.cmp .lt (.var 2) (.cst (.int 3))) (.cst (.int 5)) (.cst (.int 3))) .nil))))) (.cons (.asg 4 (.call 15 (.cons (.var 2) .nil))) (.cons (.own 5 (.lst (.cons (.tup (.cons (.tup .nil) (.cons (.bi .len (.var 3)) .nil))) .nil))) (.cons (.for_ (.rg1 (.draw (.var 1) (.cst (.int 4)))) (.one 6) (.cons (.asg 7 (.pick (.var 1) (.var 4))) (.cons (.app 5 (.tup (.cons (.var 7) (.cons (.mx2 true (.cst (.int 0)) (.mx2 false (.cst (.int 6)) (.bin .add (.call 34 (.cons (.var 3) (.cons (.var 7) .nil))) (.ite (.cmp .eq (.draw (.var 1) (.cst (.int 6))) (.cst (.int 0))) (.cst (.int 1)) (.cst (.int 0)))))) .nil)))) .nil))) (.cons (.asg 7 (.cals 16 (.cons (.var 1) (.cons (.var 2) .nil)))) (.cons (.own 8 (.lst .nil)) (.cons (.for_ (.it (.call 44 (.cons (.bi .len (.var 3)) (.cons (.bi .len (.var 4)) .nil)))) (.one 9) (.cons (.own 10 (.lst .nil)) (.cons (.for_ (.it (.var 4)) (.one 11) (.cons (.app 10 (.bi .sum (.cmp1 (.rg1 (.bi .len (.var 4))) (.one 6) (.call 17 (.cons (.var 11) (.cons (.idx (.var 4) (.var 6)) .nil))) (.idx (.var 9) (.var 6))))) .nil)) (.cons (.ifs (.cmp .eq (.cmp1 (.it (.ovr 5)) (.two 11 12) (.cmp .ne (.idx (.ovr 10) (.ind (.var 4) (.var 11))) (.var 12)) (.var 11)) (.lst .nil)) (.cons (.app 8 (.idx (.ovr 10) (.ind (.var 4) (.var 7)))) .nil) .nil) .nil)))) (.cons (.shr 5 (.ifs (.bop false (.cons (.cmp .ne (.call 42 (.cons (.var 2) (.cons (.var 5) (.cons (.var 7) .nil)))) (.srs (.ovr 8))) (.cons (.cmp .ne (.call 43 (.cons (.var 2) (.cons (.var 5) .nil))) (.bi .len (.ovr 8))) .nil))) (.cons (.ret (.cst (.bool false))) .nil) .nil)) (.cons (.asg 13 (.cmp0 (.it (.var 4)) (.one 11) (.tup (.cons (.var 11) (.cons (.call 34 (.cons (.var 3) (.cons (.var 11) .nil))) .nil))))) (.cons (.ifs (.bop false (.cons (.cmp .ne (.call 42 (.cons (.var 2) (.cons (.var 13) (.cons (.var 7) .nil)))) (.lst (.cons (.call 34 (.cons (.var 3) (.cons (.var 7) .nil))) .nil))) (.cons (.cmp .ne (.call 43 (.cons (.var 2) (.cons (.var 13) .nil))) (.cst (.int 1))) .nil))) (.cons (.ret (.cst (.bool false))) .nil) .nil) (.cons (.asg 15 (.bin .add (.slc (.var 13) .none (.some (.cst (.int 1)))) (.cmp1 (.it (.slc (.var 13) (.some (.cst (.int 1))) .none)) (.one 14) (.cmp .eq (.draw (.var 1) (.cst (.int 2))) (.cst (.int 0))) (.var 14)))) (.cons (.asg 16 (.call 42 (.cons (.var 2) (.cons (.var 15) (.cons (.var 7) .nil))))) (.cons (.ret (.bop true (.cons (.cmp .in_ (.call 34 (.cons (.var 3) (.cons (.var 7) .nil))) (.var 16)) (.cons (.cmp .gt (.call 43 (.cons (.var 2) (.cons (.bin .add (.var 15) (.lst (.cons (.tup (.cons (.var 7) (.cons (.idx (.var 16) (.cst (.int 0))) .nil))) .nil))) .nil))) (.cst (.int 0))) .nil)))) .nil))))))))))))))), false⟩
/-- 46 -/
def d_closed : DefI := ⟨"closed", ["things", "baskets", "one"], ["things", "baskets", "one", "found", "basket", "thing"], (.cons (.asg 3 (.trg (.var 0))) (.cons (.for_ (.it (.var 1)) (.one 4) (.cons (.ifs (.call 6 (.cons (.var 2) (.cons (.var 4) .nil))) (.cons (.asg 3 (.bi .tup (.cmp1 (.it (.var 3)) (.one 5) (.cmp .in_ (.var 5) (.var 4)) (.var 5)))) .nil) .nil) .nil)) (.cons (.ret (.var 3)) .nil))), false⟩
/-- 47 -/
def d_closure : DefI := ⟨"closure", ["things", "baskets", "one"], ["things", "baskets", "one"], (.cons (.exp (.call 20 (.cons (.var 0) (.cons (.var 1) .nil)))) (.cons (.exp (.call 3 (.cons (.var 2) (.cons (.var 0) .nil)))) (.cons (.ret (.call 46 (.cons (.var 0) (.cons (.var 1) (.cons (.var 2) .nil))))) .nil))), false⟩
/-- 48 -/
def d_is_closed : DefI := ⟨"is_closed", ["things", "baskets", "one"], ["things", "baskets", "one"], (.cons (.exp (.call 20 (.cons (.var 0) (.cons (.var 1) .nil)))) (.cons (.exp (.call 3 (.cons (.var 2) (.cons (.var 0) .nil)))) (.cons (.ret (.cmp .eq (.call 46 (.cons (.var 0) (.cons (.var 1) (.cons (.var 2) .nil)))) (.var 2))) .nil))), false⟩
/-- 49 -/
def d_closed_sets : DefI := ⟨"closed_sets", ["things", "baskets"], ["things", "baskets", "one"], (.cons (.exp (.call 20 (.cons (.var 0) (.cons (.var 1) .nil)))) (.cons (.ret (.cmp1 (.it (.call 4 (.cons (.var 0) .nil))) (.one 2) (.cmp .eq (.call 46 (.cons (.var 0) (.cons (.var 1) (.cons (.var 2) .nil)))) (.var 2)) (.tup (.cons (.var 2) (.cons (.call 24 (.cons (.var 1) (.cons (.var 2) .nil))) .nil))))) .nil)), false⟩
/-- 50 -/
def d_table_by_closed : DefI := ⟨"table_by_closed", ["things", "baskets"], ["things", "baskets", "one", "known", "found", "other", "many"], (.cons (.exp (.call 20 (.cons (.var 0) (.cons (.var 1) .nil)))) (.cons (.asg 3 (.cmp1 (.it (.call 4 (.cons (.var 0) .nil))) (.one 2) (.cmp .eq (.call 46 (.cons (.var 0) (.cons (.var 1) (.cons (.var 2) .nil)))) (.var 2)) (.tup (.cons (.var 2) (.cons (.call 24 (.cons (.var 1) (.cons (.var 2) .nil))) .nil))))) (.cons (.own 4 (.lst .nil)) (.cons (.for_ (.it (.call 4 (.cons (.var 0) .nil))) (.one 2) (.cons (.app 4 (.bi .max (.cmp1 (.it (.var 3)) (.two 5 6) (.call 6 (.cons (.var 2) (.cons (.var 5) .nil))) (.var 6)))) .nil)) (.cons (.shr 4 (.ret (.var 4))) .nil))))), false⟩
/-- 51 -/
def d_keys_of : DefI := ⟨"keys_of", ["things", "baskets", "one"], ["things", "baskets", "one", "goal", "other", "same", "part"], (.cons (.exp (.call 20 (.cons (.var 0) (.cons (.var 1) .nil)))) (.cons (.exp (.call 3 (.cons (.var 2) (.cons (.var 0) .nil)))) (.cons (.asg 3 (.call 46 (.cons (.var 0) (.cons (.var 1) (.cons (.var 2) .nil))))) (.cons (.asg 5 (.cmp1 (.it (.call 4 (.cons (.var 0) .nil))) (.one 4) (.cmp .eq (.call 46 (.cons (.var 0) (.cons (.var 1) (.cons (.var 4) .nil)))) (.var 3)) (.var 4))) (.cons (.ret (.cmp1 (.it (.var 5)) (.one 4) (.not (.bi .any (.cmp0 (.it (.var 5)) (.one 6) (.bop true (.cons (.cmp .ne (.var 6) (.var 4)) (.cons (.call 6 (.cons (.var 6) (.cons (.var 4) .nil))) .nil)))))) (.var 4))) .nil))))), false⟩
/-- 52 -/
def d_classes : DefI := ⟨"classes", ["things", "baskets"], ["things", "baskets", "found", "goal", "one"], (.cons (.exp (.call 20 (.cons (.var 0) (.cons (.var 1) .nil)))) (.cons (.own 2 (.lst .nil)) (.cons (.for_ (.it (.cmp1 (.it (.call 4 (.cons (.var 0) .nil))) (.one 4) (.cmp .eq (.call 46 (.cons (.var 0) (.cons (.var 1) (.cons (.var 4) .nil)))) (.var 4)) (.var 4))) (.one 3) (.cons (.app 2 (.cmp1 (.it (.call 4 (.cons (.var 0) .nil))) (.one 4) (.cmp .eq (.call 46 (.cons (.var 0) (.cons (.var 1) (.cons (.var 4) .nil)))) (.var 3)) (.var 4))) .nil)) (.cons (.shr 2 (.ret (.var 2))) .nil)))), false⟩
/-- 53 -/
def d__law_table_v2 : DefI := ⟨"_law_table", ["_law_n", "_law_rows"], ["_law_n", "_law_rows", "_law_one"], (.cons (.ret (.cmp0 (.it (.call 15 (.cons (.var 0) .nil))) (.one 2) (.call 34 (.cons (.var 1) (.cons (.var 2) .nil))))) .nil), false⟩
/-- 54 -/
def d__law_closed : DefI := ⟨"_law_closed", ["_law_n", "_law_rows", "_law_one"], ["_law_n", "_law_rows", "_law_one", "_law_row", "_law_inside", "_law_thing"], (.cons (.asg 4 (.cmp1 (.it (.var 1)) (.one 3) (.call 17 (.cons (.var 2) (.cons (.var 3) .nil))) (.var 3))) (.cons (.ret (.bi .tup (.cmp1 (.rg1 (.var 0)) (.one 5) (.cmp .eq (.cmp1 (.it (.var 4)) (.one 3) (.cmp .nin (.var 5) (.var 3)) (.var 3)) (.lst .nil)) (.var 5)))) .nil)), false⟩
/-- 55 -/
def d_law_v4 : DefI := ⟨"law", ["_law_script"], ["_law_script", "_law_draws", "_law_n", "_law_rows", "_law_every", "_law_one", "_law_other", "_law_row", "_law_full", "_law_due", "_law_k", "_law_shut", "_law_same", "_law_part", "_law_least", "_law_goal", "_law_both"], (.cons (.asg 1 (.start (.var 0))) (.cons (.asg 2 (.bin .add (.cst (.int 1)) (.draw (.var 1) (.cst (.int 4))))) (.cons (.asg 3 (.cals 33 (.cons (.var 1) (.cons (.var 2) (.cons (.cst (.int 10)) .nil))))) (.cons (.asg 4 (.call 15 (.cons (.var 2) .nil))) (.cons (.unp 5 6 (.tup (.cons (.cals 16 (.cons (.var 1) (.cons (.var 2) .nil))) (.cons (.cals 16 (.cons (.var 1) (.cons (.var 2) .nil))) .nil)))) (.cons (.asg 8 (.cmp0 (.it (.var 4)) (.one 7) (.call 54 (.cons (.var 2) (.cons (.var 3) (.cons (.var 7) .nil)))))) (.cons (.asg 9 (.call 54 (.cons (.var 2) (.cons (.var 3) (.cons (.var 5) .nil))))) (.cons (.ifs (.bop false (.cons (.cmp .ne (.call 47 (.cons (.var 2) (.cons (.var 3) (.cons (.var 5) .nil)))) (.var 9)) (.cons (.not (.call 14 (.cons (.call 48 (.cons (.var 2) (.cons (.var 3) (.cons (.var 5) .nil)))) (.cons (.cmp .eq (.var 9) (.var 5)) .nil)))) (.cons (.cmp .ne (.call 47 (.cons (.var 2) (.cons (.var 3) (.cons (.var 9) .nil)))) (.var 9)) .nil)))) (.cons (.ret (.cst (.bool false))) .nil) .nil) (.cons (.ifs (.bop false (.cons (.not (.call 17 (.cons (.var 5) (.cons (.var 9) .nil)))) (.cons (.cmp .ne (.call 34 (.cons (.var 3) (.cons (.var 9) .nil))) (.call 34 (.cons (.var 3) (.cons (.var 5) .nil)))) .nil))) (.cons (.ret (.cst (.bool false))) .nil) .nil) (.cons (.ifs (.cmp .ne (.cmp1 (.it (.var 4)) (.one 7) (.bop true (.cons (.call 17 (.cons (.var 5) (.cons (.var 7) .nil))) (.cons (.cmp .eq (.call 34 (.cons (.var 3) (.cons (.var 7) .nil))) (.call 34 (.cons (.var 3) (.cons (.var 5) .nil)))) (.cons (.not (.call 17 (.cons (.var 7) (.cons (.var 9) .nil)))) .nil)))) (.var 7)) (.lst .nil)) (.cons (.ifs (.cmp .gt (.call 34 (.cons (.var 3) (.cons (.var 5) .nil))) (.cst (.int 0))) (.cons (.ret (.cst (.bool false))) .nil) .nil) .nil) .nil) (.cons (.ifs (.bop true (.cons (.call 17 (.cons (.var 5) (.cons (.var 6) .nil))) (.cons (.not (.call 17 (.cons (.var 9) (.cons (.call 54 (.cons (.var 2) (.cons (.var 3) (.cons (.var 6) .nil)))) .nil)))) .nil))) (.cons (.ret (.cst (.bool false))) .nil) .nil) (.cons (.asg 11 (.cmp1 (.rg1 (.bi .len (.var 4))) (.one 10) (.cmp .eq (.idx (.var 8) (.var 10)) (.idx (.var 4) (.var 10))) (.idx (.var 4) (.var 10)))) (.cons (.ifs (.bop false (.cons (.cmp .ne (.call 49 (.cons (.var 2) (.cons (.var 3) .nil))) (.cmp0 (.it (.var 11)) (.one 7) (.tup (.cons (.var 7) (.cons (.call 34 (.cons (.var 3) (.cons (.var 7) .nil))) .nil))))) (.cons (.cmp .ne (.call 50 (.cons (.var 2) (.cons (.var 3) .nil))) (.call 53 (.cons (.var 2) (.cons (.var 3) .nil)))) .nil))) (.cons (.ret (.cst (.bool false))) .nil) .nil) (.cons (.asg 12 (.cmp1 (.rg1 (.bi .len (.var 4))) (.one 10) (.cmp .eq (.idx (.var 8) (.var 10)) (.var 9)) (.idx (.var 4) (.var 10)))) (.cons (.asg 14 (.cmp1 (.it (.var 12)) (.one 7) (.cmp .eq (.cmp1 (.it (.var 12)) (.one 13) (.bop true (.cons (.cmp .ne (.var 13) (.var 7)) (.cons (.call 17 (.cons (.var 13) (.cons (.var 7) .nil))) .nil))) (.var 13)) (.lst .nil)) (.var 7))) (.cons (.ifs (.cmp .ne (.call 51 (.cons (.var 2) (.cons (.var 3) (.cons (.var 5) .nil)))) (.var 14)) (.cons (.ret (.cst (.bool false))) .nil) .nil) (.cons (.ifs (.cmp .ne (.call 52 (.cons (.var 2) (.cons (.var 3) .nil))) (.cmp0 (.it (.var 11)) (.one 15) (.cmp1 (.rg1 (.bi .len (.var 4))) (.one 10) (.cmp .eq (.idx (.var 8) (.var 10)) (.var 15)) (.idx (.var 4) (.var 10))))) (.cons (.ret (.cst (.bool false))) .nil) .nil) (.cons (.asg 16 (.call 11 (.cons (.var 2) (.cons (.call 47 (.cons (.var 2) (.cons (.var 3) (.cons (.var 5) .nil)))) (.cons (.call 47 (.cons (.var 2) (.cons (.var 3) (.cons (.var 6) .nil)))) .nil))))) (.cons (.ret (.bop true (.cons (.cmp .eq (.call 47 (.cons (.var 2) (.cons (.var 3) (.cons (.var 16) .nil)))) (.var 16)) (.cons (.cmp .eq (.bi .sum (.cmp0 (.it (.call 52 (.cons (.var 2) (.cons (.var 3) .nil)))) (.one 7) (.bi .len (.var 7)))) (.bi .len (.var 4))) .nil)))) .nil))))))))))))))))))), false⟩
/-- 56 -/
def d_check_limit : DefI := ⟨"check_limit", ["value"], ["value"], (.cons (.ifs (.not (.call 0 (.cons (.var 0) (.cons (.cst (.int 0)) (.cons (.cst (.int 21)) .nil))))) (.cons (.rse 1) .nil) .nil) .nil), false⟩
/-- 57 -/
def d_often : DefI := ⟨"often", ["things", "baskets", "limit"], ["things", "baskets", "limit", "one"], (.cons (.ret (.cmp1 (.it (.call 4 (.cons (.var 0) .nil))) (.one 3) (.cmp .ge (.call 24 (.cons (.var 1) (.cons (.var 3) .nil))) (.var 2)) (.var 3))) .nil), false⟩
/-- 58 -/
def d_often_sets : DefI := ⟨"often_sets", ["things", "baskets", "limit"], ["things", "baskets", "limit"], (.cons (.exp (.call 20 (.cons (.var 0) (.cons (.var 1) .nil)))) (.cons (.exp (.call 56 (.cons (.var 2) .nil))) (.cons (.ret (.call 57 (.cons (.var 0) (.cons (.var 1) (.cons (.var 2) .nil))))) .nil))), false⟩
/-- 59 -/
def d_greatest_sets : DefI := ⟨"greatest_sets", ["things", "baskets", "limit"], ["things", "baskets", "limit", "found", "one", "other"], (.cons (.exp (.call 20 (.cons (.var 0) (.cons (.var 1) .nil)))) (.cons (.exp (.call 56 (.cons (.var 2) .nil))) (.cons (.asg 3 (.call 57 (.cons (.var 0) (.cons (.var 1) (.cons (.var 2) .nil))))) (.cons (.ret (.cmp1 (.it (.var 3)) (.one 4) (.not (.bi .any (.cmp0 (.it (.var 3)) (.one 5) (.bop true (.cons (.cmp .ne (.var 5) (.var 4)) (.cons (.call 6 (.cons (.var 4) (.cons (.var 5) .nil))) .nil)))))) (.var 4))) .nil)))), false⟩
/-- 60 -/
def d_least_rare_sets : DefI := ⟨"least_rare_sets", ["things", "baskets", "limit"], ["things", "baskets", "limit", "found", "one", "rare", "other"], (.cons (.exp (.call 20 (.cons (.var 0) (.cons (.var 1) .nil)))) (.cons (.exp (.call 56 (.cons (.var 2) .nil))) (.cons (.asg 3 (.call 57 (.cons (.var 0) (.cons (.var 1) (.cons (.var 2) .nil))))) (.cons (.asg 5 (.cmp1 (.it (.call 4 (.cons (.var 0) .nil))) (.one 4) (.cmp .nin (.var 4) (.var 3)) (.var 4))) (.cons (.ret (.cmp1 (.it (.var 5)) (.one 4) (.not (.bi .any (.cmp0 (.it (.var 5)) (.one 6) (.bop true (.cons (.cmp .ne (.var 6) (.var 4)) (.cons (.call 6 (.cons (.var 6) (.cons (.var 4) .nil))) .nil)))))) (.var 4))) .nil))))), false⟩
/-- 61 -/
def d_greatest_limit : DefI := ⟨"greatest_limit", ["things", "baskets", "size"], ["things", "baskets", "size", "one"], (.cons (.exp (.call 20 (.cons (.var 0) (.cons (.var 1) .nil)))) (.cons (.ifs (.not (.call 0 (.cons (.var 2) (.cons (.cst (.int 0)) (.cons (.var 0) .nil))))) (.cons (.rse 1) .nil) .nil) (.cons (.ret (.bi .max (.cmp1 (.it (.call 4 (.cons (.var 0) .nil))) (.one 3) (.cmp .ge (.bi .len (.var 3)) (.var 2)) (.call 24 (.cons (.var 1) (.cons (.var 3) .nil)))))) .nil))), false⟩
/-- 62 -/
def d_numbers_by_limit : DefI := ⟨"numbers_by_limit", ["things", "baskets"], ["things", "baskets", "found", "limit"], (.cons (.exp (.call 20 (.cons (.var 0) (.cons (.var 1) .nil)))) (.cons (.own 2 (.lst .nil)) (.cons (.for_ (.rg2 (.cst (.int 1)) (.bin .add (.bi .len (.var 1)) (.cst (.int 1)))) (.one 3) (.cons (.app 2 (.bi .len (.call 57 (.cons (.var 0) (.cons (.var 1) (.cons (.var 3) .nil)))))) .nil)) (.cons (.shr 2 (.ret (.var 2))) .nil)))), false⟩
/-- 63 -/
def d_law_v5 : DefI := ⟨"law", ["_law_script"], ["_law_script", "_law_draws", "_law_n", "_law_rows", "_law_every", "_law_limit", "_law_one", "_law_near", "_law_other", "_law_top", "_law_rare", "_law_low", "_law_below", "_law_above", "_law_size", "_law_k", "_law_due"], (.cons (.asg 1 (.start (.var 0))) (.cons (.asg 2 (.bin .add (.cst (.int 1)) (.draw (.var 1) (.cst (.int 4))))) (.cons (.asg 3 (.cals 33 (.cons (.var 1) (.cons (.var 2) (.cons (.cst (.int 12)) .nil))))) (.cons (.asg 4 (.call 15 (.cons (.var 2) .nil))) (.cons (.asg 5 (.draw (.var 1) (.pick (.var 1) (.lst (.cons (.cst (.int 3)) (.cons (.cst (.int 6)) (.cons (.cst (.int 22)) .nil))))))) (.cons (.asg 7 (.cmp1 (.it (.var 4)) (.one 6) (.cmp .ge (.call 34 (.cons (.var 3) (.cons (.var 6) .nil))) (.var 5)) (.var 6))) (.cons (.ifs (.cmp .ne (.call 58 (.cons (.var 2) (.cons (.var 3) (.cons (.var 5) .nil)))) (.var 7)) (.cons (.ret (.cst (.bool false))) .nil) .nil) (.cons (.asg 9 (.cmp1 (.it (.var 7)) (.one 6) (.cmp .eq (.cmp1 (.it (.var 7)) (.one 8) (.bop true (.cons (.cmp .ne (.var 8) (.var 6)) (.cons (.call 17 (.cons (.var 6) (.cons (.var 8) .nil))) .nil))) (.var 8)) (.lst .nil)) (.var 6))) (.cons (.asg 10 (.cmp1 (.it (.var 4)) (.one 6) (.cmp .nin (.var 6) (.var 7)) (.var 6))) (.cons (.asg 11 (.cmp1 (.it (.var 10)) (.one 6) (.cmp .eq (.cmp1 (.it (.var 10)) (.one 8) (.bop true (.cons (.cmp .ne (.var 8) (.var 6)) (.cons (.call 17 (.cons (.var 8) (.cons (.var 6) .nil))) .nil))) (.var 8)) (.lst .nil)) (.var 6))) (.cons (.ifs (.bop false (.cons (.cmp .ne (.call 59 (.cons (.var 2) (.cons (.var 3) (.cons (.var 5) .nil)))) (.var 9)) (.cons (.cmp .ne (.call 60 (.cons (.var 2) (.cons (.var 3) (.cons (.var 5) .nil)))) (.var 11)) .nil))) (.cons (.ret (.cst (.bool false))) .nil) .nil) (.cons (.for_ (.it (.var 4)) (.one 6) (.cons (.asg 12 (.cmp .ne (.cmp1 (.it (.var 9)) (.one 8) (.call 17 (.cons (.var 6) (.cons (.var 8) .nil))) (.var 8)) (.lst .nil))) (.cons (.asg 13 (.cmp .ne (.cmp1 (.it (.var 11)) (.one 8) (.call 17 (.cons (.var 8) (.cons (.var 6) .nil))) (.var 8)) (.lst .nil))) (.cons (.ifs (.bop false (.cons (.cmp .eq (.var 12) (.var 13)) (.cons (.cmp .ne (.var 12) (.cmp .in_ (.var 6) (.var 7))) .nil))) (.cons (.ret (.cst (.bool false))) .nil) .nil) .nil)))) (.cons (.for_ (.rg1 (.bin .add (.var 2) (.cst (.int 1)))) (.one 14) (.cons (.ifs (.cmp .ne (.call 61 (.cons (.var 2) (.cons (.var 3) (.cons (.var 14) .nil)))) (.bi .max (.cmp1 (.it (.var 4)) (.one 6) (.cmp .ge (.bi .len (.var 6)) (.var 14)) (.call 34 (.cons (.var 3) (.cons (.var 6) .nil)))))) (.cons (.ret (.cst (.bool false))) .nil) .nil) .nil)) (.cons (.asg 16 (.cmp0 (.rg2 (.cst (.int 1)) (.bin .add (.bi .len (.var 3)) (.cst (.int 1)))) (.one 15) (.bi .len (.cmp1 (.it (.var 4)) (.one 6) (.cmp .ge (.call 34 (.cons (.var 3) (.cons (.var 6) .nil))) (.var 15)) (.var 6))))) (.cons (.ifs (.bop false (.cons (.cmp .ne (.call 62 (.cons (.var 2) (.cons (.var 3) .nil))) (.var 16)) (.cons (.cmp .ne (.call 58 (.cons (.var 2) (.cons (.var 3) (.cons (.cst (.int 0)) .nil)))) (.var 4)) (.cons (.cmp .ne (.call 61 (.cons (.var 2) (.cons (.var 3) (.cons (.cst (.int 0)) .nil)))) (.bi .len (.var 3))) .nil)))) (.cons (.ret (.cst (.bool false))) .nil) .nil) (.cons (.ret (.cmp .eq (.cmp1 (.it (.call 59 (.cons (.var 2) (.cons (.var 3) (.cons (.mx2 true (.cst (.int 1)) (.var 5)) .nil))))) (.one 6) (.cmp .isn (.call 48 (.cons (.var 2) (.cons (.var 3) (.cons (.var 6) .nil)))) (.cst (.bool true))) (.var 6)) (.lst .nil))) .nil)))))))))))))))), false⟩
/-- 64 -/
def d_can_be : DefI := ⟨"can_be", ["things", "counts"], ["things", "counts"], (.cons (.exp (.call 23 (.cons (.var 0) (.cons (.var 1) .nil)))) (.cons (.ret (.cmp .ge (.bi .min (.call 28 (.cons (.var 0) (.cons (.var 1) .nil)))) (.cst (.int 0)))) .nil)), false⟩
/-- 65 -/
def d_first_bad : DefI := ⟨"first_bad", ["things", "counts"], ["things", "counts", "one", "many"], (.cons (.exp (.call 23 (.cons (.var 0) (.cons (.var 1) .nil)))) (.cons (.for_ (.zip (.call 4 (.cons (.var 0) .nil)) (.call 28 (.cons (.var 0) (.cons (.var 1) .nil)))) (.two 2 3) (.cons (.ifs (.cmp .lt (.var 3) (.cst (.int 0))) (.cons (.ret (.tup (.cons (.var 2) (.cons (.var 3) .nil)))) .nil) .nil) .nil)) (.cons (.ret (.cst .none)) .nil))), false⟩
/-- 66 -/
def d_baskets_for : DefI := ⟨"baskets_for", ["things", "counts"], ["things", "counts", "numbers", "found", "one", "many"], (.cons (.exp (.call 23 (.cons (.var 0) (.cons (.var 1) .nil)))) (.cons (.asg 2 (.call 28 (.cons (.var 0) (.cons (.var 1) .nil)))) (.cons (.ifs (.cmp .lt (.bi .min (.var 2)) (.cst (.int 0))) (.cons (.rse 6) .nil) .nil) (.cons (.own 3 (.lst .nil)) (.cons (.for_ (.zip (.call 4 (.cons (.var 0) .nil)) (.var 2)) (.two 4 5) (.cons (.ext 3 (.bin .mul (.lst (.cons (.var 4) .nil)) (.var 5))) .nil)) (.cons (.shr 3 (.ret (.var 3))) .nil)))))), false⟩
/-- 67 -/
def d_checked : DefI := ⟨"checked", ["things", "baskets"], ["things", "baskets"], (.cons (.ifs (.not (.call 19 (.cons (.var 1) (.cons (.var 0) .nil)))) (.cons (.rse 2) .nil) .nil) (.cons (.ret (.var 1)) .nil)), false⟩
/-- 68 -/
def d_with_basket : DefI := ⟨"with_basket", ["things", "baskets", "basket"], ["things", "baskets", "basket"], (.cons (.exp (.call 20 (.cons (.var 0) (.cons (.var 1) .nil)))) (.cons (.exp (.call 3 (.cons (.var 2) (.cons (.var 0) .nil)))) (.cons (.ret (.call 67 (.cons (.var 0) (.cons (.bin .add (.var 1) (.lst (.cons (.var 2) .nil))) .nil)))) .nil))), false⟩
/-- 69 -/
def d_joined : DefI := ⟨"joined", ["things", "baskets", "other"], ["things", "baskets", "other"], (.cons (.exp (.call 20 (.cons (.var 0) (.cons (.var 1) .nil)))) (.cons (.exp (.call 20 (.cons (.var 0) (.cons (.var 2) .nil)))) (.cons (.ret (.call 67 (.cons (.var 0) (.cons (.bin .add (.var 1) (.var 2)) .nil)))) .nil))), false⟩
/-- 70 -/
def d_in_order : DefI := ⟨"in_order", ["things", "baskets"], ["things", "baskets", "size", "one", "basket"], (.cons (.exp (.call 20 (.cons (.var 0) (.cons (.var 1) .nil)))) (.cons (.ret (.cmp0 (.it (.bi .srt (.cmp0 (.it (.var 1)) (.one 4) (.tup (.cons (.bi .len (.var 4)) (.cons (.var 4) .nil)))))) (.two 2 3) (.var 3))) .nil)), false⟩
/-- 71 -/
def d_law_v6 : DefI := ⟨"law", ["_law_script"], ["_law_script", "_law_draws", "_law_n", "_law_rows", "_law_more", "_law_both", "_law_a", "_law_b", "_law_sums", "_law_one", "_law_wide", "_law_k", "_law_row", "_law_counts", "_law_numbers", "_law_j", "_law_other", "_law_inside"], (.cons (.asg 1 (.start (.var 0))) (.cons (.asg 2 (.bin .add (.cst (.int 1)) (.draw (.var 1) (.cst (.int 4))))) (.cons (.par2 3 4 (.cals 33 (.cons (.var 1) (.cons (.var 2) (.cons (.cst (.int 9)) .nil)))) (.cals 33 (.cons (.var 1) (.cons (.var 2) (.cons (.cst (.int 9)) .nil))))) (.cons (.asg 5 (.call 69 (.cons (.var 2) (.cons (.var 3) (.cons (.var 4) .nil))))) (.cons (.asg 8 (.cmp0 (.zip (.call 26 (.cons (.var 2) (.cons (.var 3) .nil))) (.call 26 (.cons (.var 2) (.cons (.var 4) .nil)))) (.two 6 7) (.bin .add (.var 6) (.var 7)))) (.cons (.ifs (.bop false (.cons (.cmp .ne (.call 26 (.cons (.var 2) (.cons (.var 5) .nil))) (.var 8)) (.cons (.cmp .isn (.call 64 (.cons (.var 2) (.cons (.var 8) .nil))) (.cst (.bool true))) (.cons (.cmp .ne (.call 66 (.cons (.var 2) (.cons (.var 8) .nil))) (.call 70 (.cons (.var 2) (.cons (.var 5) .nil)))) .nil)))) (.cons (.ret (.cst (.bool false))) .nil) .nil) (.cons (.ifs (.cmp .ne (.call 29 (.cons (.var 2) (.cons (.var 8) .nil))) (.cmp0 (.zip (.call 27 (.cons (.var 2) (.cons (.var 3) .nil))) (.call 27 (.cons (.var 2) (.cons (.var 4) .nil)))) (.two 6 7) (.bin .add (.var 6) (.var 7)))) (.cons (.ret (.cst (.bool false))) .nil) .nil) (.cons (.asg 9 (.cals 16 (.cons (.var 1) (.cons (.var 2) .nil)))) (.cons (.asg 10 (.call 26 (.cons (.var 2) (.cons (.call 68 (.cons (.var 2) (.cons (.var 3) (.cons (.var 9) .nil)))) .nil)))) (.cons (.for_ (.enu (.call 5 (.cons (.var 2) .nil))) (.two 11 12) (.cons (.ifs (.cmp .ne (.bin .sub (.idx (.var 10) (.var 11)) (.idx (.call 26 (.cons (.var 2) (.cons (.var 3) .nil))) (.var 11))) (.ite (.call 7 (.cons (.var 2) (.cons (.var 12) (.cons (.var 9) .nil)))) (.cst (.int 1)) (.cst (.int 0)))) (.cons (.ret (.cst (.bool false))) .nil) .nil) .nil)) (.cons (.ifs (.cmp .ne (.cmp0 (.zip (.call 32 (.cons (.var 2) (.cons (.var 3) .nil))) (.call 32 (.cons (.var 2) (.cons (.var 4) .nil)))) (.two 6 7) (.bin .add (.var 6) (.var 7))) (.call 32 (.cons (.var 2) (.cons (.var 5) .nil)))) (.cons (.ret (.cst (.bool false))) .nil) .nil) (.cons (.asg 13 (.cals 37 (.cons (.var 1) (.cons (.var 2) .nil)))) (.cons (.asg 14 (.call 29 (.cons (.var 2) (.cons (.var 13) .nil)))) (.cons (.ifs (.bop false (.cons (.cmp .ne (.bi .sum (.var 14)) (.idx (.var 13) (.cst (.int 0)))) (.cons (.cmp .ne (.cmp .is_ (.call 65 (.cons (.var 2) (.cons (.var 13) .nil))) (.cst .none)) (.cmp .ge (.bi .min (.var 14)) (.cst (.int 0)))) .nil))) (.cons (.ret (.cst (.bool false))) .nil) .nil) (.cons (.ifs (.bop true (.cons (.cmp .is_ (.call 64 (.cons (.var 2) (.cons (.var 13) .nil))) (.cst (.bool true))) (.cons (.cmp .ne (.call 30 (.cons (.var 2) (.cons (.var 14) .nil))) (.var 13)) .nil))) (.cons (.ret (.cst (.bool false))) .nil) .nil) (.cons (.for_ (.enu (.call 5 (.cons (.var 2) .nil))) (.two 11 12) (.cons (.asg 17 (.cmp1 (.enu (.call 5 (.cons (.var 2) .nil))) (.two 15 16) (.call 7 (.cons (.var 2) (.cons (.var 12) (.cons (.var 16) .nil)))) (.var 15))) (.cons (.ifs (.cmp .ne (.bi .sum (.cmp0 (.it (.var 17)) (.one 15) (.idx (.var 14) (.var 15)))) (.idx (.var 13) (.var 11))) (.cons (.ret (.cst (.bool false))) .nil) .nil) .nil))) (.cons (.ret (.cmp .eq (.call 11 (.cons (.var 2) (.cons (.call 47 (.cons (.var 2) (.cons (.var 3) (.cons (.var 9) .nil)))) (.cons (.call 47 (.cons (.var 2) (.cons (.var 4) (.cons (.var 9) .nil)))) .nil)))) (.call 47 (.cons (.var 2) (.cons (.var 5) (.cons (.var 9) .nil)))))) .nil))))))))))))))))), false⟩
/-- 72 -/
def d_law_v7 : DefI := ⟨"law", ["_law_script"], ["_law_script", "_law_draws", "_law_n", "_law_rows", "_law_counts", "_law_every", "_law_one", "_law_whole", "_law_k", "_law_part", "_law_some", "_law_singles", "_law_pairs", "_law_rest", "_law_first", "_law_last", "_law_alike"], (.cons (.asg 1 (.start (.var 0))) (.cons (.asg 2 (.bin .add (.cst (.int 1)) (.draw (.var 1) (.cst (.int 4))))) (.cons (.asg 3 (.cals 33 (.cons (.var 1) (.cons (.var 2) (.cons (.cst (.int 14)) .nil))))) (.cons (.asg 4 (.call 26 (.cons (.var 2) (.cons (.var 3) .nil)))) (.cons (.asg 5 (.call 5 (.cons (.var 2) .nil))) (.cons (.for_ (.it (.var 5)) (.one 6) (.cons (.asg 7 (.cst (.int 0))) (.cons (.for_ (.enu (.var 5)) (.two 8 9) (.cons (.ifs (.call 7 (.cons (.var 2) (.cons (.var 9) (.cons (.var 6) .nil)))) (.cons (.asg 7 (.bin .add (.var 7) (.ite (.cmp .eq (.bin .mod (.bi .len (.var 9)) (.cst (.int 2))) (.cst (.int 0))) (.idx (.var 4) (.var 8)) (.bin .sub (.cst (.int 0)) (.idx (.var 4) (.var 8)))))) .nil) .nil) .nil)) (.cons (.ifs (.cmp .ne (.call 31 (.cons (.var 2) (.cons (.var 3) (.cons (.tup .nil) (.cons (.var 6) .nil))))) (.var 7)) (.cons (.ret (.cst (.bool false))) .nil) .nil) (.cons (.asg 10 (.bin .sub (.bi .len (.var 3)) (.var 7))) (.cons (.asg 11 (.bi .sum (.cmp1 (.rg1 (.bi .len (.var 5))) (.one 8) (.bop true (.cons (.cmp .eq (.bi .len (.idx (.var 5) (.var 8))) (.cst (.int 1))) (.cons (.call 7 (.cons (.var 2) (.cons (.idx (.var 5) (.var 8)) (.cons (.var 6) .nil)))) .nil))) (.idx (.var 4) (.var 8))))) (.cons (.asg 12 (.bi .sum (.cmp1 (.rg1 (.bi .len (.var 5))) (.one 8) (.bop true (.cons (.cmp .eq (.bi .len (.idx (.var 5) (.var 8))) (.cst (.int 2))) (.cons (.call 7 (.cons (.var 2) (.cons (.idx (.var 5) (.var 8)) (.cons (.var 6) .nil)))) .nil))) (.idx (.var 4) (.var 8))))) (.cons (.ifs (.not (.chn .le .le (.bin .sub (.var 11) (.var 12)) (.var 10) (.var 11))) (.cons (.ret (.cst (.bool false))) .nil) .nil) (.cons (.asg 13 (.call 12 (.cons (.var 2) (.cons (.trg (.var 2)) (.cons (.var 6) .nil))))) (.cons (.ifs (.bop false (.cons (.cmp .ne (.call 31 (.cons (.var 2) (.cons (.var 3) (.cons (.var 6) (.cons (.var 13) .nil))))) (.cnt (.var 3) (.var 6))) (.cons (.cmp .ne (.idx (.call 27 (.cons (.var 2) (.cons (.var 3) .nil))) (.ind (.var 5) (.var 6))) (.cnt (.var 3) (.var 6))) .nil))) (.cons (.ret (.cst (.bool false))) .nil) .nil) .nil)))))))))) (.cons (.par2 14 15 (.cals 16 (.cons (.var 1) (.cons (.var 2) .nil))) (.cals 16 (.cons (.var 1) (.cons (.var 2) .nil)))) (.cons (.asg 16 (.call 11 (.cons (.var 2) (.cons (.var 14) (.cons (.var 15) .nil))))) (.cons (.ifs (.bop true (.cons (.cmp .ne (.var 16) (.tup .nil)) (.cons (.cmp .ne (.call 31 (.cons (.var 2) (.cons (.var 3) (.cons (.var 14) (.cons (.var 15) .nil))))) (.cst (.int 0))) .nil))) (.cons (.ret (.cst (.bool false))) .nil) .nil) (.cons (.ifs (.bop true (.cons (.cmp .eq (.var 16) (.tup .nil)) (.cons (.cmp .gt (.call 31 (.cons (.var 2) (.cons (.var 3) (.cons (.var 14) (.cons (.var 15) .nil))))) (.call 25 (.cons (.var 2) (.cons (.var 3) (.cons (.var 14) .nil))))) .nil))) (.cons (.ret (.cst (.bool false))) .nil) .nil) (.cons (.ret (.bop true (.cons (.cmp .eq (.call 31 (.cons (.var 2) (.cons (.var 3) (.cons (.var 14) (.cons (.tup .nil) .nil))))) (.call 25 (.cons (.var 2) (.cons (.var 3) (.cons (.var 14) .nil))))) (.cons (.cmp .eq (.bi .sum (.slc (.call 32 (.cons (.var 2) (.cons (.var 3) .nil))) (.some (.cst (.int 1))) .none)) (.bin .sub (.bi .len (.var 3)) (.call 31 (.cons (.var 2) (.cons (.var 3) (.cons (.tup .nil) (.cons (.trg (.var 2)) .nil))))))) .nil)))) .nil))))))))))), false⟩
/-- 73 -/
def d_check_names : DefI := ⟨"check_names", ["things", "names"], ["things", "names", "name"], (.cons (.ifs (.bop false (.cons (.not (.isi (.var 1) .tup)) (.cons (.not (.bi .all (.cmp0 (.it (.var 1)) (.one 2) (.call 0 (.cons (.var 2) (.cons (.cst (.int 0)) (.cons (.bin .sub (.var 0) (.cst (.int 1))) .nil))))))) .nil))) (.cons (.rse 1) .nil) .nil) (.cons (.ifs (.cmp .ne (.bi .srt (.var 1)) (.lrg (.var 0))) (.cons (.rse 1) .nil) .nil) .nil)), false⟩
/-- 74 -/
def d_renamed : DefI := ⟨"renamed", ["things", "baskets", "names"], ["things", "baskets", "names", "thing", "basket"], (.cons (.exp (.call 20 (.cons (.var 0) (.cons (.var 1) .nil)))) (.cons (.exp (.call 73 (.cons (.var 0) (.cons (.var 2) .nil)))) (.cons (.ret (.cmp0 (.it (.var 1)) (.one 4) (.bi .tup (.bi .srt (.cmp0 (.it (.var 4)) (.one 3) (.idx (.var 2) (.var 3))))))) .nil))), false⟩
/-- 75 -/
def d_law_v8 : DefI := ⟨"law", ["_law_script"], ["_law_script", "_law_draws", "_law_n", "_law_rows", "_law_last", "_law_limit", "_law_told", "_law_one", "_law_top", "_law_other", "_law_size", "_law_counts", "_law_names", "_law_called", "_law_thing", "_law_due"], (.cons (.asg 1 (.start (.var 0))) (.cons (.asg 2 (.bin .add (.cst (.int 1)) (.draw (.var 1) (.cst (.int 4))))) (.cons (.asg 3 (.cals 33 (.cons (.var 1) (.cons (.var 2) (.cons (.cst (.int 12)) .nil))))) (.cons (.ifs (.bop false (.cons (.cmp .ne (.bi .sum (.call 62 (.cons (.var 2) (.cons (.var 3) .nil)))) (.bi .sum (.call 26 (.cons (.var 2) (.cons (.var 3) .nil))))) (.cons (.cmp .ne (.bi .len (.call 62 (.cons (.var 2) (.cons (.var 3) .nil)))) (.bi .len (.var 3))) .nil))) (.cons (.ret (.cst (.bool false))) .nil) .nil) (.cons (.asg 4 (.cst .none)) (.cons (.for_ (.rg1 (.bin .add (.bi .len (.var 3)) (.cst (.int 2)))) (.one 5) (.cons (.asg 6 (.call 58 (.cons (.var 2) (.cons (.var 3) (.cons (.var 5) .nil))))) (.cons (.ifs (.bop true (.cons (.cmp .isn (.var 4) (.cst .none)) (.cons (.cmp .ne (.cmp1 (.it (.var 6)) (.one 7) (.cmp .nin (.var 7) (.var 4)) (.var 7)) (.lst .nil)) .nil))) (.cons (.ret (.cst (.bool false))) .nil) .nil) (.cons (.asg 4 (.var 6)) (.cons (.asg 8 (.call 59 (.cons (.var 2) (.cons (.var 3) (.cons (.var 5) .nil))))) (.cons (.ifs (.cmp .ne (.cmp1 (.it (.var 6)) (.one 7) (.cmp .eq (.cmp1 (.it (.var 8)) (.one 9) (.call 7 (.cons (.var 2) (.cons (.var 7) (.cons (.var 9) .nil)))) (.var 9)) (.lst .nil)) (.var 7)) (.lst .nil)) (.cons (.ret (.cst (.bool false))) .nil) .nil) (.cons (.ifs (.cmp .ne (.cmp1 (.it (.call 60 (.cons (.var 2) (.cons (.var 3) (.cons (.var 5) .nil))))) (.one 7) (.cmp .ge (.call 25 (.cons (.var 2) (.cons (.var 3) (.cons (.var 7) .nil)))) (.var 5)) (.var 7)) (.lst .nil)) (.cons (.ret (.cst (.bool false))) .nil) .nil) (.cons (.ifs (.bop true (.cons (.cmp .gt (.var 5) (.cst (.int 0))) (.cons (.cmp .ne (.cmp1 (.it (.var 8)) (.one 7) (.cmp .isn (.call 48 (.cons (.var 2) (.cons (.var 3) (.cons (.var 7) .nil)))) (.cst (.bool true))) (.var 7)) (.lst .nil)) .nil))) (.cons (.ret (.cst (.bool false))) .nil) .nil) .nil)))))))) (.cons (.ifs (.bop false (.cons (.cmp .ne (.var 4) (.lst .nil)) (.cons (.cmp .ne (.call 58 (.cons (.var 2) (.cons (.var 3) (.cons (.cst (.int 21)) .nil)))) (.lst .nil)) .nil))) (.cons (.ret (.cst (.bool false))) .nil) .nil) (.cons (.asg 11 (.cmp0 (.rg1 (.bin .add (.var 2) (.cst (.int 1)))) (.one 10) (.call 61 (.cons (.var 2) (.cons (.var 3) (.cons (.var 10) .nil)))))) (.cons (.ifs (.bop false (.cons (.cmp .ne (.var 11) (.rev (.bi .srt (.var 11)))) (.cons (.cmp .ne (.idx (.var 11) (.cst (.int 0))) (.bi .len (.var 3))) .nil))) (.cons (.ret (.cst (.bool false))) .nil) .nil) (.cons (.asg 12 (.rev (.trg (.var 2)))) (.cons (.asg 13 (.call 74 (.cons (.var 2) (.cons (.var 3) (.cons (.var 12) .nil))))) (.cons (.asg 5 (.draw (.var 1) (.cst (.int 6)))) (.cons (.asg 15 (.bi .srt (.cmp0 (.it (.call 59 (.cons (.var 2) (.cons (.var 3) (.cons (.var 5) .nil))))) (.one 7) (.bi .tup (.bi .srt (.cmp0 (.it (.var 7)) (.one 14) (.idx (.var 12) (.var 14)))))))) (.cons (.ret (.bop true (.cons (.cmp .eq (.bi .srt (.call 59 (.cons (.var 2) (.cons (.var 13) (.cons (.var 5) .nil))))) (.var 15)) (.cons (.cmp .eq (.call 62 (.cons (.var 2) (.cons (.var 13) .nil))) (.call 62 (.cons (.var 2) (.cons (.var 3) .nil)))) .nil)))) .nil)))))))))))))), false⟩
/-- 76 -/
def d__law_error : DefI := ⟨"_law_error", ["_law_caught"], ["_law_caught", "_law_kinds"], (.cons (.asg 1 (.lst (.cons (.isi (.var 0) (.exc 1)) (.cons (.isi (.var 0) (.exc 2)) (.cons (.isi (.var 0) (.exc 3)) .nil))))) (.cons (.asg 1 (.bin .add (.var 1) (.lst (.cons (.isi (.var 0) (.exc 4)) (.cons (.isi (.var 0) (.exc 5)) (.cons (.isi (.var 0) (.exc 6)) .nil)))))) (.cons (.ifs (.bop false (.cons (.cmp .ne (.cnt (.var 1) (.cst (.bool true))) (.cst (.int 1))) (.cons (.not (.isi (.var 0) (.exc 0))) (.cons (.not (.isi (.var 0) .ve)) .nil)))) (.cons (.ret (.cst (.str "odd"))) .nil) .nil) (.cons (.ret (.idx (.lst (.cons (.cst (.str "number")) (.cons (.cst (.str "baskets")) (.cons (.cst (.str "set")) (.cons (.cst (.str "table")) (.cons (.cst (.str "text")) (.cons (.cst (.str "none")) .nil))))))) (.ind (.var 1) (.cst (.bool true))))) .nil)))), false⟩
/-- 77 -/
def d_missing_range : DefI := ⟨"missing_range", ["things", "counts", "one"], ["things", "counts", "one", "place", "zero", "low", "high", "other", "many"], (.cons (.exp (.call 23 (.cons (.var 0) (.cons (.var 1) .nil)))) (.cons (.exp (.call 3 (.cons (.var 2) (.cons (.var 0) .nil)))) (.cons (.asg 3 (.ind (.call 4 (.cons (.var 0) .nil)) (.var 2))) (.cons (.own 4 (.bi .list (.var 1))) (.cons (.put 4 (.var 3) (.cst (.int 0))) (.cons (.par2 5 6 (.cst (.int 0)) (.cst (.int 20))) (.cons (.shr 4 (.for_ (.zip (.call 4 (.cons (.var 0) .nil)) (.call 28 (.cons (.var 0) (.cons (.var 4) .nil)))) (.two 7 8) (.cons (.ifs (.call 6 (.cons (.var 7) (.cons (.var 2) .nil))) (.cons (.ifs (.cmp .eq (.bin .mod (.bin .sub (.bi .len (.var 2)) (.bi .len (.var 7))) (.cst (.int 2))) (.cst (.int 0))) (.cons (.asg 5 (.mx2 true (.var 5) (.neg (.var 8)))) .nil) (.cons (.asg 6 (.mx2 false (.var 6) (.var 8))) .nil)) .nil) (.cons (.ifs (.cmp .lt (.var 8) (.cst (.int 0))) (.cons (.rse 6) .nil) .nil) .nil)) .nil))) (.cons (.ifs (.cmp .gt (.var 5) (.var 6)) (.cons (.rse 6) .nil) .nil) (.cons (.ret (.tup (.cons (.var 5) (.cons (.var 6) .nil)))) .nil))))))))), false⟩
/-- 78 -/
def d_divisor : DefI := ⟨"divisor", ["one", "other"], ["one", "other"], (.cons (.whl (.cmp .ne (.var 1) (.cst (.int 0))) (.cons (.par2 0 1 (.var 1) (.bin .mod (.var 0) (.var 1))) .nil)) (.cons (.ret (.var 0)) .nil)), false⟩
/-- 79 -/
def d_check_pair : DefI := ⟨"check_pair", ["things", "baskets", "one", "other"], ["things", "baskets", "one", "other"], (.cons (.exp (.call 20 (.cons (.var 0) (.cons (.var 1) .nil)))) (.cons (.exp (.call 3 (.cons (.var 2) (.cons (.var 0) .nil)))) (.cons (.exp (.call 3 (.cons (.var 3) (.cons (.var 0) .nil)))) .nil))), false⟩
/-- 80 -/
def d_share : DefI := ⟨"share", ["things", "baskets", "one", "other"], ["things", "baskets", "one", "other", "whole", "part"], (.cons (.exp (.call 79 (.cons (.var 0) (.cons (.var 1) (.cons (.var 2) (.cons (.var 3) .nil)))))) (.cons (.asg 4 (.call 24 (.cons (.var 1) (.cons (.var 2) .nil)))) (.cons (.ifs (.cmp .eq (.var 4) (.cst (.int 0))) (.cons (.rse 6) .nil) .nil) (.cons (.asg 5 (.call 24 (.cons (.var 1) (.cons (.call 9 (.cons (.var 2) (.cons (.var 3) .nil))) .nil)))) (.cons (.ret (.tup (.cons (.bin .fdv (.var 5) (.call 78 (.cons (.var 4) (.cons (.var 5) .nil)))) (.cons (.bin .fdv (.var 4) (.call 78 (.cons (.var 4) (.cons (.var 5) .nil)))) .nil)))) .nil))))), false⟩
/-- 81 -/
def d_always : DefI := ⟨"always", ["things", "baskets", "one", "other"], ["things", "baskets", "one", "other"], (.cons (.exp (.call 79 (.cons (.var 0) (.cons (.var 1) (.cons (.var 2) (.cons (.var 3) .nil)))))) (.cons (.ret (.call 6 (.cons (.var 3) (.cons (.call 46 (.cons (.var 0) (.cons (.var 1) (.cons (.var 2) .nil)))) .nil)))) .nil)), false⟩
/-- 82 -/
def d_excess : DefI := ⟨"excess", ["things", "baskets", "one", "other"], ["things", "baskets", "one", "other", "whole"], (.cons (.exp (.call 79 (.cons (.var 0) (.cons (.var 1) (.cons (.var 2) (.cons (.var 3) .nil)))))) (.cons (.asg 4 (.bin .mul (.bi .len (.var 1)) (.call 24 (.cons (.var 1) (.cons (.call 9 (.cons (.var 2) (.cons (.var 3) .nil))) .nil))))) (.cons (.ret (.bin .sub (.var 4) (.bin .mul (.call 24 (.cons (.var 1) (.cons (.var 2) .nil))) (.call 24 (.cons (.var 1) (.cons (.var 3) .nil)))))) .nil))), false⟩
/-- 83 -/
def d_against : DefI := ⟨"against", ["things", "baskets", "one", "other"], ["things", "baskets", "one", "other", "k", "basket"], (.cons (.exp (.call 79 (.cons (.var 0) (.cons (.var 1) (.cons (.var 2) (.cons (.var 3) .nil)))))) (.cons (.ret (.cmp1 (.enu (.var 1)) (.two 4 5) (.bop true (.cons (.call 6 (.cons (.var 2) (.cons (.var 5) .nil))) (.cons (.not (.call 6 (.cons (.var 3) (.cons (.var 5) .nil)))) .nil))) (.var 4))) .nil)), false⟩
/-- 84 -/
def d_single_rules : DefI := ⟨"single_rules", ["things", "baskets"], ["things", "baskets", "found", "one", "thing", "part", "parts"], (.cons (.exp (.call 20 (.cons (.var 0) (.cons (.var 1) .nil)))) (.cons (.own 2 (.lst .nil)) (.cons (.for_ (.it (.call 4 (.cons (.var 0) .nil))) (.one 3) (.cons (.for_ (.rg1 (.var 0)) (.one 4) (.cons (.ifs (.bop true (.cons (.cmp .nin (.var 4) (.var 3)) (.cons (.cmp .in_ (.var 4) (.call 46 (.cons (.var 0) (.cons (.var 1) (.cons (.var 3) .nil))))) .nil))) (.cons (.asg 6 (.cmp1 (.it (.call 4 (.cons (.var 0) .nil))) (.one 5) (.bop true (.cons (.cmp .ne (.var 5) (.var 3)) (.cons (.call 6 (.cons (.var 5) (.cons (.var 3) .nil))) .nil))) (.var 5))) (.cons (.ifs (.not (.bi .any (.cmp0 (.it (.var 6)) (.one 5) (.cmp .in_ (.var 4) (.call 46 (.cons (.var 0) (.cons (.var 1) (.cons (.var 5) .nil)))))))) (.cons (.app 2 (.tup (.cons (.var 3) (.cons (.var 4) .nil)))) .nil) .nil) .nil)) .nil) .nil)) .nil)) (.cons (.shr 2 (.ret (.var 2))) .nil)))), false⟩
/-- 85 -/
def d__law_lowest : DefI := ⟨"_law_lowest", ["_law_top", "_law_under"], ["_law_top", "_law_under", "_law_one", "_law_other"], (.cons (.par2 2 3 (.var 0) (.var 1)) (.cons (.whl (.cmp .ne (.var 3) (.cst (.int 0))) (.cons (.par2 2 3 (.var 3) (.bin .mod (.var 2) (.var 3))) .nil)) (.cons (.ret (.tup (.cons (.bin .fdv (.var 0) (.var 2)) (.cons (.bin .fdv (.var 1) (.var 2)) .nil)))) .nil))), false⟩
/-- 86 -/
def d_without_basket : DefI := ⟨"without_basket", ["things", "baskets", "basket"], ["things", "baskets", "basket", "place"], (.cons (.exp (.call 20 (.cons (.var 0) (.cons (.var 1) .nil)))) (.cons (.exp (.call 3 (.cons (.var 2) (.cons (.var 0) .nil)))) (.cons (.ifs (.cmp .nin (.var 2) (.var 1)) (.cons (.rse 6) .nil) .nil) (.cons (.asg 3 (.ind (.var 1) (.var 2))) (.cons (.ret (.bin .add (.slc (.var 1) .none (.some (.var 3))) (.slc (.var 1) (.some (.bin .add (.var 3) (.cst (.int 1)))) .none))) .nil))))), false⟩
/-- 87 -/
def d_without_thing : DefI := ⟨"without_thing", ["things", "baskets", "thing"], ["things", "baskets", "thing", "found", "basket", "one"], (.cons (.exp (.call 20 (.cons (.var 0) (.cons (.var 1) .nil)))) (.cons (.ifs (.cmp .eq (.var 0) (.cst (.int 1))) (.cons (.rse 1) .nil) .nil) (.cons (.ifs (.not (.call 0 (.cons (.var 2) (.cons (.cst (.int 0)) (.cons (.bin .sub (.var 0) (.cst (.int 1))) .nil))))) (.cons (.rse 1) .nil) .nil) (.cons (.own 3 (.lst .nil)) (.cons (.for_ (.it (.var 1)) (.one 4) (.cons (.app 3 (.bi .tup (.cmp1 (.it (.var 4)) (.one 5) (.cmp .ne (.var 5) (.var 2)) (.ite (.cmp .gt (.var 5) (.var 2)) (.bin .sub (.var 5) (.cst (.int 1))) (.var 5))))) .nil)) (.cons (.shr 3 (.ret (.var 3))) .nil)))))), false⟩
/-- 88 -/
def d_turned_over : DefI := ⟨"turned_over", ["things", "baskets"], ["things", "baskets", "thing", "basket"], (.cons (.exp (.call 20 (.cons (.var 0) (.cons (.var 1) .nil)))) (.cons (.ret (.cmp0 (.it (.var 1)) (.one 3) (.bi .tup (.cmp1 (.rg1 (.var 0)) (.one 2) (.cmp .nin (.var 2) (.var 3)) (.var 2))))) .nil)), false⟩
/-- 89 -/
def d_limited : DefI := ⟨"limited", ["things", "baskets", "one"], ["things", "baskets", "one", "basket", "thing"], (.cons (.exp (.call 20 (.cons (.var 0) (.cons (.var 1) .nil)))) (.cons (.exp (.call 3 (.cons (.var 2) (.cons (.var 0) .nil)))) (.cons (.ret (.cmp1 (.it (.var 1)) (.one 3) (.bi .all (.cmp0 (.it (.var 2)) (.one 4) (.cmp .in_ (.var 4) (.var 3)))) (.var 3))) .nil))), false⟩
/-- 90 -/
def d__law_over : DefI := ⟨"_law_over", ["_law_draws", "_law_n", "_law_rows", "_law_one", "_law_every"], ["_law_draws", "_law_n", "_law_rows", "_law_one", "_law_every", "_law_over_here", "_law_thing", "_law_row", "_law_due", "_law_gone", "_law_few", "_law_left"], (.cons (.asg 5 (.call 88 (.cons (.var 1) (.cons (.var 2) .nil)))) (.cons (.ifs (.cmp .ne (.var 5) (.cmp0 (.it (.var 2)) (.one 7) (.bi .tup (.cmp1 (.rg1 (.var 1)) (.one 6) (.cmp .nin (.var 6) (.var 7)) (.var 6))))) (.cons (.ret (.cst (.bool false))) .nil) .nil) (.cons (.ifs (.bop false (.cons (.cmp .ne (.call 25 (.cons (.var 1) (.cons (.var 5) (.cons (.var 3) .nil)))) (.call 31 (.cons (.var 1) (.cons (.var 2) (.cons (.tup .nil) (.cons (.var 3) .nil)))))) (.cons (.cmp .ne (.call 32 (.cons (.var 1) (.cons (.var 5) .nil))) (.rev (.call 32 (.cons (.var 1) (.cons (.var 2) .nil))))) .nil))) (.cons (.ret (.cst (.bool false))) .nil) .nil) (.cons (.asg 8 (.lst .nil)) (.cons (.for_ (.it (.var 4)) (.one 7) (.cons (.asg 8 (.bin .add (.var 8) (.bin .mul (.lst (.cons (.var 7) .nil)) (.cnt (.var 2) (.var 7))))) .nil)) (.cons (.ifs (.cmp .ne (.call 70 (.cons (.var 1) (.cons (.var 2) .nil))) (.var 8)) (.cons (.ret (.cst (.bool false))) .nil) .nil) (.cons (.ifs (.cmp .eq (.var 1) (.cst (.int 1))) (.cons (.ret (.cst (.bool true))) .nil) .nil) (.cons (.asg 9 (.draw (.var 0) (.var 1))) (.cons (.asg 10 (.call 87 (.cons (.var 1) (.cons (.var 2) (.cons (.var 9) .nil))))) (.cons (.asg 8 (.cmp0 (.it (.var 2)) (.one 7) (.bi .tup (.cmp1 (.it (.var 7)) (.one 6) (.cmp .ne (.var 6) (.var 9)) (.bin .sub (.var 6) (.ite (.cmp .gt (.var 6) (.var 9)) (.cst (.int 1)) (.cst (.int 0)))))))) (.cons (.asg 11 (.cmp1 (.it (.var 4)) (.one 7) (.cmp .nin (.var 9) (.var 7)) (.var 7))) (.cons (.ret (.bop true (.cons (.cmp .eq (.var 10) (.var 8)) (.cons (.cmp .eq (.call 26 (.cons (.bin .sub (.var 1) (.cst (.int 1))) (.cons (.var 10) .nil))) (.cmp0 (.it (.var 11)) (.one 7) (.call 25 (.cons (.var 1) (.cons (.var 2) (.cons (.var 7) .nil)))))) .nil)))) .nil)))))))))))), false⟩
/-- 91 -/
def d_check_kind : DefI := ⟨"check_kind", ["things", "whole"], ["things", "whole"], (.cons (.exp (.call 1 (.cons (.var 0) .nil))) (.cons (.ifs (.not (.call 0 (.cons (.var 1) (.cons (.cst (.int 0)) (.cons (.cst (.int 20)) .nil))))) (.cons (.rse 1) .nil) .nil) .nil)), false⟩
/-- 92 -/
def d_count_tables : DefI := ⟨"count_tables", ["things", "whole"], ["things", "whole", "parts", "found", "k"], (.cons (.exp (.call 91 (.cons (.var 0) (.cons (.var 1) .nil)))) (.cons (.asg 2 (.call 21 (.cons (.var 0) .nil))) (.cons (.asg 3 (.cst (.int 1))) (.cons (.for_ (.rg2 (.cst (.int 1)) (.var 2)) (.one 4) (.cons (.asg 3 (.bin .fdv (.bin .mul (.var 3) (.bin .add (.var 1) (.var 4))) (.var 4))) .nil)) (.cons (.ret (.var 3)) .nil))))), false⟩
/-- 93 -/
def d_check_small : DefI := ⟨"check_small", ["things", "whole"], ["things", "whole"], (.cons (.exp (.call 91 (.cons (.var 0) (.cons (.var 1) .nil)))) (.cons (.ifs (.bop false (.cons (.cmp .gt (.var 0) (.cst (.int 2))) (.cons (.cmp .gt (.var 1) (.cst (.int 4))) .nil))) (.cons (.rse 1) .nil) .nil) .nil)), false⟩
/-- 94 -/
def d_tables_of : DefI := ⟨"tables_of", ["things", "whole"], ["things", "whole", "numbers"], (.cons (.ret (.bi .srt (.cmp0 (.it (.call 40 (.cons (.var 1) (.cons (.call 21 (.cons (.var 0) .nil)) .nil)))) (.one 2) (.call 30 (.cons (.var 0) (.cons (.var 2) .nil)))))) .nil), false⟩
/-- 95 -/
def d_all_tables : DefI := ⟨"all_tables", ["things", "whole"], ["things", "whole"], (.cons (.exp (.call 93 (.cons (.var 0) (.cons (.var 1) .nil)))) (.cons (.ret (.call 94 (.cons (.var 0) (.cons (.var 1) .nil)))) .nil)), false⟩
/-- 96 -/
def d_table_at : DefI := ⟨"table_at", ["things", "whole", "rank"], ["things", "whole", "rank", "found"], (.cons (.exp (.call 93 (.cons (.var 0) (.cons (.var 1) .nil)))) (.cons (.asg 3 (.call 94 (.cons (.var 0) (.cons (.var 1) .nil)))) (.cons (.ifs (.not (.call 0 (.cons (.var 2) (.cons (.cst (.int 0)) (.cons (.bin .sub (.bi .len (.var 3)) (.cst (.int 1))) .nil))))) (.cons (.rse 1) .nil) .nil) (.cons (.ret (.idx (.var 3) (.var 2))) .nil)))), false⟩
/-- 97 -/
def d_rank_of_table : DefI := ⟨"rank_of_table", ["things", "counts"], ["things", "counts"], (.cons (.exp (.call 23 (.cons (.var 0) (.cons (.var 1) .nil)))) (.cons (.exp (.call 93 (.cons (.var 0) (.cons (.idx (.var 1) (.cst (.int 0))) .nil)))) (.cons (.ifs (.cmp .lt (.bi .min (.call 28 (.cons (.var 0) (.cons (.var 1) .nil)))) (.cst (.int 0))) (.cons (.rse 6) .nil) .nil) (.cons (.ret (.ind (.call 94 (.cons (.var 0) (.cons (.idx (.var 1) (.cst (.int 0))) .nil))) (.var 1))) .nil)))), false⟩
/-- 98 -/
def d_nearest : DefI := ⟨"nearest", ["things", "counts"], ["things", "counts", "found", "a", "b", "one", "gaps"], (.cons (.exp (.call 23 (.cons (.var 0) (.cons (.var 1) .nil)))) (.cons (.exp (.call 93 (.cons (.var 0) (.cons (.idx (.var 1) (.cst (.int 0))) .nil)))) (.cons (.asg 2 (.call 94 (.cons (.var 0) (.cons (.idx (.var 1) (.cst (.int 0))) .nil)))) (.cons (.asg 6 (.cmp0 (.it (.var 2)) (.one 5) (.bi .sum (.cmp0 (.zip (.var 5) (.var 1)) (.two 3 4) (.bi .abs (.bin .sub (.var 3) (.var 4))))))) (.cons (.ret (.idx (.var 2) (.ind (.var 6) (.bi .min (.var 6))))) .nil))))), false⟩
/-- 99 -/
def d__wall : DefI := ⟨"_wall", ["k"], ["k"], (.cons (.whl (.cst (.bool true)) (.cons .pas .nil)) .nil), false⟩
/-- 100 -/
def d__law_due : DefI := ⟨"_law_due", ["_law_k"], ["_law_k"], (.cons (.ret (.ite (.cmp .in_ (.var 0) (.tup (.cons (.cst (.int 6)) (.cons (.cst (.int 7)) .nil)))) (.cst (.str "baskets")) (.cst (.str "set")))) .nil), false⟩
/-- 101 -/
def d_parsed_set : DefI := ⟨"parsed_set", ["word", "things"], ["word", "things", "sign", "found"], (.cons (.ifs (.cmp .eq (.var 0) (.cst (.str "-"))) (.cons (.ret (.tup .nil)) .nil) .nil) (.cons (.ifs (.bop false (.cons (.cmp .eq (.var 0) (.cst (.str ""))) (.cons (.not (.bi .all (.cmp0 (.it (.var 0)) (.one 2) (.cmp .in_ (.var 2) (.glo "DIGITS"))))) .nil))) (.cons (.rse 5) .nil) .nil) (.cons (.asg 3 (.bi .tup (.cmp0 (.it (.var 0)) (.one 2) (.bi .int (.var 2))))) (.cons (.ifs (.not (.call 2 (.cons (.var 3) (.cons (.var 1) .nil)))) (.cons (.rse 5) .nil) .nil) (.cons (.ret (.var 3)) .nil))))), false⟩
/-- 102 -/
def d_check_text : DefI := ⟨"check_text", ["text"], ["text"], (.cons (.ifs (.not (.isi (.var 0) .str)) (.cons (.rse 5) .nil) .nil) .nil), false⟩
/-- 103 -/
def d_parse_set : DefI := ⟨"parse_set", ["things", "text"], ["things", "text"], (.cons (.exp (.call 1 (.cons (.var 0) .nil))) (.cons (.exp (.call 102 (.cons (.var 1) .nil))) (.cons (.ret (.call 101 (.cons (.var 1) (.cons (.var 0) .nil)))) .nil))), false⟩
/-- 104 -/
def d__law_first : DefI := ⟨"_law_first", ["_law_rows"], ["_law_rows"], (.cons (.ifs (.bop false (.cons (.cmp .ne (.call 5 (.cons (.cst (.int 2)) .nil)) (.lst (.cons (.tup .nil) (.cons (.tup (.cons (.cst (.int 0)) .nil)) (.cons (.tup (.cons (.cst (.int 1)) .nil)) (.cons (.tup (.cons (.cst (.int 0)) (.cons (.cst (.int 1)) .nil))) .nil)))))) (.cons (.cmp .ne (.call 26 (.cons (.cst (.int 3)) (.cons (.var 0) .nil))) (.lst (.cons (.cst (.int 4)) (.cons (.cst (.int 3)) (.cons (.cst (.int 4)) (.cons (.cst (.int 1)) (.cons (.cst (.int 3)) (.cons (.cst (.int 1)) (.cons (.cst (.int 1)) (.cons (.cst (.int 1)) .nil)))))))))) (.cons (.cmp .ne (.call 29 (.cons (.cst (.int 1)) (.cons (.lst (.cons (.cst (.int 2)) (.cons (.cst (.int 3)) .nil))) .nil))) (.lst (.cons (.bin .sub (.cst (.int 0)) (.cst (.int 1))) (.cons (.cst (.int 3)) .nil)))) .nil)))) (.cons (.ret (.cst (.bool false))) .nil) .nil) (.cons (.ifs (.bop false (.cons (.cmp .ne (.call 65 (.cons (.cst (.int 1)) (.cons (.lst (.cons (.cst (.int 2)) (.cons (.cst (.int 3)) .nil))) .nil))) (.tup (.cons (.tup .nil) (.cons (.bin .sub (.cst (.int 0)) (.cst (.int 1))) .nil)))) (.cons (.cmp .ne (.call 77 (.cons (.cst (.int 2)) (.cons (.lst (.cons (.cst (.int 4)) (.cons (.cst (.int 3)) (.cons (.cst (.int 2)) (.cons (.cst (.int 0)) .nil))))) (.cons (.tup (.cons (.cst (.int 0)) (.cons (.cst (.int 1)) .nil))) .nil)))) (.tup (.cons (.cst (.int 1)) (.cons (.cst (.int 2)) .nil)))) .nil))) (.cons (.ret (.cst (.bool false))) .nil) .nil) (.cons (.ret (.bop true (.cons (.cmp .eq (.call 42 (.cons (.cst (.int 2)) (.cons (.lst (.cons (.tup (.cons (.tup .nil) (.cons (.cst (.int 3)) .nil))) (.cons (.tup (.cons (.tup (.cons (.cst (.int 0)) .nil)) (.cons (.cst (.int 2)) .nil))) .nil))) (.cons (.tup (.cons (.cst (.int 0)) (.cons (.cst (.int 1)) .nil))) .nil)))) (.lst (.cons (.cst (.int 0)) (.cons (.cst (.int 1)) (.cons (.cst (.int 2)) .nil))))) (.cons (.cmp .eq (.call 47 (.cons (.cst (.int 3)) (.cons (.var 0) (.cons (.tup (.cons (.cst (.int 0)) .nil)) .nil)))) (.tup (.cons (.cst (.int 0)) (.cons (.cst (.int 1)) .nil)))) .nil)))) .nil))), false⟩
/-- 105 -/
def d__law_made : DefI := ⟨"_law_made", ["_law_n", "_law_counts"], ["_law_n", "_law_counts", "_law_found", "_law_caught", "e"], (.cons (.asg 2 (.cst .none)) (.cons (.asg 3 (.cst .none)) (.cons (.try_ (.cons (.asg 2 (.call 66 (.cons (.var 0) (.cons (.var 1) .nil)))) .nil) 0 4 3) (.cons (.ret (.ite (.cmp .is_ (.var 3) (.cst .none)) (.var 2) (.call 76 (.cons (.var 3) .nil)))) .nil)))), false⟩
/-- 106 -/
def d_law_v9 : DefI := ⟨"law", ["_law_script"], ["_law_script", "_law_draws", "_law_n", "_law_counts", "_law_numbers", "_law_every", "_law_k", "_law_bad", "_law_due", "_law_told", "_law_rows", "_law_own"], (.cons (.asg 1 (.start (.var 0))) (.cons (.asg 2 (.bin .add (.cst (.int 1)) (.draw (.var 1) (.cst (.int 4))))) (.cons (.asg 3 (.cals 37 (.cons (.var 1) (.cons (.var 2) .nil)))) (.cons (.asg 4 (.call 36 (.cons (.var 2) (.cons (.var 3) .nil)))) (.cons (.asg 5 (.call 15 (.cons (.var 2) .nil))) (.cons (.asg 7 (.cmp1 (.rg1 (.bi .len (.var 5))) (.one 6) (.cmp .lt (.idx (.var 4) (.var 6)) (.cst (.int 0))) (.tup (.cons (.idx (.var 5) (.var 6)) (.cons (.idx (.var 4) (.var 6)) .nil))))) (.cons (.ifs (.bop false (.cons (.not (.call 14 (.cons (.call 64 (.cons (.var 2) (.cons (.var 3) .nil))) (.cons (.cmp .eq (.var 7) (.lst .nil)) .nil)))) (.cons (.cmp .ne (.call 65 (.cons (.var 2) (.cons (.var 3) .nil))) (.ite (.cmp .ne (.var 7) (.lst .nil)) (.idx (.var 7) (.cst (.int 0))) (.cst .none))) .nil))) (.cons (.ret (.cst (.bool false))) .nil) .nil) (.cons (.asg 8 (.lst .nil)) (.cons (.for_ (.rg1 (.bi .len (.var 5))) (.one 6) (.cons (.asg 8 (.bin .add (.var 8) (.bin .mul (.lst (.cons (.idx (.var 5) (.var 6)) .nil)) (.idx (.var 4) (.var 6))))) .nil)) (.cons (.asg 9 (.call 105 (.cons (.var 2) (.cons (.var 3) .nil)))) (.cons (.ifs (.cmp .ne (.var 9) (.ite (.cmp .eq (.var 7) (.lst .nil)) (.var 8) (.cst (.str "none")))) (.cons (.ret (.cst (.bool false))) .nil) .nil) (.cons (.ifs (.cmp .eq (.var 7) (.lst .nil)) (.cons (.ifs (.bop false (.cons (.cmp .ne (.call 35 (.cons (.var 2) (.cons (.var 9) .nil))) (.var 3)) (.cons (.cmp .ne (.call 26 (.cons (.var 2) (.cons (.var 9) .nil))) (.var 3)) (.cons (.cmp .ne (.call 27 (.cons (.var 2) (.cons (.var 9) .nil))) (.var 4)) .nil)))) (.cons (.ret (.cst (.bool false))) .nil) .nil) .nil) .nil) (.cons (.asg 10 (.cals 33 (.cons (.var 1) (.cons (.var 2) (.cons (.cst (.int 12)) .nil))))) (.cons (.asg 11 (.call 26 (.cons (.var 2) (.cons (.var 10) .nil)))) (.cons (.ret (.bop true (.cons (.cmp .is_ (.call 64 (.cons (.var 2) (.cons (.var 11) .nil))) (.cst (.bool true))) (.cons (.cmp .eq (.call 105 (.cons (.var 2) (.cons (.var 11) .nil))) (.call 70 (.cons (.var 2) (.cons (.var 10) .nil)))) (.cons (.cmp .is_ (.call 65 (.cons (.var 2) (.cons (.var 11) .nil))) (.cst .none)) .nil))))) .nil))))))))))))))), false⟩
/-- 107 -/
def d__law_range : DefI := ⟨"_law_range", ["_law_n", "_law_counts", "_law_one"], ["_law_n", "_law_counts", "_law_one", "_law_found", "_law_caught", "e"], (.cons (.asg 3 (.cst .none)) (.cons (.asg 4 (.cst .none)) (.cons (.try_ (.cons (.asg 3 (.call 77 (.cons (.var 0) (.cons (.var 1) (.cons (.var 2) .nil))))) .nil) 0 5 4) (.cons (.ret (.ite (.cmp .is_ (.var 4) (.cst .none)) (.var 3) (.call 76 (.cons (.var 4) .nil)))) .nil)))), false⟩
/-- 108 -/
def d_law_v10 : DefI := ⟨"law", ["_law_script"], ["_law_script", "_law_draws", "_law_n", "_law_counts", "_law_every", "_law_at", "_law_good", "_law_many", "_law_row", "_law_number", "_law_told", "_law_other", "_law_rows", "_law_own", "_law_k", "_law_low", "_law_high"], (.cons (.asg 1 (.start (.var 0))) (.cons (.asg 2 (.bin .add (.cst (.int 1)) (.draw (.var 1) (.cst (.int 4))))) (.cons (.asg 3 (.cals 37 (.cons (.var 1) (.cons (.var 2) .nil)))) (.cons (.asg 4 (.call 15 (.cons (.var 2) .nil))) (.cons (.asg 5 (.draw (.var 1) (.bi .len (.var 4)))) (.cons (.own 6 (.lst .nil)) (.cons (.for_ (.rg1 (.cst (.int 21))) (.one 7) (.cons (.asg 8 (.bin .add (.bin .add (.slc (.var 3) .none (.some (.var 5))) (.lst (.cons (.var 7) .nil))) (.slc (.var 3) (.some (.bin .add (.var 5) (.cst (.int 1)))) .none))) (.cons (.ifs (.cmp .eq (.cmp1 (.it (.call 36 (.cons (.var 2) (.cons (.var 8) .nil)))) (.one 9) (.cmp .lt (.var 9) (.cst (.int 0))) (.var 9)) (.lst .nil)) (.cons (.app 6 (.var 7)) .nil) .nil) .nil))) (.cons (.asg 10 (.call 107 (.cons (.var 2) (.cons (.var 3) (.cons (.idx (.var 4) (.var 5)) .nil))))) (.cons (.ifs (.cmp .ne (.var 10) (.ite (.cmp .ne (.ovr 6) (.lst .nil)) (.tup (.cons (.idx (.ovr 6) (.cst (.int 0))) (.cons (.idx (.ovr 6) (.neg (.cst (.int 1)))) .nil))) (.cst (.str "none")))) (.cons (.ret (.cst (.bool false))) .nil) .nil) (.cons (.ifs (.bop true (.cons (.cmp .ne (.ovr 6) (.lst .nil)) (.cons (.cmp .ne (.ovr 6) (.lrg2 (.idx (.ovr 6) (.cst (.int 0))) (.bin .add (.idx (.ovr 6) (.neg (.cst (.int 1)))) (.cst (.int 1))))) .nil))) (.cons (.ret (.cst (.bool false))) .nil) .nil) (.cons (.asg 11 (.bin .add (.bin .add (.slc (.var 3) .none (.some (.var 5))) (.lst (.cons (.draw (.var 1) (.cst (.int 21))) .nil))) (.slc (.var 3) (.some (.bin .add (.var 5) (.cst (.int 1)))) .none))) (.cons (.ifs (.cmp .ne (.call 107 (.cons (.var 2) (.cons (.var 11) (.cons (.idx (.var 4) (.var 5)) .nil)))) (.var 10)) (.cons (.ret (.cst (.bool false))) .nil) .nil) (.cons (.asg 12 (.cals 33 (.cons (.var 1) (.cons (.var 2) (.cons (.cst (.int 12)) .nil))))) (.cons (.asg 13 (.call 26 (.cons (.var 2) (.cons (.var 12) .nil)))) (.cons (.for_ (.rg1 (.bi .len (.var 4))) (.one 14) (.cons (.unp 15 16 (.call 77 (.cons (.var 2) (.cons (.var 13) (.cons (.idx (.var 4) (.var 14)) .nil))))) (.cons (.ifs (.not (.chn .le .le (.var 15) (.idx (.var 13) (.var 14)) (.var 16))) (.cons (.ret (.cst (.bool false))) .nil) .nil) (.cons (.ifs (.bop false (.cons (.cmp .isn (.call 64 (.cons (.var 2) (.cons (.bin .add (.bin .add (.slc (.var 13) .none (.some (.var 14))) (.lst (.cons (.var 15) .nil))) (.slc (.var 13) (.some (.bin .add (.var 14) (.cst (.int 1)))) .none)) .nil))) (.cst (.bool true))) (.cons (.cmp .isn (.call 64 (.cons (.var 2) (.cons (.bin .add (.bin .add (.slc (.var 13) .none (.some (.var 14))) (.lst (.cons (.var 16) .nil))) (.slc (.var 13) (.some (.bin .add (.var 14) (.cst (.int 1)))) .none)) .nil))) (.cst (.bool true))) .nil))) (.cons (.ret (.cst (.bool false))) .nil) .nil) .nil)))) (.cons (.ret (.cst (.bool true))) .nil)))))))))))))))), false⟩
/-- 109 -/
def d__law_less : DefI := ⟨"_law_less", ["_law_n", "_law_rows", "_law_one"], ["_law_n", "_law_rows", "_law_one", "_law_found", "_law_caught", "e"], (.cons (.asg 3 (.cst .none)) (.cons (.asg 4 (.cst .none)) (.cons (.try_ (.cons (.asg 3 (.call 86 (.cons (.var 0) (.cons (.var 1) (.cons (.var 2) .nil))))) .nil) 0 5 4) (.cons (.ret (.ite (.cmp .is_ (.var 4) (.cst .none)) (.var 3) (.call 76 (.cons (.var 4) .nil)))) .nil)))), false⟩
/-- 110 -/
def d_law_v11 : DefI := ⟨"law", ["_law_script"], ["_law_script", "_law_draws", "_law_n", "_law_rows", "_law_more", "_law_one", "_law_other", "_law_every", "_law_at", "_law_inside", "_law_row", "_law_names", "_law_left", "_law_called", "_law_thing"], (.cons (.asg 1 (.start (.var 0))) (.cons (.asg 2 (.bin .add (.cst (.int 1)) (.draw (.var 1) (.cst (.int 4))))) (.cons (.par2 3 4 (.cals 33 (.cons (.var 1) (.cons (.var 2) (.cons (.cst (.int 9)) .nil)))) (.cals 33 (.cons (.var 1) (.cons (.var 2) (.cons (.cst (.int 9)) .nil))))) (.cons (.unp 5 6 (.tup (.cons (.cals 16 (.cons (.var 1) (.cons (.var 2) .nil))) (.cons (.cals 16 (.cons (.var 1) (.cons (.var 2) .nil))) .nil)))) (.cons (.asg 7 (.call 15 (.cons (.var 2) .nil))) (.cons (.ifs (.bop false (.cons (.cmp .ne (.call 68 (.cons (.var 2) (.cons (.var 3) (.cons (.var 5) .nil)))) (.bin .add (.var 3) (.lst (.cons (.var 5) .nil)))) (.cons (.cmp .ne (.call 69 (.cons (.var 2) (.cons (.var 3) (.cons (.var 4) .nil)))) (.bin .add (.var 3) (.var 4))) .nil))) (.cons (.ret (.cst (.bool false))) .nil) .nil) (.cons (.asg 8 (.ite (.cmp .in_ (.var 5) (.var 3)) (.ind (.var 3) (.var 5)) (.cst .none))) (.cons (.ifs (.cmp .ne (.call 109 (.cons (.var 2) (.cons (.var 3) (.cons (.var 5) .nil)))) (.ite (.cmp .is_ (.var 8) (.cst .none)) (.cst (.str "none")) (.bin .add (.slc (.var 3) .none (.some (.var 8))) (.slc (.var 3) (.some (.bin .add (.var 8) (.cst (.int 1)))) .none)))) (.cons (.ret (.cst (.bool false))) .nil) .nil) (.cons (.asg 9 (.call 89 (.cons (.var 2) (.cons (.var 3) (.cons (.var 5) .nil))))) (.cons (.ifs (.bop false (.cons (.cmp .ne (.var 9) (.cmp1 (.it (.var 3)) (.one 10) (.call 17 (.cons (.var 5) (.cons (.var 10) .nil))) (.var 10))) (.cons (.cmp .ne (.call 25 (.cons (.var 2) (.cons (.var 9) (.cons (.var 6) .nil)))) (.call 25 (.cons (.var 2) (.cons (.var 3) (.cons (.call 10 (.cons (.var 2) (.cons (.var 5) (.cons (.var 6) .nil)))) .nil))))) .nil))) (.cons (.ret (.cst (.bool false))) .nil) .nil) (.cons (.own 11 (.lst .nil)) (.cons (.own 12 (.lrg (.var 2))) (.cons (.whl (.cmp .ne (.ovr 12) (.lst .nil)) (.cons (.app 11 (.pick (.var 1) (.ovr 12))) (.cons (.rem 12 (.idx (.ovr 11) (.neg (.cst (.int 1))))) .nil))) (.cons (.own 11 (.bi .tup (.ovr 11))) (.cons (.shr 11 (.asg 13 (.call 74 (.cons (.var 2) (.cons (.var 3) (.cons (.var 11) .nil)))))) (.cons (.ifs (.cmp .ne (.var 13) (.cmp0 (.it (.var 3)) (.one 10) (.bi .tup (.bi .srt (.cmp0 (.it (.var 10)) (.one 14) (.idx (.var 11) (.var 14))))))) (.cons (.ret (.cst (.bool false))) .nil) .nil) (.cons (.ifs (.cmp .ne (.call 25 (.cons (.var 2) (.cons (.var 13) (.cons (.bi .tup (.bi .srt (.cmp0 (.it (.var 5)) (.one 14) (.idx (.var 11) (.var 14))))) .nil)))) (.call 25 (.cons (.var 2) (.cons (.var 3) (.cons (.var 5) .nil))))) (.cons (.ret (.cst (.bool false))) .nil) .nil) (.cons (.ret (.cals 90 (.cons (.var 1) (.cons (.var 2) (.cons (.var 3) (.cons (.var 5) (.cons (.var 7) .nil))))))) .nil)))))))))))))))))), false⟩
/-- 111 -/
def d__law_rank : DefI := ⟨"_law_rank", ["_law_n", "_law_counts"], ["_law_n", "_law_counts", "_law_found", "_law_caught", "e"], (.cons (.asg 2 (.cst .none)) (.cons (.asg 3 (.cst .none)) (.cons (.try_ (.cons (.asg 2 (.call 97 (.cons (.var 0) (.cons (.var 1) .nil)))) .nil) 0 4 3) (.cons (.ret (.ite (.cmp .is_ (.var 3) (.cst .none)) (.var 2) (.call 76 (.cons (.var 3) .nil)))) .nil)))), false⟩
/-- 112 -/
def d_law_v12 : DefI := ⟨"law", ["_law_script"], ["_law_script", "_law_draws", "_law_n", "_law_whole", "_law_told", "_law_row", "_law_k", "_law_rows", "_law_own", "_law_drawn", "_law_a", "_law_b", "_law_gaps", "_law_things", "_law_many", "_law_due", "_law_parts"], (.cons (.asg 1 (.start (.var 0))) (.cons (.unp 2 3 (.tup (.cons (.bin .add (.cst (.int 1)) (.draw (.var 1) (.cst (.int 2)))) (.cons (.draw (.var 1) (.cst (.int 5))) .nil)))) (.cons (.asg 4 (.call 95 (.cons (.var 2) (.cons (.var 3) .nil)))) (.cons (.ifs (.bop false (.cons (.cmp .ne (.var 4) (.bi .srt (.var 4))) (.cons (.cmp .ne (.call 92 (.cons (.var 2) (.cons (.var 3) .nil))) (.bi .len (.var 4))) (.cons (.cmp .ne (.cmp1 (.it (.var 4)) (.one 5) (.bop false (.cons (.cmp .ne (.idx (.var 5) (.cst (.int 0))) (.var 3)) (.cons (.cmp .isn (.call 64 (.cons (.var 2) (.cons (.var 5) .nil))) (.cst (.bool true))) .nil))) (.var 5)) (.lst .nil)) .nil)))) (.cons (.ret (.cst (.bool false))) .nil) .nil) (.cons (.ifs (.cmp .ne (.cmp1 (.rg1 (.bin .sub (.bi .len (.var 4)) (.cst (.int 1)))) (.one 6) (.cmp .eq (.idx (.var 4) (.var 6)) (.idx (.var 4) (.bin .add (.var 6) (.cst (.int 1))))) (.var 6)) (.lst .nil)) (.cons (.ret (.cst (.bool false))) .nil) .nil) (.cons (.asg 7 (.cmp0 (.rg1 (.var 3)) (.one 6) (.cals 16 (.cons (.var 1) (.cons (.var 2) .nil))))) (.cons (.asg 8 (.call 26 (.cons (.var 2) (.cons (.var 7) .nil)))) (.cons (.ifs (.bop false (.cons (.cmp .nin (.var 8) (.var 4)) (.cons (.cmp .ne (.call 97 (.cons (.var 2) (.cons (.var 8) .nil))) (.ind (.var 4) (.var 8))) (.cons (.cmp .ne (.call 96 (.cons (.var 2) (.cons (.var 3) (.cons (.ind (.var 4) (.var 8)) .nil)))) (.var 8)) .nil)))) (.cons (.ret (.cst (.bool false))) .nil) .nil) (.cons (.asg 9 (.bin .add (.lst (.cons (.var 3) .nil)) (.cmp0 (.rg1 (.ite (.cmp .eq (.var 2) (.cst (.int 2))) (.bin .sub (.bin .pow (.cst (.int 2)) (.cst (.int 2))) (.cst (.int 1))) (.cst (.int 1)))) (.one 6) (.draw (.var 1) (.cst (.int 6)))))) (.cons (.asg 12 (.cmp0 (.it (.var 4)) (.one 5) (.bi .sum (.cmp0 (.zip (.var 5) (.var 9)) (.two 10 11) (.bi .abs (.bin .sub (.var 10) (.var 11))))))) (.cons (.ifs (.bop false (.cons (.cmp .ne (.call 98 (.cons (.var 2) (.cons (.var 9) .nil))) (.idx (.var 4) (.ind (.var 12) (.bi .min (.var 12))))) (.cons (.cmp .ne (.call 111 (.cons (.var 2) (.cons (.var 9) .nil))) (.ite (.cmp .in_ (.var 9) (.var 4)) (.ind (.var 4) (.var 9)) (.cst (.str "none")))) .nil))) (.cons (.ret (.cst (.bool false))) .nil) .nil) (.cons (.ifs (.cmp .ne (.call 98 (.cons (.var 2) (.cons (.var 8) .nil))) (.var 8)) (.cons (.ret (.cst (.bool false))) .nil) .nil) (.cons (.par2 13 14 (.bin .add (.cst (.int 1)) (.draw (.var 1) (.cst (.int 4)))) (.draw (.var 1) (.cst (.int 21)))) (.cons (.asg 15 (.cst (.int 1))) (.cons (.asg 16 (.bin .sub (.bi .len (.call 5 (.cons (.var 13) .nil))) (.cst (.int 1)))) (.cons (.for_ (.rg1 (.var 16)) (.one 6) (.cons (.asg 15 (.bin .fdv (.bin .mul (.var 15) (.bin .add (.bin .add (.var 14) (.var 6)) (.cst (.int 1)))) (.bin .add (.var 6) (.cst (.int 1))))) .nil)) (.cons (.ret (.bop true (.cons (.cmp .eq (.call 92 (.cons (.var 13) (.cons (.var 14) .nil))) (.var 15)) (.cons (.cmp .eq (.call 92 (.cons (.cst (.int 1)) (.cons (.var 14) .nil))) (.bin .add (.var 14) (.cst (.int 1)))) .nil)))) .nil))))))))))))))))), false⟩
/-- 113 -/
def d__law_share : DefI := ⟨"_law_share", ["_law_n", "_law_rows", "_law_one", "_law_other"], ["_law_n", "_law_rows", "_law_one", "_law_other", "_law_found", "_law_caught", "e"], (.cons (.asg 4 (.cst .none)) (.cons (.asg 5 (.cst .none)) (.cons (.try_ (.cons (.asg 4 (.call 80 (.cons (.var 0) (.cons (.var 1) (.cons (.var 2) (.cons (.var 3) .nil)))))) .nil) 0 6 5) (.cons (.ret (.ite (.cmp .is_ (.var 5) (.cst .none)) (.var 4) (.call 76 (.cons (.var 5) .nil)))) .nil)))), false⟩
/-- 114 -/
def d_law_v13 : DefI := ⟨"law", ["_law_script"], ["_law_script", "_law_draws", "_law_n", "_law_rows", "_law_one", "_law_inside", "_law_other", "_law_both", "_law_row", "_law_apart", "_law_numbers", "_law_k", "_law_due"], (.cons (.asg 1 (.start (.var 0))) (.cons (.asg 2 (.bin .add (.cst (.int 1)) (.draw (.var 1) (.cst (.int 4))))) (.cons (.asg 3 (.cals 33 (.cons (.var 1) (.cons (.var 2) (.cons (.cst (.int 10)) .nil))))) (.cons (.asg 4 (.cals 16 (.cons (.var 1) (.cons (.var 2) .nil)))) (.cons (.asg 5 (.call 89 (.cons (.var 2) (.cons (.var 3) (.cons (.var 4) .nil))))) (.cons (.for_ (.it (.call 5 (.cons (.var 2) .nil))) (.one 6) (.cons (.asg 7 (.call 10 (.cons (.var 2) (.cons (.var 4) (.cons (.var 6) .nil))))) (.cons (.ifs (.cmp .ne (.call 25 (.cons (.var 2) (.cons (.var 5) (.cons (.var 6) .nil)))) (.call 25 (.cons (.var 2) (.cons (.var 3) (.cons (.var 7) .nil))))) (.cons (.ret (.cst (.bool false))) .nil) .nil) (.cons (.ifs (.bop true (.cons (.cmp .gt (.call 25 (.cons (.var 2) (.cons (.var 3) (.cons (.var 7) .nil)))) (.cst (.int 0))) (.cons (.cmp .ne (.call 47 (.cons (.var 2) (.cons (.var 5) (.cons (.var 6) .nil)))) (.call 47 (.cons (.var 2) (.cons (.var 3) (.cons (.var 7) .nil))))) .nil))) (.cons (.ret (.cst (.bool false))) .nil) .nil) (.cons (.ifs (.cmp .ne (.call 113 (.cons (.var 2) (.cons (.var 5) (.cons (.tup .nil) (.cons (.var 6) .nil))))) (.call 113 (.cons (.var 2) (.cons (.var 3) (.cons (.var 4) (.cons (.var 6) .nil)))))) (.cons (.ret (.cst (.bool false))) .nil) .nil) (.cons (.ifs (.cmp .ne (.call 81 (.cons (.var 2) (.cons (.var 3) (.cons (.var 4) (.cons (.var 6) .nil))))) (.call 7 (.cons (.var 2) (.cons (.var 6) (.cons (.call 47 (.cons (.var 2) (.cons (.var 3) (.cons (.var 4) .nil)))) .nil))))) (.cons (.ret (.cst (.bool false))) .nil) .nil) (.cons (.ifs (.cmp .ne (.bi .len (.call 83 (.cons (.var 2) (.cons (.var 3) (.cons (.var 4) (.cons (.var 6) .nil)))))) (.bin .sub (.call 25 (.cons (.var 2) (.cons (.var 3) (.cons (.var 4) .nil)))) (.call 25 (.cons (.var 2) (.cons (.var 3) (.cons (.var 7) .nil)))))) (.cons (.ret (.cst (.bool false))) .nil) .nil) .nil))))))) (.cons (.asg 9 (.cmp1 (.it (.var 3)) (.one 8) (.cmp .nin (.var 8) (.var 5)) (.var 8))) (.cons (.ifs (.bop false (.cons (.cmp .ne (.call 26 (.cons (.var 2) (.cons (.call 69 (.cons (.var 2) (.cons (.var 5) (.cons (.var 9) .nil)))) .nil))) (.call 26 (.cons (.var 2) (.cons (.var 3) .nil)))) (.cons (.cmp .ne (.bi .len (.var 5)) (.call 25 (.cons (.var 2) (.cons (.var 3) (.cons (.var 4) .nil))))) .nil))) (.cons (.ret (.cst (.bool false))) .nil) .nil) (.cons (.asg 10 (.call 27 (.cons (.var 2) (.cons (.var 3) .nil)))) (.cons (.asg 12 (.cmp0 (.enu (.call 5 (.cons (.var 2) .nil))) (.two 11 8) (.ite (.call 7 (.cons (.var 2) (.cons (.var 4) (.cons (.var 8) .nil)))) (.idx (.var 10) (.var 11)) (.cst (.int 0))))) (.cons (.ret (.bop true (.cons (.cmp .eq (.call 27 (.cons (.var 2) (.cons (.var 5) .nil))) (.var 12)) (.cons (.cmp .eq (.call 89 (.cons (.var 2) (.cons (.var 5) (.cons (.var 4) .nil)))) (.var 5)) (.cons (.cmp .eq (.call 89 (.cons (.var 2) (.cons (.var 3) (.cons (.tup .nil) .nil)))) (.var 3)) .nil))))) .nil))))))))))), false⟩
/-- 115 -/
def d_missing_range_v2 : DefI := ⟨"missing_range", ["things", "counts", "one"], ["things", "counts", "one", "place", "zero", "low", "high", "other", "many"], (.cons (.exp (.call 23 (.cons (.var 0) (.cons (.var 1) .nil)))) (.cons (.exp (.call 3 (.cons (.var 2) (.cons (.var 0) .nil)))) (.cons (.asg 3 (.ind (.call 4 (.cons (.var 0) .nil)) (.var 2))) (.cons (.own 4 (.bi .list (.var 1))) (.cons (.put 4 (.var 3) (.cst (.int 0))) (.cons (.unp 5 6 (.tup (.cons (.cst (.int 0)) (.cons (.cst (.int 20)) .nil)))) (.cons (.shr 4 (.for_ (.zip (.call 4 (.cons (.var 0) .nil)) (.call 28 (.cons (.var 0) (.cons (.var 4) .nil)))) (.two 7 8) (.cons (.ifs (.call 6 (.cons (.var 7) (.cons (.var 2) .nil))) (.cons (.ifs (.cmp .eq (.bin .mod (.bin .sub (.bi .len (.var 2)) (.bi .len (.var 7))) (.cst (.int 2))) (.cst (.int 0))) (.cons (.asg 5 (.mx2 true (.var 5) (.neg (.var 8)))) .nil) (.cons (.asg 6 (.mx2 false (.var 6) (.var 8))) .nil)) .nil) (.cons (.ifs (.cmp .lt (.var 8) (.cst (.int 0))) (.cons (.rse 6) .nil) .nil) .nil)) .nil))) (.cons (.ifs (.cmp .gt (.var 5) (.var 6)) (.cons (.rse 6) .nil) .nil) (.cons (.ret (.tup (.cons (.var 5) (.cons (.var 6) .nil)))) .nil))))))))), false⟩
/-- 116 -/
def d__law_range_v2 : DefI := ⟨"_law_range", ["_law_n", "_law_counts", "_law_one"], ["_law_n", "_law_counts", "_law_one", "_law_found", "_law_caught", "e"], (.cons (.asg 3 (.cst .none)) (.cons (.asg 4 (.cst .none)) (.cons (.try_ (.cons (.asg 3 (.call 115 (.cons (.var 0) (.cons (.var 1) (.cons (.var 2) .nil))))) .nil) 0 5 4) (.cons (.ret (.ite (.cmp .is_ (.var 4) (.cst .none)) (.var 3) (.call 76 (.cons (.var 4) .nil)))) .nil)))), false⟩
/-- 117 -/
def d_law_v14 : DefI := ⟨"law", ["_law_script"], ["_law_script", "_law_draws", "_law_n", "_law_counts", "_law_every", "_law_at", "_law_good", "_law_many", "_law_row", "_law_number", "_law_told", "_law_other", "_law_rows", "_law_own", "_law_k", "_law_low", "_law_high"], (.cons (.asg 1 (.start (.var 0))) (.cons (.asg 2 (.bin .add (.cst (.int 1)) (.draw (.var 1) (.cst (.int 4))))) (.cons (.asg 3 (.cals 37 (.cons (.var 1) (.cons (.var 2) .nil)))) (.cons (.asg 4 (.call 15 (.cons (.var 2) .nil))) (.cons (.asg 5 (.draw (.var 1) (.bi .len (.var 4)))) (.cons (.own 6 (.lst .nil)) (.cons (.for_ (.rg1 (.cst (.int 21))) (.one 7) (.cons (.asg 8 (.bin .add (.bin .add (.slc (.var 3) .none (.some (.var 5))) (.lst (.cons (.var 7) .nil))) (.slc (.var 3) (.some (.bin .add (.var 5) (.cst (.int 1)))) .none))) (.cons (.ifs (.cmp .eq (.cmp1 (.it (.call 36 (.cons (.var 2) (.cons (.var 8) .nil)))) (.one 9) (.cmp .lt (.var 9) (.cst (.int 0))) (.var 9)) (.lst .nil)) (.cons (.app 6 (.var 7)) .nil) .nil) .nil))) (.cons (.asg 10 (.call 116 (.cons (.var 2) (.cons (.var 3) (.cons (.idx (.var 4) (.var 5)) .nil))))) (.cons (.ifs (.cmp .ne (.var 10) (.ite (.cmp .ne (.ovr 6) (.lst .nil)) (.tup (.cons (.idx (.ovr 6) (.cst (.int 0))) (.cons (.idx (.ovr 6) (.neg (.cst (.int 1)))) .nil))) (.cst (.str "none")))) (.cons (.ret (.cst (.bool false))) .nil) .nil) (.cons (.ifs (.bop true (.cons (.cmp .ne (.ovr 6) (.lst .nil)) (.cons (.cmp .ne (.ovr 6) (.lrg2 (.idx (.ovr 6) (.cst (.int 0))) (.bin .add (.idx (.ovr 6) (.neg (.cst (.int 1)))) (.cst (.int 1))))) .nil))) (.cons (.ret (.cst (.bool false))) .nil) .nil) (.cons (.asg 11 (.bin .add (.bin .add (.slc (.var 3) .none (.some (.var 5))) (.lst (.cons (.draw (.var 1) (.cst (.int 21))) .nil))) (.slc (.var 3) (.some (.bin .add (.var 5) (.cst (.int 1)))) .none))) (.cons (.ifs (.cmp .ne (.call 116 (.cons (.var 2) (.cons (.var 11) (.cons (.idx (.var 4) (.var 5)) .nil)))) (.var 10)) (.cons (.ret (.cst (.bool false))) .nil) .nil) (.cons (.asg 12 (.cals 33 (.cons (.var 1) (.cons (.var 2) (.cons (.cst (.int 12)) .nil))))) (.cons (.asg 13 (.call 26 (.cons (.var 2) (.cons (.var 12) .nil)))) (.cons (.for_ (.rg1 (.bi .len (.var 4))) (.one 14) (.cons (.unp 15 16 (.call 115 (.cons (.var 2) (.cons (.var 13) (.cons (.idx (.var 4) (.var 14)) .nil))))) (.cons (.ifs (.not (.chn .le .le (.var 15) (.idx (.var 13) (.var 14)) (.var 16))) (.cons (.ret (.cst (.bool false))) .nil) .nil) (.cons (.ifs (.bop false (.cons (.cmp .isn (.call 64 (.cons (.var 2) (.cons (.bin .add (.bin .add (.slc (.var 13) .none (.some (.var 14))) (.lst (.cons (.var 15) .nil))) (.slc (.var 13) (.some (.bin .add (.var 14) (.cst (.int 1)))) .none)) .nil))) (.cst (.bool true))) (.cons (.cmp .isn (.call 64 (.cons (.var 2) (.cons (.bin .add (.bin .add (.slc (.var 13) .none (.some (.var 14))) (.lst (.cons (.var 16) .nil))) (.slc (.var 13) (.some (.bin .add (.var 14) (.cst (.int 1)))) .none)) .nil))) (.cst (.bool true))) .nil))) (.cons (.ret (.cst (.bool false))) .nil) .nil) .nil)))) (.cons (.ret (.cst (.bool true))) .nil)))))))))))))))), false⟩
/-- 118 -/
def d_law_v15 : DefI := ⟨"law", ["_law_script"], ["_law_script", "_law_draws", "_law_n", "_law_rows", "_law_more", "_law_one", "_law_other", "_law_every", "_law_at", "_law_inside", "_law_row", "_law_names", "_law_left", "_law_called", "_law_thing"], (.cons (.asg 1 (.start (.var 0))) (.cons (.asg 2 (.bin .add (.cst (.int 1)) (.draw (.var 1) (.cst (.int 4))))) (.cons (.par2 3 4 (.cals 33 (.cons (.var 1) (.cons (.var 2) (.cons (.cst (.int 9)) .nil)))) (.cals 33 (.cons (.var 1) (.cons (.var 2) (.cons (.cst (.int 9)) .nil))))) (.cons (.unp 5 6 (.tup (.cons (.cals 16 (.cons (.var 1) (.cons (.var 2) .nil))) (.cons (.cals 16 (.cons (.var 1) (.cons (.var 2) .nil))) .nil)))) (.cons (.asg 7 (.call 15 (.cons (.var 2) .nil))) (.cons (.ifs (.bop false (.cons (.cmp .ne (.call 68 (.cons (.var 2) (.cons (.var 3) (.cons (.var 5) .nil)))) (.bin .add (.var 3) (.lst (.cons (.var 5) .nil)))) (.cons (.cmp .ne (.call 69 (.cons (.var 2) (.cons (.var 3) (.cons (.var 4) .nil)))) (.bin .add (.var 3) (.var 4))) .nil))) (.cons (.ret (.cst (.bool false))) .nil) .nil) (.cons (.asg 8 (.ite (.cmp .in_ (.var 5) (.var 3)) (.ind (.var 3) (.var 5)) (.cst .none))) (.cons (.ifs (.cmp .ne (.call 109 (.cons (.var 2) (.cons (.var 3) (.cons (.var 5) .nil)))) (.ite (.cmp .is_ (.var 8) (.cst .none)) (.cst (.str "none")) (.bin .add (.slc (.var 3) .none (.some (.var 8))) (.slc (.var 3) (.some (.bin .add (.var 8) (.cst (.int 1)))) .none)))) (.cons (.ret (.cst (.bool false))) .nil) .nil) (.cons (.asg 9 (.call 89 (.cons (.var 2) (.cons (.var 3) (.cons (.var 5) .nil))))) (.cons (.ifs (.bop false (.cons (.cmp .ne (.var 9) (.cmp1 (.it (.var 3)) (.one 10) (.call 17 (.cons (.var 5) (.cons (.var 10) .nil))) (.var 10))) (.cons (.cmp .ne (.call 25 (.cons (.var 2) (.cons (.var 9) (.cons (.var 6) .nil)))) (.call 25 (.cons (.var 2) (.cons (.var 3) (.cons (.call 10 (.cons (.var 2) (.cons (.var 5) (.cons (.var 6) .nil)))) .nil))))) .nil))) (.cons (.ret (.cst (.bool false))) .nil) .nil) (.cons (.own 11 (.lst .nil)) (.cons (.own 12 (.lrg (.var 2))) (.cons (.whl (.cmp .ne (.ovr 12) (.lst .nil)) (.cons (.app 11 (.pick (.var 1) (.ovr 12))) (.cons (.rem 12 (.idx (.ovr 11) (.neg (.cst (.int 1))))) .nil))) (.cons (.asg 11 (.bi .tup (.ovr 11))) (.cons (.asg 13 (.call 74 (.cons (.var 2) (.cons (.var 3) (.cons (.var 11) .nil))))) (.cons (.ifs (.cmp .ne (.var 13) (.cmp0 (.it (.var 3)) (.one 10) (.bi .tup (.bi .srt (.cmp0 (.it (.var 10)) (.one 14) (.idx (.var 11) (.var 14))))))) (.cons (.ret (.cst (.bool false))) .nil) .nil) (.cons (.ifs (.cmp .ne (.call 25 (.cons (.var 2) (.cons (.var 13) (.cons (.bi .tup (.bi .srt (.cmp0 (.it (.var 5)) (.one 14) (.idx (.var 11) (.var 14))))) .nil)))) (.call 25 (.cons (.var 2) (.cons (.var 3) (.cons (.var 5) .nil))))) (.cons (.ret (.cst (.bool false))) .nil) .nil) (.cons (.ret (.cals 90 (.cons (.var 1) (.cons (.var 2) (.cons (.var 3) (.cons (.var 5) (.cons (.var 7) .nil))))))) .nil)))))))))))))))))), false⟩
/-- 119 -/
def d_follow : DefI := ⟨"follow", ["things", "rules", "one"], ["things", "rules", "one", "found", "turn", "part", "thing"], (.cons (.own 3 (.bi .list (.var 2))) (.cons (.for_ (.rg1 (.var 0)) (.one 4) (.cons (.for_ (.it (.var 1)) (.two 5 6) (.cons (.ifs (.bop true (.cons (.cmp .nin (.var 6) (.ovr 3)) (.cons (.calr 6 (.cons (.var 5) (.cons (.ovr 3) .nil))) .nil))) (.cons (.app 3 (.var 6)) .nil) .nil) .nil)) .nil)) (.cons (.ret (.bi .tup (.bi .srt (.ovr 3)))) .nil))), false⟩
/-- 120 -/
def d_closure_by_rules : DefI := ⟨"closure_by_rules", ["things", "baskets", "one"], ["things", "baskets", "one"], (.cons (.exp (.call 20 (.cons (.var 0) (.cons (.var 1) .nil)))) (.cons (.exp (.call 3 (.cons (.var 2) (.cons (.var 0) .nil)))) (.cons (.ret (.call 119 (.cons (.var 0) (.cons (.call 84 (.cons (.var 0) (.cons (.var 1) .nil))) (.cons (.var 2) .nil))))) .nil))), false⟩
/-- 121 -/
def d__law_led : DefI := ⟨"_law_led", ["_law_n", "_law_rows", "_law_one", "_law_due"], ["_law_n", "_law_rows", "_law_one", "_law_due", "_law_left", "_law_grown", "_law_row", "_law_thing"], (.cons (.own 4 (.bi .list (.var 2))) (.cons (.asg 5 (.cst (.bool true))) (.cons (.whl (.var 5) (.cons (.asg 5 (.cst (.bool false))) (.cons (.for_ (.it (.var 3)) (.two 6 7) (.cons (.ifs (.bop true (.cons (.cmp .nin (.var 7) (.ovr 4)) (.cons (.calr 17 (.cons (.var 6) (.cons (.ovr 4) .nil))) .nil))) (.cons (.app 4 (.var 7)) (.cons (.asg 5 (.cst (.bool true))) .nil)) .nil) .nil)) .nil))) (.cons (.ifs (.bop false (.cons (.cmp .ne (.bi .tup (.bi .srt (.ovr 4))) (.call 54 (.cons (.var 0) (.cons (.var 1) (.cons (.var 2) .nil))))) (.cons (.cmp .ne (.call 120 (.cons (.var 0) (.cons (.var 1) (.cons (.var 2) .nil)))) (.call 54 (.cons (.var 0) (.cons (.var 1) (.cons (.var 2) .nil))))) .nil))) (.cons (.ret (.cst (.bool false))) .nil) .nil) (.cons (.ret (.bop true (.cons (.cmp .is_ (.call 81 (.cons (.var 0) (.cons (.var 1) (.cons (.var 2) (.cons (.call 47 (.cons (.var 0) (.cons (.var 1) (.cons (.var 2) .nil)))) .nil))))) (.cst (.bool true))) (.cons (.cmp .eq (.call 82 (.cons (.var 0) (.cons (.var 1) (.cons (.var 2) (.cons (.tup .nil) .nil))))) (.cst (.int 0))) .nil)))) .nil))))), false⟩
/-- 122 -/
def d_law_v16 : DefI := ⟨"law", ["_law_script"], ["_law_script", "_law_draws", "_law_n", "_law_rows", "_law_every", "_law_one", "_law_other", "_law_first", "_law_row", "_law_both", "_law_k", "_law_apart", "_law_due", "_law_thing", "_law_part", "_law_parts"], (.cons (.asg 1 (.start (.var 0))) (.cons (.asg 2 (.bin .add (.cst (.int 1)) (.draw (.var 1) (.cst (.int 4))))) (.cons (.asg 3 (.cals 33 (.cons (.var 1) (.cons (.var 2) (.cons (.cst (.int 10)) .nil))))) (.cons (.asg 4 (.call 15 (.cons (.var 2) .nil))) (.cons (.unp 5 6 (.tup (.cons (.cals 16 (.cons (.var 1) (.cons (.var 2) .nil))) (.cons (.cals 16 (.cons (.var 1) (.cons (.var 2) .nil))) .nil)))) (.cons (.asg 7 (.call 34 (.cons (.var 3) (.cons (.var 5) .nil)))) (.cons (.asg 9 (.bi .len (.cmp1 (.it (.var 3)) (.one 8) (.bop true (.cons (.call 17 (.cons (.var 5) (.cons (.var 8) .nil))) (.cons (.call 17 (.cons (.var 6) (.cons (.var 8) .nil))) .nil))) (.var 8)))) (.cons (.ifs (.cmp .ne (.call 113 (.cons (.var 2) (.cons (.var 3) (.cons (.var 5) (.cons (.var 6) .nil))))) (.ite (.cmp .eq (.var 7) (.cst (.int 0))) (.cst (.str "none")) (.call 85 (.cons (.var 9) (.cons (.var 7) .nil))))) (.cons (.ret (.cst (.bool false))) .nil) .nil) (.cons (.asg 11 (.cmp1 (.rg1 (.bi .len (.var 3))) (.one 10) (.bop true (.cons (.call 17 (.cons (.var 5) (.cons (.idx (.var 3) (.var 10)) .nil))) (.cons (.not (.call 17 (.cons (.var 6) (.cons (.idx (.var 3) (.var 10)) .nil)))) .nil))) (.var 10))) (.cons (.ifs (.bop false (.cons (.cmp .ne (.call 83 (.cons (.var 2) (.cons (.var 3) (.cons (.var 5) (.cons (.var 6) .nil))))) (.var 11)) (.cons (.not (.call 14 (.cons (.call 81 (.cons (.var 2) (.cons (.var 3) (.cons (.var 5) (.cons (.var 6) .nil))))) (.cons (.cmp .eq (.var 11) (.lst .nil)) .nil)))) .nil))) (.cons (.ret (.cst (.bool false))) .nil) .nil) (.cons (.ifs (.cmp .ne (.call 82 (.cons (.var 2) (.cons (.var 3) (.cons (.var 5) (.cons (.var 6) .nil))))) (.bin .sub (.bin .mul (.bi .len (.var 3)) (.var 9)) (.bin .mul (.var 7) (.call 34 (.cons (.var 3) (.cons (.var 6) .nil)))))) (.cons (.ret (.cst (.bool false))) .nil) .nil) (.cons (.own 12 (.lst .nil)) (.cons (.for_ (.it (.var 4)) (.one 8) (.cons (.for_ (.rg1 (.var 2)) (.one 13) (.cons (.ifs (.bop true (.cons (.cmp .nin (.var 13) (.var 8)) (.cons (.cmp .in_ (.var 13) (.call 54 (.cons (.var 2) (.cons (.var 3) (.cons (.var 8) .nil))))) .nil))) (.cons (.asg 15 (.cmp1 (.it (.var 4)) (.one 14) (.bop true (.cons (.cmp .ne (.var 14) (.var 8)) (.cons (.call 17 (.cons (.var 14) (.cons (.var 8) .nil))) .nil))) (.var 14))) (.cons (.ifs (.cmp .eq (.cmp1 (.it (.var 15)) (.one 14) (.cmp .in_ (.var 13) (.call 54 (.cons (.var 2) (.cons (.var 3) (.cons (.var 14) .nil))))) (.var 14)) (.lst .nil)) (.cons (.app 12 (.tup (.cons (.var 8) (.cons (.var 13) .nil)))) .nil) .nil) .nil)) .nil) .nil)) .nil)) (.cons (.ifs (.cmp .ne (.call 84 (.cons (.var 2) (.cons (.var 3) .nil))) (.ovr 12)) (.cons (.ret (.cst (.bool false))) .nil) .nil) (.cons (.shr 12 (.ret (.call 121 (.cons (.var 2) (.cons (.var 3) (.cons (.var 5) (.cons (.var 12) .nil))))))) .nil))))))))))))))), false⟩
/-- 123 -/
def d_Till__push : DefI := ⟨"push", ["self", "basket"], ["self", "basket"], (.cons (.exp (.call 3 (.cons (.var 1) (.cons (.thg 0) .nil)))) (.cons (.ifs (.cmp .eq (.llen 0) (.glo "MOST_BASKETS")) (.cons (.rse 2) .nil) .nil) (.cons (.lapp 0 1) (.cons (.ret (.lcal 24 0 1)) .nil)))), false⟩
/-- 124 -/
def d_Till__undo : DefI := ⟨"undo", ["self"], ["self"], (.cons (.ifs (.lemp 0) (.cons (.rse 6) .nil) .nil) (.cons (.ret (.lpop 0)) .nil)), false⟩
/-- 125 -/
def d_Till__most_often : DefI := ⟨"most_often", ["self", "size"], ["self", "size", "one", "some", "counts"], (.cons (.ifs (.not (.call 0 (.cons (.var 1) (.cons (.cst (.int 0)) (.cons (.thg 0) .nil))))) (.cons (.rse 1) .nil) .nil) (.cons (.asg 3 (.cmp1 (.it (.call 4 (.cons (.thg 0) .nil))) (.one 2) (.cmp .eq (.bi .len (.var 2)) (.var 1)) (.var 2))) (.cons (.asg 4 (.cmp0 (.it (.var 3)) (.one 2) (.lcal 24 0 2))) (.cons (.ret (.idx (.var 3) (.ind (.var 4) (.bi .max (.var 4))))) .nil)))), false⟩
/-- 126 -/
def d__law_call : DefI := ⟨"_law_call", ["_law_shown", "_law_kind", "_law_thing"], ["_law_shown", "_law_kind", "_law_thing", "_law_found", "_law_caught", "e"], (.cons (.asg 3 (.cst .none)) (.cons (.asg 4 (.cst .none)) (.cons (.try_ (.cons (.ifs (.cmp .eq (.var 1) (.cst (.int 0))) (.cons (.asg 3 (.mc1 123 (.var 0) (.var 2))) .nil) (.cons (.ifs (.cmp .eq (.var 1) (.cst (.int 1))) (.cons (.asg 3 (.mc0 124 (.var 0))) .nil) (.cons (.asg 3 (.mc1 125 (.var 0) (.var 2))) .nil)) .nil)) .nil) 0 5 4) (.cons (.ret (.ite (.cmp .is_ (.var 4) (.cst .none)) (.var 3) (.call 76 (.cons (.var 4) .nil)))) .nil)))), false⟩
/-- 127 -/
def d_Till__count : DefI := ⟨"count", ["self", "one"], ["self", "one"], (.cons (.exp (.call 3 (.cons (.var 1) (.cons (.thg 0) .nil)))) (.cons (.ret (.lcal 24 0 1)) .nil)), false⟩
/-- 128 -/
def d_Till__baskets : DefI := ⟨"baskets", ["self"], ["self"], (.cons (.ret (.lcpy 0)) .nil), false⟩
/-- 129 -/
def d_Till__table : DefI := ⟨"table", ["self"], ["self", "one"], (.cons (.ret (.cmp0 (.it (.call 4 (.cons (.thg 0) .nil))) (.one 1) (.lcal 24 0 1))) .nil), false⟩
/-- 130 -/
def d_law_v17 : DefI := ⟨"law", ["_law_script"], ["_law_script", "_law_draws", "_law_n", "_law_every", "_law_shown", "_law_rows", "_law_rare", "_law_turn", "_law_one", "_law_told", "_law_size", "_law_some", "_law_due", "_law_counts"], (.cons (.asg 1 (.start (.var 0))) (.cons (.asg 2 (.bin .add (.cst (.int 1)) (.draw (.var 1) (.cst (.int 4))))) (.cons (.asg 3 (.call 15 (.cons (.var 2) .nil))) (.cons (.unp 4 5 (.tup (.cons (.tnew 9001 (.var 2)) (.cons (.lst .nil) .nil)))) (.cons (.asg 6 (.pick (.var 1) (.lst (.cons (.cst (.int 4)) (.cons (.cst (.int 30)) .nil))))) (.cons (.for_ (.rg1 (.cst (.int 26))) (.one 7) (.cons (.ifs (.cmp .gt (.draw (.var 1) (.var 6)) (.cst (.int 0))) (.cons (.asg 8 (.cals 16 (.cons (.var 1) (.cons (.var 2) .nil)))) (.cons (.asg 9 (.cals 126 (.cons (.var 4) (.cons (.cst (.int 0)) (.cons (.var 8) .nil))))) (.cons (.ifs (.cmp .eq (.bi .len (.var 5)) (.cst (.int 20))) (.cons (.ifs (.cmp .ne (.var 9) (.cst (.str "baskets"))) (.cons (.ret (.cst (.bool false))) .nil) .nil) .nil) (.cons (.asg 5 (.bin .add (.var 5) (.lst (.cons (.var 8) .nil)))) (.cons (.ifs (.cmp .ne (.var 9) (.call 34 (.cons (.var 5) (.cons (.var 8) .nil)))) (.cons (.ret (.cst (.bool false))) .nil) .nil) .nil))) .nil))) (.cons (.ifs (.cmp .ne (.cals 126 (.cons (.var 4) (.cons (.cst (.int 1)) (.cons (.cst (.int 0)) .nil)))) (.ite (.cmp .ne (.var 5) (.lst .nil)) (.idx (.var 5) (.neg (.cst (.int 1)))) (.cst (.str "none")))) (.cons (.ret (.cst (.bool false))) .nil) .nil) (.cons (.asg 5 (.slc (.var 5) .none (.some (.neg (.cst (.int 1)))))) .nil))) (.cons (.asg 10 (.draw (.var 1) (.bin .add (.var 2) (.cst (.int 2))))) (.cons (.asg 11 (.cmp1 (.it (.var 3)) (.one 8) (.cmp .eq (.bi .len (.var 8)) (.var 10)) (.var 8))) (.cons (.asg 12 (.cst (.str "number"))) (.cons (.ifs (.cmp .ne (.var 11) (.lst .nil)) (.cons (.asg 13 (.cmp0 (.it (.var 11)) (.one 8) (.call 34 (.cons (.var 5) (.cons (.var 8) .nil))))) (.cons (.asg 12 (.idx (.var 11) (.ind (.var 13) (.bi .max (.var 13))))) .nil)) .nil) (.cons (.ifs (.bop false (.cons (.cmp .ne (.cals 126 (.cons (.var 4) (.cons (.cst (.int 2)) (.cons (.var 10) .nil)))) (.var 12)) (.cons (.cmp .ne (.cals 126 (.cons (.var 4) (.cons (.cst (.int 0)) (.cons (.tup (.cons (.var 2) .nil)) .nil)))) (.cst (.str "set"))) .nil))) (.cons (.ret (.cst (.bool false))) .nil) .nil) (.cons (.asg 8 (.cals 16 (.cons (.var 1) (.cons (.var 2) .nil)))) (.cons (.ifs (.bop false (.cons (.cmp .ne (.mc1 127 (.var 4) (.var 8)) (.call 34 (.cons (.var 5) (.cons (.var 8) .nil)))) (.cons (.cmp .ne (.mc0 128 (.var 4)) (.var 5)) (.cons (.cmp .ne (.mln (.var 4)) (.bi .len (.var 5))) .nil)))) (.cons (.ret (.cst (.bool false))) .nil) .nil) .nil))))))))) (.cons (.ret (.bop true (.cons (.cmp .eq (.mc0 129 (.var 4)) (.call 53 (.cons (.var 2) (.cons (.var 5) .nil)))) (.cons (.cmp .eq (.mc1 127 (.var 4) (.tup .nil)) (.bi .len (.var 5))) .nil)))) .nil))))))), false⟩
/-- 131 -/
def d_set_text : DefI := ⟨"set_text", ["one"], ["one", "thing"], (.cons (.ret (.ite (.cmp .ne (.var 0) (.tup .nil)) (.joi (.cst (.str "")) (.cmp0 (.it (.var 0)) (.one 1) (.bi .str (.var 1)))) (.cst (.str "-")))) .nil), false⟩
/-- 132 -/
def d_parsed_count : DefI := ⟨"parsed_count", ["word"], ["word", "sign"], (.cons (.ifs (.bop false (.cons (.not (.chn .le .le (.cst (.int 1)) (.bi .len (.var 0)) (.cst (.int 2)))) (.cons (.not (.bi .all (.cmp0 (.it (.var 0)) (.one 1) (.cmp .in_ (.var 1) (.glo "DIGITS"))))) (.cons (.cmp .ne (.bi .str (.bi .int (.var 0))) (.var 0)) .nil)))) (.cons (.rse 5) .nil) .nil) (.cons (.ret (.bi .int (.var 0))) .nil)), false⟩
/-- 133 -/
def d_format_set : DefI := ⟨"format_set", ["things", "one"], ["things", "one"], (.cons (.exp (.call 1 (.cons (.var 0) .nil))) (.cons (.exp (.call 3 (.cons (.var 1) (.cons (.var 0) .nil)))) (.cons (.ret (.call 131 (.cons (.var 1) .nil))) .nil))), false⟩
/-- 134 -/
def d_format_baskets : DefI := ⟨"format_baskets", ["things", "baskets"], ["things", "baskets", "basket"], (.cons (.exp (.call 20 (.cons (.var 0) (.cons (.var 1) .nil)))) (.cons (.ret (.joi (.cst (.str " ")) (.cmp0 (.it (.var 1)) (.one 2) (.call 131 (.cons (.var 2) .nil))))) .nil)), false⟩
/-- 135 -/
def d_parse_baskets : DefI := ⟨"parse_baskets", ["things", "text"], ["things", "text", "word", "found"], (.cons (.exp (.call 1 (.cons (.var 0) .nil))) (.cons (.exp (.call 102 (.cons (.var 1) .nil))) (.cons (.asg 3 (.ite (.cmp .ne (.var 1) (.cst (.str ""))) (.cmp0 (.it (.spl (.var 1) (.cst (.str " ")))) (.one 2) (.call 101 (.cons (.var 2) (.cons (.var 0) .nil)))) (.lst .nil))) (.cons (.ifs (.not (.call 19 (.cons (.var 3) (.cons (.var 0) .nil)))) (.cons (.rse 5) .nil) .nil) (.cons (.ret (.var 3)) .nil))))), false⟩
/-- 136 -/
def d_format_table : DefI := ⟨"format_table", ["things", "counts"], ["things", "counts", "one", "many"], (.cons (.exp (.call 23 (.cons (.var 0) (.cons (.var 1) .nil)))) (.cons (.ret (.joi (.cst (.str " ")) (.cmp0 (.zip (.call 4 (.cons (.var 0) .nil)) (.var 1)) (.two 2 3) (.fs3 (.call 131 (.cons (.var 2) .nil)) ":" (.var 3))))) .nil)), false⟩
/-- 137 -/
def d_parse_table : DefI := ⟨"parse_table", ["things", "text"], ["things", "text", "words", "found", "one", "word", "parts"], (.cons (.exp (.call 1 (.cons (.var 0) .nil))) (.cons (.exp (.call 102 (.cons (.var 1) .nil))) (.cons (.asg 2 (.spl (.var 1) (.cst (.str " ")))) (.cons (.ifs (.cmp .ne (.bi .len (.var 2)) (.call 21 (.cons (.var 0) .nil))) (.cons (.rse 5) .nil) .nil) (.cons (.own 3 (.lst .nil)) (.cons (.for_ (.zip (.call 4 (.cons (.var 0) .nil)) (.var 2)) (.two 4 5) (.cons (.asg 6 (.spl (.var 5) (.cst (.str ":")))) (.cons (.ifs (.bop false (.cons (.cmp .ne (.bi .len (.var 6)) (.cst (.int 2))) (.cons (.cmp .ne (.idx (.var 6) (.cst (.int 0))) (.call 131 (.cons (.var 4) .nil))) .nil))) (.cons (.rse 5) .nil) .nil) (.cons (.app 3 (.call 132 (.cons (.idx (.var 6) (.cst (.int 1))) .nil))) .nil)))) (.cons (.shr 3 (.ifs (.not (.call 22 (.cons (.var 3) (.cons (.var 0) .nil)))) (.cons (.rse 5) .nil) .nil)) (.cons (.ret (.var 3)) .nil)))))))), false⟩
/-- 138 -/
def d__law_word : DefI := ⟨"_law_word", ["_law_one"], ["_law_one", "_law_thing"], (.cons (.ret (.ite (.cmp .ne (.var 0) (.tup .nil)) (.joi (.cst (.str "")) (.cmp0 (.it (.var 0)) (.one 1) (.bi .str (.var 1)))) (.cst (.str "-")))) .nil), false⟩
/-- 139 -/
def d__law_written : DefI := ⟨"_law_written", ["_law_kind", "_law_n", "_law_thing"], ["_law_kind", "_law_n", "_law_thing", "_law_one", "_law_many"], (.cons (.ifs (.cmp .eq (.var 0) (.cst (.int 0))) (.cons (.ret (.call 138 (.cons (.var 2) .nil))) .nil) .nil) (.cons (.ifs (.cmp .eq (.var 0) (.cst (.int 1))) (.cons (.ret (.joi (.cst (.str " ")) (.cmp0 (.it (.var 2)) (.one 3) (.call 138 (.cons (.var 3) .nil))))) .nil) .nil) (.cons (.ret (.joi (.cst (.str " ")) (.cmp0 (.zip (.call 15 (.cons (.var 1) .nil)) (.var 2)) (.two 3 4) (.bin .add (.bin .add (.call 138 (.cons (.var 3) .nil)) (.cst (.str ":"))) (.bi .str (.var 4)))))) .nil))), false⟩
/-- 140 -/
def d__law_parsed : DefI := ⟨"_law_parsed", ["_law_kind", "_law_n", "_law_text"], ["_law_kind", "_law_n", "_law_text", "_law_found", "_law_caught", "e"], (.cons (.asg 3 (.cst .none)) (.cons (.asg 4 (.cst .none)) (.cons (.try_ (.cons (.ifs (.cmp .eq (.var 0) (.cst (.int 0))) (.cons (.asg 3 (.call 103 (.cons (.var 1) (.cons (.var 2) .nil)))) .nil) (.cons (.asg 3 (.ite (.cmp .eq (.var 0) (.cst (.int 1))) (.call 135 (.cons (.var 1) (.cons (.var 2) .nil))) (.call 137 (.cons (.var 1) (.cons (.var 2) .nil))))) .nil)) .nil) 0 5 4) (.cons (.ret (.ite (.cmp .is_ (.var 4) (.cst .none)) (.var 3) (.call 76 (.cons (.var 4) .nil)))) .nil)))), false⟩
/-- 141 -/
def d__law_rejected : DefI := ⟨"_law_rejected", [], ["_law_odd", "_law_bad"], (.cons (.asg 0 (.lst (.cons (.cst .none) (.cons (.cst (.int 5)) (.cons (.cst (.str "")) (.cons (.cst (.str " ")) (.cons (.cst (.str "--")) (.cons (.cst (.str "0-")) (.cons (.cst (.str "10")) (.cons (.cst (.str "00")) (.cons (.cst (.str "3")) (.cons (.cst (.str "a")) (.cons (.cst (.str "0 1")) (.cons (.cst (.str "0,1")) (.cons (.cst (.str "+0")) (.cons (.cst (.str "0.")) (.cons (.cst (.str "-0")) .nil))))))))))))))))) (.cons (.ifs (.bop false (.cons (.cmp .ne (.cmp0 (.it (.var 0)) (.one 1) (.call 140 (.cons (.cst (.int 0)) (.cons (.cst (.int 3)) (.cons (.var 1) .nil))))) (.bin .mul (.lst (.cons (.cst (.str "text")) .nil)) (.cst (.int 15)))) (.cons (.cmp .ne (.call 140 (.cons (.cst (.int 0)) (.cons (.cst (.int 3)) (.cons (.cst (.str "02")) .nil)))) (.tup (.cons (.cst (.int 0)) (.cons (.cst (.int 2)) .nil)))) (.cons (.cmp .ne (.call 140 (.cons (.cst (.int 0)) (.cons (.cst (.int 3)) (.cons (.cst (.str "-")) .nil)))) (.tup .nil)) .nil)))) (.cons (.ret (.cst (.bool false))) .nil) .nil) (.cons (.asg 0 (.lst (.cons (.cst .none) (.cons (.cst (.int 5)) (.cons (.cst (.str " ")) (.cons (.cst (.str "0 ")) (.cons (.cst (.str " 0")) (.cons (.cst (.str "0  1")) (.cons (.cst (.str "10 1")) (.cons (.cst (.str "3")) (.cons (.cst (.str "0,1")) (.cons (.cst (.str "a")) (.cons (.cst (.str "- ")) (.cons (.joi (.cst (.str " ")) (.bin .mul (.lst (.cons (.cst (.str "-")) .nil)) (.cst (.int 21)))) .nil)))))))))))))) (.cons (.ifs (.bop false (.cons (.cmp .ne (.cmp0 (.it (.var 0)) (.one 1) (.call 140 (.cons (.cst (.int 1)) (.cons (.cst (.int 3)) (.cons (.var 1) .nil))))) (.bin .mul (.lst (.cons (.cst (.str "text")) .nil)) (.cst (.int 12)))) (.cons (.cmp .ne (.call 140 (.cons (.cst (.int 1)) (.cons (.cst (.int 3)) (.cons (.cst (.str "")) .nil)))) (.lst .nil)) (.cons (.cmp .ne (.call 140 (.cons (.cst (.int 1)) (.cons (.cst (.int 3)) (.cons (.cst (.str "12 - 0")) .nil)))) (.lst (.cons (.tup (.cons (.cst (.int 1)) (.cons (.cst (.int 2)) .nil))) (.cons (.tup .nil) (.cons (.tup (.cons (.cst (.int 0)) .nil)) .nil))))) .nil)))) (.cons (.ret (.cst (.bool false))) .nil) .nil) (.cons (.asg 0 (.lst (.cons (.cst .none) (.cons (.cst (.int 5)) (.cons (.cst (.str "")) (.cons (.cst (.str "-:1")) (.cons (.cst (.str "-:1 0:1 ")) (.cons (.cst (.str "0:1 -:1")) (.cons (.cst (.str "-:1  0:1")) (.cons (.cst (.str "-:21 0:1")) (.cons (.cst (.str "-:01 0:1")) (.cons (.cst (.str "-:1 0:-1")) (.cons (.cst (.str "-:1 0:a")) (.cons (.cst (.str "-:1 0:1 1:1")) (.cons (.cst (.str "-:1 0")) (.cons (.cst (.str "-:1:1 0:1")) (.cons (.cst (.str "-:100 0:1")) (.cons (.cst (.str ":1 0:1")) (.cons (.cst (.str "-: 0:1")) .nil))))))))))))))))))) (.cons (.ret (.bop true (.cons (.cmp .eq (.cmp0 (.it (.var 0)) (.one 1) (.call 140 (.cons (.cst (.int 2)) (.cons (.cst (.int 1)) (.cons (.var 1) .nil))))) (.bin .mul (.lst (.cons (.cst (.str "text")) .nil)) (.cst (.int 17)))) (.cons (.cmp .eq (.call 140 (.cons (.cst (.int 2)) (.cons (.cst (.int 1)) (.cons (.cst (.str "-:20 0:0")) .nil)))) (.lst (.cons (.cst (.int 20)) (.cons (.cst (.int 0)) .nil)))) .nil)))) .nil)))))), false⟩
/-- 142 -/
def d_law_v18 : DefI := ⟨"law", ["_law_script"], ["_law_script", "_law_draws", "_law_n", "_law_one", "_law_rows", "_law_counts", "_law_texts", "_law_things", "_law_kind", "_law_turn", "_law_own", "_law_at", "_law_mark", "_law_other", "_law_found"], (.cons (.asg 1 (.start (.var 0))) (.cons (.asg 2 (.bin .add (.cst (.int 1)) (.draw (.var 1) (.cst (.int 4))))) (.cons (.par3 3 4 5 (.cals 16 (.cons (.var 1) (.cons (.var 2) .nil))) (.cals 33 (.cons (.var 1) (.cons (.var 2) (.cons (.cst (.int 6)) .nil)))) (.cals 37 (.cons (.var 1) (.cons (.var 2) .nil)))) (.cons (.asg 6 (.lst (.cons (.call 133 (.cons (.var 2) (.cons (.var 3) .nil))) (.cons (.call 134 (.cons (.var 2) (.cons (.var 4) .nil))) (.cons (.call 136 (.cons (.var 2) (.cons (.var 5) .nil))) .nil))))) (.cons (.asg 7 (.lst (.cons (.var 3) (.cons (.var 4) (.cons (.var 5) .nil))))) (.cons (.for_ (.rg1 (.cst (.int 3))) (.one 8) (.cons (.ifs (.bop false (.cons (.cmp .ne (.idx (.var 6) (.var 8)) (.call 139 (.cons (.var 8) (.cons (.var 2) (.cons (.idx (.var 7) (.var 8)) .nil))))) (.cons (.cmp .ne (.call 140 (.cons (.var 8) (.cons (.var 2) (.cons (.idx (.var 6) (.var 8)) .nil)))) (.idx (.var 7) (.var 8))) .nil))) (.cons (.ret (.cst (.bool false))) .nil) .nil) (.cons (.for_ (.rg1 (.cst (.int 5))) (.one 9) (.cons (.asg 10 (.idx (.var 6) (.var 8))) (.cons (.asg 11 (.draw (.var 1) (.bin .add (.bi .len (.var 10)) (.cst (.int 1))))) (.cons (.asg 12 (.pick (.var 1) (.lst (.cons (.cst (.str "0")) (.cons (.cst (.str "1")) (.cons (.cst (.str "9")) (.cons (.cst (.str " ")) (.cons (.cst (.str "-")) (.cons (.cst (.str ":")) (.cons (.cst (.str "x")) (.cons (.cst (.str "")) .nil))))))))))) (.cons (.asg 13 (.pick (.var 1) (.lst (.cons (.bin .add (.bin .add (.slc (.var 10) .none (.some (.var 11))) (.var 12)) (.slc (.var 10) (.some (.bin .add (.var 11) (.cst (.int 1)))) .none)) (.cons (.bin .add (.bin .add (.slc (.var 10) .none (.some (.var 11))) (.var 12)) (.slc (.var 10) (.some (.var 11)) .none)) .nil))))) (.cons (.asg 14 (.call 140 (.cons (.var 8) (.cons (.var 2) (.cons (.var 13) .nil))))) (.cons (.ifs (.bop true (.cons (.cmp .ne (.var 14) (.cst (.str "text"))) (.cons (.cmp .ne (.var 13) (.call 139 (.cons (.var 8) (.cons (.var 2) (.cons (.var 14) .nil))))) .nil))) (.cons (.ret (.cst (.bool false))) .nil) .nil) .nil))))))) .nil))) (.cons (.ret (.call 141 .nil)) .nil))))))), false⟩
/-- 143 -/
def d_sets_of_v2 : DefI := ⟨"sets_of", ["things"], ["things", "found", "thing", "one", "size"], (.cons (.own 1 (.lst (.cons (.tup .nil) .nil))) (.cons (.for_ (.rg1 (.var 0)) (.one 2) (.cons (.ext 1 (.cmp0 (.it (.ovr 1)) (.one 3) (.bin .add (.var 3) (.tup (.cons (.var 2) .nil))))) .nil)) (.cons (.reto (.cmp0 (.it (.bi .srt (.cmp0 (.it (.ovr 1)) (.one 3) (.tup (.cons (.bi .len (.var 3)) (.cons (.var 3) .nil)))))) (.two 4 3) (.var 3))) .nil))), true⟩
/-- 144 -/
def d_all_sets_v2 : DefI := ⟨"all_sets", ["things"], ["things"], (.cons (.exp (.call 1 (.cons (.var 0) .nil))) (.cons (.reto (.call 143 (.cons (.var 0) .nil))) .nil)), true⟩
/-- 145 -/
def d_greater_sets_v2 : DefI := ⟨"greater_sets", ["things", "one"], ["things", "one", "other"], (.cons (.exp (.call 1 (.cons (.var 0) .nil))) (.cons (.exp (.call 3 (.cons (.var 1) (.cons (.var 0) .nil)))) (.cons (.reto (.cmp1 (.it (.call 143 (.cons (.var 0) .nil))) (.one 2) (.call 6 (.cons (.var 1) (.cons (.var 2) .nil))) (.var 2))) .nil))), true⟩
/-- 146 -/
def d_table_v2 : DefI := ⟨"table", ["things", "baskets"], ["things", "baskets", "one"], (.cons (.exp (.call 20 (.cons (.var 0) (.cons (.var 1) .nil)))) (.cons (.reto (.cmp0 (.it (.call 143 (.cons (.var 0) .nil))) (.one 2) (.call 24 (.cons (.var 1) (.cons (.var 2) .nil))))) .nil)), true⟩
/-- 147 -/
def d_exact_v2 : DefI := ⟨"exact", ["things", "baskets"], ["things", "baskets", "one"], (.cons (.exp (.call 20 (.cons (.var 0) (.cons (.var 1) .nil)))) (.cons (.reto (.cmp0 (.it (.call 143 (.cons (.var 0) .nil))) (.one 2) (.cnt (.var 1) (.var 2)))) .nil)), true⟩
/-- 148 -/
def d_exact_numbers_v2 : DefI := ⟨"exact_numbers", ["things", "counts"], ["things", "counts", "found", "one", "whole", "other", "many"], (.cons (.own 2 (.lst .nil)) (.cons (.for_ (.it (.call 143 (.cons (.var 0) .nil))) (.one 3) (.cons (.asg 4 (.cst (.int 0))) (.cons (.for_ (.zip (.call 143 (.cons (.var 0) .nil)) (.var 1)) (.two 5 6) (.cons (.ifs (.call 6 (.cons (.var 3) (.cons (.var 5) .nil))) (.cons (.aug 4 (.ite (.cmp .eq (.bin .mod (.bin .sub (.bi .len (.var 5)) (.bi .len (.var 3))) (.cst (.int 2))) (.cst (.int 0))) (.var 6) (.neg (.var 6)))) .nil) .nil) .nil)) (.cons (.app 2 (.var 4)) .nil)))) (.cons (.retv 2) .nil))), true⟩
/-- 149 -/
def d_exact_of_v2 : DefI := ⟨"exact_of", ["things", "counts"], ["things", "counts"], (.cons (.exp (.call 23 (.cons (.var 0) (.cons (.var 1) .nil)))) (.cons (.reto (.call 148 (.cons (.var 0) (.cons (.var 1) .nil)))) .nil)), true⟩
/-- 150 -/
def d_table_of_v2 : DefI := ⟨"table_of", ["things", "numbers"], ["things", "numbers", "found", "one", "other", "many"], (.cons (.exp (.call 1 (.cons (.var 0) .nil))) (.cons (.ifs (.not (.call 22 (.cons (.var 1) (.cons (.var 0) .nil)))) (.cons (.rse 4) .nil) .nil) (.cons (.ifs (.cmp .gt (.bi .sum (.var 1)) (.cst (.int 20))) (.cons (.rse 4) .nil) .nil) (.cons (.own 2 (.lst .nil)) (.cons (.for_ (.it (.call 143 (.cons (.var 0) .nil))) (.one 3) (.cons (.app 2 (.bi .sum (.cmp1 (.zip (.call 143 (.cons (.var 0) .nil)) (.var 1)) (.two 4 5) (.call 6 (.cons (.var 3) (.cons (.var 4) .nil))) (.var 5)))) .nil)) (.cons (.retv 2) .nil)))))), true⟩
/-- 151 -/
def d_sizes_v2 : DefI := ⟨"sizes", ["things", "baskets"], ["things", "baskets", "basket", "size"], (.cons (.exp (.call 20 (.cons (.var 0) (.cons (.var 1) .nil)))) (.cons (.reto (.cmp0 (.rg1 (.bin .add (.var 0) (.cst (.int 1)))) (.one 3) (.bi .len (.cmp1 (.it (.var 1)) (.one 2) (.cmp .eq (.bi .len (.var 2)) (.var 3)) (.var 2))))) .nil)), true⟩
/-- 152 -/
def d_can_be_v2 : DefI := ⟨"can_be", ["things", "counts"], ["things", "counts"], (.cons (.exp (.call 23 (.cons (.var 0) (.cons (.var 1) .nil)))) (.cons (.ret (.cmp .ge (.bi .min (.call 148 (.cons (.var 0) (.cons (.var 1) .nil)))) (.cst (.int 0)))) .nil)), false⟩
/-- 153 -/
def d_baskets_for_v2 : DefI := ⟨"baskets_for", ["things", "counts"], ["things", "counts", "numbers", "found", "one", "many"], (.cons (.exp (.call 23 (.cons (.var 0) (.cons (.var 1) .nil)))) (.cons (.asg 2 (.call 148 (.cons (.var 0) (.cons (.var 1) .nil)))) (.cons (.ifs (.cmp .lt (.bi .min (.var 2)) (.cst (.int 0))) (.cons (.rse 6) .nil) .nil) (.cons (.own 3 (.lst .nil)) (.cons (.for_ (.zip (.call 143 (.cons (.var 0) .nil)) (.var 2)) (.two 4 5) (.cons (.ext 3 (.bin .mul (.lst (.cons (.var 4) .nil)) (.var 5))) .nil)) (.cons (.retv 3) .nil)))))), true⟩
/-- 154 -/
def d_missing_range_v3 : DefI := ⟨"missing_range", ["things", "counts", "one"], ["things", "counts", "one", "place", "zero", "low", "high", "other", "many"], (.cons (.exp (.call 23 (.cons (.var 0) (.cons (.var 1) .nil)))) (.cons (.exp (.call 3 (.cons (.var 2) (.cons (.var 0) .nil)))) (.cons (.asg 3 (.ind (.call 143 (.cons (.var 0) .nil)) (.var 2))) (.cons (.own 4 (.bi .list (.var 1))) (.cons (.put 4 (.var 3) (.cst (.int 0))) (.cons (.unp 5 6 (.tup (.cons (.cst (.int 0)) (.cons (.cst (.int 20)) .nil)))) (.cons (.shr 4 (.for_ (.zip (.call 143 (.cons (.var 0) .nil)) (.call 148 (.cons (.var 0) (.cons (.var 4) .nil)))) (.two 7 8) (.cons (.ifs (.call 6 (.cons (.var 7) (.cons (.var 2) .nil))) (.cons (.ifs (.cmp .eq (.bin .mod (.bin .sub (.bi .len (.var 2)) (.bi .len (.var 7))) (.cst (.int 2))) (.cst (.int 0))) (.cons (.asg 5 (.mx2 true (.var 5) (.neg (.var 8)))) .nil) (.cons (.asg 6 (.mx2 false (.var 6) (.var 8))) .nil)) .nil) (.cons (.ifs (.cmp .lt (.var 8) (.cst (.int 0))) (.cons (.rse 6) .nil) .nil) .nil)) .nil))) (.cons (.ifs (.cmp .gt (.var 5) (.var 6)) (.cons (.rse 6) .nil) .nil) (.cons (.ret (.tup (.cons (.var 5) (.cons (.var 6) .nil)))) .nil))))))))), false⟩
/-- 155 -/
def d_fitting_v2 : DefI := ⟨"fitting", ["things", "known"], ["things", "known", "one", "many", "whole", "every", "other", "masks", "found", "numbers", "n", "inside", "mask"], (.cons (.asg 4 (.idx (.cmp1 (.it (.var 1)) (.two 2 3) (.cmp .eq (.var 2) (.tup .nil)) (.var 3)) (.cst (.int 0)))) (.cons (.asg 5 (.call 143 (.cons (.var 0) .nil))) (.cons (.asg 7 (.cmp0 (.it (.var 1)) (.two 2 3) (.tup (.cons (.var 3) (.cons (.cmp0 (.it (.var 5)) (.one 6) (.call 6 (.cons (.var 2) (.cons (.var 6) .nil)))) .nil))))) (.cons (.own 8 (.lst .nil)) (.cons (.for_ (.it (.call 40 (.cons (.var 4) (.cons (.bi .len (.var 5)) .nil)))) (.one 9) (.cons (.ifs (.bi .all (.cmp0 (.it (.var 7)) (.two 3 12) (.cmp .eq (.bi .sum (.cmp1 (.zip (.var 9) (.var 12)) (.two 10 11) (.var 11) (.var 10))) (.var 3)))) (.cons (.app 8 (.var 9)) .nil) .nil) .nil)) (.cons (.shr 8 (.ret (.var 8))) .nil)))))), false⟩
/-- 156 -/
def d_possible_counts_v2 : DefI := ⟨"possible_counts", ["things", "known", "one"], ["things", "known", "one", "other", "mask", "n", "inside", "numbers", "found"], (.cons (.exp (.call 39 (.cons (.var 0) (.cons (.var 1) .nil)))) (.cons (.exp (.call 3 (.cons (.var 2) (.cons (.var 0) .nil)))) (.cons (.asg 4 (.cmp0 (.it (.call 143 (.cons (.var 0) .nil))) (.one 3) (.call 6 (.cons (.var 2) (.cons (.var 3) .nil))))) (.cons (.asg 8 (.cmp0 (.it (.call 155 (.cons (.var 0) (.cons (.var 1) .nil)))) (.one 7) (.bi .sum (.cmp1 (.zip (.var 7) (.var 4)) (.two 5 6) (.var 6) (.var 5))))) (.cons (.reto (.srs (.var 8))) .nil))))), true⟩
/-- 157 -/
def d_closed_sets_v2 : DefI := ⟨"closed_sets", ["things", "baskets"], ["things", "baskets", "one"], (.cons (.exp (.call 20 (.cons (.var 0) (.cons (.var 1) .nil)))) (.cons (.reto (.cmp1 (.it (.call 143 (.cons (.var 0) .nil))) (.one 2) (.cmp .eq (.call 46 (.cons (.var 0) (.cons (.var 1) (.cons (.var 2) .nil)))) (.var 2)) (.tup (.cons (.var 2) (.cons (.call 24 (.cons (.var 1) (.cons (.var 2) .nil))) .nil))))) .nil)), true⟩
/-- 158 -/
def d_table_by_closed_v2 : DefI := ⟨"table_by_closed", ["things", "baskets"], ["things", "baskets", "one", "known", "found", "other", "many"], (.cons (.exp (.call 20 (.cons (.var 0) (.cons (.var 1) .nil)))) (.cons (.asg 3 (.cmp1 (.it (.call 143 (.cons (.var 0) .nil))) (.one 2) (.cmp .eq (.call 46 (.cons (.var 0) (.cons (.var 1) (.cons (.var 2) .nil)))) (.var 2)) (.tup (.cons (.var 2) (.cons (.call 24 (.cons (.var 1) (.cons (.var 2) .nil))) .nil))))) (.cons (.own 4 (.lst .nil)) (.cons (.for_ (.it (.call 143 (.cons (.var 0) .nil))) (.one 2) (.cons (.app 4 (.bi .max (.cmp1 (.it (.var 3)) (.two 5 6) (.call 6 (.cons (.var 2) (.cons (.var 5) .nil))) (.var 6)))) .nil)) (.cons (.retv 4) .nil))))), true⟩
/-- 159 -/
def d_keys_of_v2 : DefI := ⟨"keys_of", ["things", "baskets", "one"], ["things", "baskets", "one", "goal", "other", "same", "part"], (.cons (.exp (.call 20 (.cons (.var 0) (.cons (.var 1) .nil)))) (.cons (.exp (.call 3 (.cons (.var 2) (.cons (.var 0) .nil)))) (.cons (.asg 3 (.call 46 (.cons (.var 0) (.cons (.var 1) (.cons (.var 2) .nil))))) (.cons (.asg 5 (.cmp1 (.it (.call 143 (.cons (.var 0) .nil))) (.one 4) (.cmp .eq (.call 46 (.cons (.var 0) (.cons (.var 1) (.cons (.var 4) .nil)))) (.var 3)) (.var 4))) (.cons (.reto (.cmp1 (.it (.var 5)) (.one 4) (.not (.bi .any (.cmp0 (.it (.var 5)) (.one 6) (.bop true (.cons (.cmp .ne (.var 6) (.var 4)) (.cons (.call 6 (.cons (.var 6) (.cons (.var 4) .nil))) .nil)))))) (.var 4))) .nil))))), true⟩
/-- 160 -/
def d_classes_v2 : DefI := ⟨"classes", ["things", "baskets"], ["things", "baskets", "found", "goal", "one"], (.cons (.exp (.call 20 (.cons (.var 0) (.cons (.var 1) .nil)))) (.cons (.own 2 (.lst .nil)) (.cons (.for_ (.it (.cmp1 (.it (.call 143 (.cons (.var 0) .nil))) (.one 4) (.cmp .eq (.call 46 (.cons (.var 0) (.cons (.var 1) (.cons (.var 4) .nil)))) (.var 4)) (.var 4))) (.one 3) (.cons (.app 2 (.nlst (.cmp1 (.it (.call 143 (.cons (.var 0) .nil))) (.one 4) (.cmp .eq (.call 46 (.cons (.var 0) (.cons (.var 1) (.cons (.var 4) .nil)))) (.var 3)) (.var 4)))) .nil)) (.cons (.shr 2 (.ret (.var 2))) .nil)))), false⟩
/-- 161 -/
def d_often_v2 : DefI := ⟨"often", ["things", "baskets", "limit"], ["things", "baskets", "limit", "one"], (.cons (.reto (.cmp1 (.it (.call 143 (.cons (.var 0) .nil))) (.one 3) (.cmp .ge (.call 24 (.cons (.var 1) (.cons (.var 3) .nil))) (.var 2)) (.var 3))) .nil), true⟩
/-- 162 -/
def d_often_sets_v2 : DefI := ⟨"often_sets", ["things", "baskets", "limit"], ["things", "baskets", "limit"], (.cons (.exp (.call 20 (.cons (.var 0) (.cons (.var 1) .nil)))) (.cons (.exp (.call 56 (.cons (.var 2) .nil))) (.cons (.reto (.call 161 (.cons (.var 0) (.cons (.var 1) (.cons (.var 2) .nil))))) .nil))), true⟩
/-- 163 -/
def d_greatest_sets_v2 : DefI := ⟨"greatest_sets", ["things", "baskets", "limit"], ["things", "baskets", "limit", "found", "one", "other"], (.cons (.exp (.call 20 (.cons (.var 0) (.cons (.var 1) .nil)))) (.cons (.exp (.call 56 (.cons (.var 2) .nil))) (.cons (.asg 3 (.call 161 (.cons (.var 0) (.cons (.var 1) (.cons (.var 2) .nil))))) (.cons (.reto (.cmp1 (.it (.var 3)) (.one 4) (.not (.bi .any (.cmp0 (.it (.var 3)) (.one 5) (.bop true (.cons (.cmp .ne (.var 5) (.var 4)) (.cons (.call 6 (.cons (.var 4) (.cons (.var 5) .nil))) .nil)))))) (.var 4))) .nil)))), true⟩
/-- 164 -/
def d_least_rare_sets_v2 : DefI := ⟨"least_rare_sets", ["things", "baskets", "limit"], ["things", "baskets", "limit", "found", "one", "rare", "other"], (.cons (.exp (.call 20 (.cons (.var 0) (.cons (.var 1) .nil)))) (.cons (.exp (.call 56 (.cons (.var 2) .nil))) (.cons (.asg 3 (.call 161 (.cons (.var 0) (.cons (.var 1) (.cons (.var 2) .nil))))) (.cons (.asg 5 (.cmp1 (.it (.call 143 (.cons (.var 0) .nil))) (.one 4) (.cmp .nin (.var 4) (.var 3)) (.var 4))) (.cons (.reto (.cmp1 (.it (.var 5)) (.one 4) (.not (.bi .any (.cmp0 (.it (.var 5)) (.one 6) (.bop true (.cons (.cmp .ne (.var 6) (.var 4)) (.cons (.call 6 (.cons (.var 6) (.cons (.var 4) .nil))) .nil)))))) (.var 4))) .nil))))), true⟩
/-- 165 -/
def d_numbers_by_limit_v2 : DefI := ⟨"numbers_by_limit", ["things", "baskets"], ["things", "baskets", "found", "limit"], (.cons (.exp (.call 20 (.cons (.var 0) (.cons (.var 1) .nil)))) (.cons (.own 2 (.lst .nil)) (.cons (.for_ (.rg2 (.cst (.int 1)) (.bin .add (.bi .len (.var 1)) (.cst (.int 1)))) (.one 3) (.cons (.app 2 (.bi .len (.call 161 (.cons (.var 0) (.cons (.var 1) (.cons (.var 3) .nil)))))) .nil)) (.cons (.retv 2) .nil)))), true⟩
/-- 166 -/
def d_against_v2 : DefI := ⟨"against", ["things", "baskets", "one", "other"], ["things", "baskets", "one", "other", "k", "basket"], (.cons (.exp (.call 79 (.cons (.var 0) (.cons (.var 1) (.cons (.var 2) (.cons (.var 3) .nil)))))) (.cons (.reto (.cmp1 (.enu (.var 1)) (.two 4 5) (.bop true (.cons (.call 6 (.cons (.var 2) (.cons (.var 5) .nil))) (.cons (.not (.call 6 (.cons (.var 3) (.cons (.var 5) .nil)))) .nil))) (.var 4))) .nil)), true⟩
/-- 167 -/
def d_single_rules_v2 : DefI := ⟨"single_rules", ["things", "baskets"], ["things", "baskets", "found", "one", "thing", "part", "parts"], (.cons (.exp (.call 20 (.cons (.var 0) (.cons (.var 1) .nil)))) (.cons (.own 2 (.lst .nil)) (.cons (.for_ (.it (.call 143 (.cons (.var 0) .nil))) (.one 3) (.cons (.for_ (.rg1 (.var 0)) (.one 4) (.cons (.ifs (.bop true (.cons (.cmp .nin (.var 4) (.var 3)) (.cons (.cmp .in_ (.var 4) (.call 46 (.cons (.var 0) (.cons (.var 1) (.cons (.var 3) .nil))))) .nil))) (.cons (.asg 6 (.cmp1 (.it (.call 143 (.cons (.var 0) .nil))) (.one 5) (.bop true (.cons (.cmp .ne (.var 5) (.var 3)) (.cons (.call 6 (.cons (.var 5) (.cons (.var 3) .nil))) .nil))) (.var 5))) (.cons (.ifs (.not (.bi .any (.cmp0 (.it (.var 6)) (.one 5) (.cmp .in_ (.var 4) (.call 46 (.cons (.var 0) (.cons (.var 1) (.cons (.var 5) .nil)))))))) (.cons (.app 2 (.tup (.cons (.var 3) (.cons (.var 4) .nil)))) .nil) .nil) .nil)) .nil) .nil)) .nil)) (.cons (.retv 2) .nil)))), true⟩
/-- 168 -/
def d_checked_v2 : DefI := ⟨"checked", ["things", "baskets"], ["things", "baskets"], (.cons (.ifs (.not (.tcal 19 1 0)) (.cons (.rse 2) .nil) .nil) (.cons (.ret (.var 1)) .nil)), false⟩
/-- 169 -/
def d_with_basket_v2 : DefI := ⟨"with_basket", ["things", "baskets", "basket"], ["things", "baskets", "basket"], (.cons (.exp (.call 20 (.cons (.var 0) (.cons (.var 1) .nil)))) (.cons (.exp (.call 3 (.cons (.var 2) (.cons (.var 0) .nil)))) (.cons (.ret (.cals 168 (.cons (.var 0) (.cons (.nlst (.bin .add (.var 1) (.lst (.cons (.var 2) .nil)))) .nil)))) .nil))), false⟩
/-- 170 -/
def d_without_basket_v2 : DefI := ⟨"without_basket", ["things", "baskets", "basket"], ["things", "baskets", "basket", "place"], (.cons (.exp (.call 20 (.cons (.var 0) (.cons (.var 1) .nil)))) (.cons (.exp (.call 3 (.cons (.var 2) (.cons (.var 0) .nil)))) (.cons (.ifs (.cmp .nin (.var 2) (.var 1)) (.cons (.rse 6) .nil) .nil) (.cons (.asg 3 (.ind (.var 1) (.var 2))) (.cons (.reto (.bin .add (.slc (.var 1) .none (.some (.var 3))) (.slc (.var 1) (.some (.bin .add (.var 3) (.cst (.int 1)))) .none))) .nil))))), true⟩
/-- 171 -/
def d_joined_v2 : DefI := ⟨"joined", ["things", "baskets", "other"], ["things", "baskets", "other"], (.cons (.exp (.call 20 (.cons (.var 0) (.cons (.var 1) .nil)))) (.cons (.exp (.call 20 (.cons (.var 0) (.cons (.var 2) .nil)))) (.cons (.ret (.cals 168 (.cons (.var 0) (.cons (.nlst (.bin .add (.var 1) (.var 2))) .nil)))) .nil))), false⟩
/-- 172 -/
def d_renamed_v2 : DefI := ⟨"renamed", ["things", "baskets", "names"], ["things", "baskets", "names", "thing", "basket"], (.cons (.exp (.call 20 (.cons (.var 0) (.cons (.var 1) .nil)))) (.cons (.exp (.call 73 (.cons (.var 0) (.cons (.var 2) .nil)))) (.cons (.reto (.cmp0 (.it (.var 1)) (.one 4) (.bi .tup (.bi .srt (.cmp0 (.it (.var 4)) (.one 3) (.idx (.var 2) (.var 3))))))) .nil))), true⟩
/-- 173 -/
def d_turned_over_v2 : DefI := ⟨"turned_over", ["things", "baskets"], ["things", "baskets", "thing", "basket"], (.cons (.exp (.call 20 (.cons (.var 0) (.cons (.var 1) .nil)))) (.cons (.reto (.cmp0 (.it (.var 1)) (.one 3) (.bi .tup (.cmp1 (.rg1 (.var 0)) (.one 2) (.cmp .nin (.var 2) (.var 3)) (.var 2))))) .nil)), true⟩
/-- 174 -/
def d_limited_v2 : DefI := ⟨"limited", ["things", "baskets", "one"], ["things", "baskets", "one", "basket", "thing"], (.cons (.exp (.call 20 (.cons (.var 0) (.cons (.var 1) .nil)))) (.cons (.exp (.call 3 (.cons (.var 2) (.cons (.var 0) .nil)))) (.cons (.reto (.cmp1 (.it (.var 1)) (.one 3) (.bi .all (.cmp0 (.it (.var 2)) (.one 4) (.cmp .in_ (.var 4) (.var 3)))) (.var 3))) .nil))), true⟩
/-- 175 -/
def d_in_order_v2 : DefI := ⟨"in_order", ["things", "baskets"], ["things", "baskets", "size", "one", "basket"], (.cons (.exp (.call 20 (.cons (.var 0) (.cons (.var 1) .nil)))) (.cons (.reto (.cmp0 (.it (.bi .srt (.cmp0 (.it (.var 1)) (.one 4) (.tup (.cons (.bi .len (.var 4)) (.cons (.var 4) .nil)))))) (.two 2 3) (.var 3))) .nil)), true⟩
/-- 176 -/
def d_format_table_v2 : DefI := ⟨"format_table", ["things", "counts"], ["things", "counts", "one", "many"], (.cons (.exp (.call 23 (.cons (.var 0) (.cons (.var 1) .nil)))) (.cons (.ret (.joi (.cst (.str " ")) (.cmp0 (.zip (.call 143 (.cons (.var 0) .nil)) (.var 1)) (.two 2 3) (.fs3 (.call 131 (.cons (.var 2) .nil)) ":" (.var 3))))) .nil)), false⟩
/-- 177 -/
def d__law_first_v2 : DefI := ⟨"_law_first", ["_law_n", "_law_rows", "_law_one"], ["_law_n", "_law_rows", "_law_one"], (.cons (.tapp (.nlst (.call 146 (.cons (.var 0) (.cons (.var 1) .nil)))) (.cst (.int 0))) (.cons (.tapp (.nlst (.call 147 (.cons (.var 0) (.cons (.var 1) .nil)))) (.cst (.int 0))) (.cons (.tapp (.nlst (.call 151 (.cons (.var 0) (.cons (.var 1) .nil)))) (.cst (.int 0))) (.cons (.tapp (.nlst (.call 157 (.cons (.var 0) (.cons (.var 1) .nil)))) (.tup .nil)) (.cons (.tapp (.nlst (.call 158 (.cons (.var 0) (.cons (.var 1) .nil)))) (.cst (.int 0))) (.cons (.tapp (.nlst (.call 159 (.cons (.var 0) (.cons (.var 1) (.cons (.var 2) .nil))))) (.tup .nil)) (.cons (.tapp (.idx (.cals 160 (.cons (.var 0) (.cons (.var 1) .nil))) (.cst (.int 0))) (.tup .nil)) (.cons (.tapp (.nlst (.call 162 (.cons (.var 0) (.cons (.var 1) (.cons (.cst (.int 1)) .nil))))) (.tup .nil)) (.cons (.tapp (.nlst (.call 163 (.cons (.var 0) (.cons (.var 1) (.cons (.cst (.int 1)) .nil))))) (.tup .nil)) (.cons (.tapp (.nlst (.call 164 (.cons (.var 0) (.cons (.var 1) (.cons (.cst (.int 1)) .nil))))) (.tup .nil)) (.cons (.tapp (.nlst (.call 165 (.cons (.var 0) (.cons (.var 1) .nil)))) (.cst (.int 0))) (.cons (.tapp (.nlst (.call 166 (.cons (.var 0) (.cons (.var 1) (.cons (.var 2) (.cons (.tup (.cons (.cst (.int 0)) .nil)) .nil)))))) (.cst (.int 0))) (.cons (.tapp (.nlst (.call 167 (.cons (.var 0) (.cons (.var 1) .nil)))) (.tup .nil)) (.cons (.tapp (.cals 169 (.cons (.var 0) (.cons (.var 1) (.cons (.var 2) .nil)))) (.tup .nil)) (.cons (.tapp (.cals 171 (.cons (.var 0) (.cons (.var 1) (.cons (.var 1) .nil)))) (.tup .nil)) (.cons (.tapp (.nlst (.call 174 (.cons (.var 0) (.cons (.var 1) (.cons (.var 2) .nil))))) (.tup .nil)) (.cons (.tapp (.nlst (.call 175 (.cons (.var 0) (.cons (.var 1) .nil)))) (.tup .nil)) (.cons (.tapp (.nlst (.call 172 (.cons (.var 0) (.cons (.var 1) (.cons (.trg (.var 0)) .nil))))) (.tup .nil)) (.cons (.tapp (.nlst (.call 173 (.cons (.var 0) (.cons (.var 1) .nil)))) (.tup .nil)) (.cons (.tapp (.nlst (.call 170 (.cons (.var 0) (.cons (.var 1) (.cons (.idx (.var 1) (.cst (.int 0))) .nil))))) (.tup .nil)) (.cons (.tapp (.nlst (.call 144 (.cons (.var 0) .nil))) (.tup .nil)) (.cons (.tapp (.nlst (.call 145 (.cons (.var 0) (.cons (.var 2) .nil)))) (.tup .nil)) (.cons (.ret (.call 134 (.cons (.var 0) (.cons (.var 1) .nil)))) .nil))))))))))))))))))))))), false⟩
/-- 178 -/
def d_Till__baskets_v2 : DefI := ⟨"baskets", ["self"], ["self"], (.cons (.reto (.lcpy 0)) .nil), true⟩
/-- 179 -/
def d_Till__table_v2 : DefI := ⟨"table", ["self"], ["self", "one"], (.cons (.reto (.cmp0 (.it (.call 143 (.cons (.thg 0) .nil))) (.one 1) (.lcal 24 0 1))) .nil), true⟩
/-- 180 -/
def d_law_v19 : DefI := ⟨"law", ["_law_script"], ["_law_script", "_law_draws", "_law_n", "_law_rows", "_law_kept", "_law_one", "_law_counts", "_law_own", "_law_known", "_law_shown"], (.cons (.asg 1 (.start (.var 0))) (.cons (.asg 2 (.bin .add (.cst (.int 1)) (.draw (.var 1) (.cst (.int 4))))) (.cons (.asg 3 (.bin .add (.lst (.cons (.cals 16 (.cons (.var 1) (.cons (.var 2) .nil))) .nil)) (.cals 33 (.cons (.var 1) (.cons (.var 2) (.cons (.cst (.int 7)) .nil)))))) (.cons (.asg 4 (.bi .list (.var 3))) (.cons (.asg 5 (.cals 16 (.cons (.var 1) (.cons (.var 2) .nil)))) (.cons (.asg 6 (.call 53 (.cons (.var 2) (.cons (.var 3) .nil)))) (.cons (.asg 7 (.bi .list (.var 6))) (.cons (.ifs (.bop false (.cons (.cmp .lt (.bi .len (.cals 177 (.cons (.var 2) (.cons (.var 3) (.cons (.var 5) .nil))))) (.cst (.int 1))) (.cons (.cmp .ne (.var 3) (.var 4)) (.cons (.cmp .ne (.call 144 (.cons (.var 2) .nil)) (.call 15 (.cons (.var 2) .nil))) .nil)))) (.cons (.ret (.cst (.bool false))) .nil) .nil) (.cons (.tapp (.nlst (.call 149 (.cons (.var 2) (.cons (.var 6) .nil)))) (.cst (.int 0))) (.cons (.tapp (.nlst (.call 153 (.cons (.var 2) (.cons (.var 6) .nil)))) (.tup .nil)) (.cons (.exp (.call 154 (.cons (.var 2) (.cons (.var 6) (.cons (.var 5) .nil))))) (.cons (.tapp (.nlst (.call 150 (.cons (.var 2) (.cons (.call 147 (.cons (.var 2) (.cons (.var 3) .nil))) .nil)))) (.cst (.int 0))) (.cons (.exp (.call 176 (.cons (.var 2) (.cons (.var 6) .nil)))) (.cons (.asg 8 (.lst (.cons (.tup (.cons (.tup .nil) (.cons (.cst (.int 2)) .nil))) (.cons (.tup (.cons (.tup (.cons (.cst (.int 0)) .nil)) (.cons (.cst (.int 1)) .nil))) .nil)))) (.cons (.tapp (.nlst (.call 156 (.cons (.mx2 false (.var 2) (.cst (.int 2))) (.cons (.var 8) (.cons (.tup .nil) .nil))))) (.cst (.int 0))) (.cons (.ifs (.bop false (.cons (.cmp .ne (.var 6) (.var 7)) (.cons (.cmp .ne (.var 8) (.lst (.cons (.tup (.cons (.tup .nil) (.cons (.cst (.int 2)) .nil))) (.cons (.tup (.cons (.tup (.cons (.cst (.int 0)) .nil)) (.cons (.cst (.int 1)) .nil))) .nil)))) (.cons (.cmp .isn (.call 152 (.cons (.var 2) (.cons (.var 6) .nil))) (.cst (.bool true))) .nil)))) (.cons (.ret (.cst (.bool false))) .nil) .nil) (.cons (.asg 9 (.tnew 9001 (.var 2))) (.cons (.exp (.mc1 123 (.var 9) (.var 5))) (.cons (.tapp (.nlst (.mc0 178 (.var 9))) (.tup .nil)) (.cons (.tapp (.nlst (.mc0 179 (.var 9))) (.cst (.int 0))) (.cons (.ret (.bop true (.cons (.cmp .eq (.mc0 178 (.var 9)) (.lst (.cons (.var 5) .nil))) (.cons (.cmp .eq (.mln (.var 9)) (.cst (.int 1))) (.cons (.cmp .eq (.var 3) (.var 4)) .nil))))) .nil))))))))))))))))))))), false⟩
/-- 181 -/
def d_Till__most_often_v2 : DefI := ⟨"most_often", ["self", "size"], ["self", "size"], (.cons (.exp (.call 99 (.cons (.cst (.int 0)) .nil))) .nil), false⟩
/-- 182 -/
def d_Till__undo_v2 : DefI := ⟨"undo", ["self"], ["self"], (.cons (.exp (.call 99 (.cons (.cst (.int 1)) .nil))) .nil), false⟩
/-- 183 -/
def d__law_one : DefI := ⟨"_law_one", ["_law_kind", "_law_n", "_law_rows"], ["_law_kind", "_law_n", "_law_rows"], (.cons (.ifs (.cmp .eq (.var 0) (.cst (.int 0))) (.cons (.ret (.call 26 (.cons (.var 1) (.cons (.var 2) .nil)))) .nil) .nil) (.cons (.ifs (.cmp .eq (.var 0) (.cst (.int 1))) (.cons (.ret (.call 27 (.cons (.var 1) (.cons (.var 2) .nil)))) .nil) .nil) (.cons (.ifs (.cmp .eq (.var 0) (.cst (.int 2))) (.cons (.ret (.call 32 (.cons (.var 1) (.cons (.var 2) .nil)))) .nil) .nil) (.cons (.ifs (.cmp .eq (.var 0) (.cst (.int 3))) (.cons (.ret (.call 49 (.cons (.var 1) (.cons (.var 2) .nil)))) .nil) .nil) (.cons (.ifs (.cmp .eq (.var 0) (.cst (.int 4))) (.cons (.ret (.call 50 (.cons (.var 1) (.cons (.var 2) .nil)))) .nil) .nil) (.cons (.ifs (.cmp .eq (.var 0) (.cst (.int 5))) (.cons (.ret (.call 52 (.cons (.var 1) (.cons (.var 2) .nil)))) .nil) .nil) (.cons (.ifs (.cmp .eq (.var 0) (.cst (.int 6))) (.cons (.ret (.call 62 (.cons (.var 1) (.cons (.var 2) .nil)))) .nil) .nil) (.cons (.ifs (.cmp .eq (.var 0) (.cst (.int 7))) (.cons (.ret (.call 84 (.cons (.var 1) (.cons (.var 2) .nil)))) .nil) .nil) (.cons (.ifs (.cmp .eq (.var 0) (.cst (.int 8))) (.cons (.ret (.call 70 (.cons (.var 1) (.cons (.var 2) .nil)))) .nil) .nil) (.cons (.ret (.ite (.cmp .eq (.var 0) (.cst (.int 9))) (.call 88 (.cons (.var 1) (.cons (.var 2) .nil))) (.call 134 (.cons (.var 1) (.cons (.var 2) .nil))))) .nil)))))))))), false⟩
/-- 184 -/
def d__law_two : DefI := ⟨"_law_two", ["_law_kind", "_law_n", "_law_rows", "_law_one_here"], ["_law_kind", "_law_n", "_law_rows", "_law_one_here"], (.cons (.ifs (.cmp .eq (.var 0) (.cst (.int 0))) (.cons (.ret (.call 25 (.cons (.var 1) (.cons (.var 2) (.cons (.var 3) .nil))))) .nil) .nil) (.cons (.ifs (.cmp .eq (.var 0) (.cst (.int 1))) (.cons (.ret (.call 47 (.cons (.var 1) (.cons (.var 2) (.cons (.var 3) .nil))))) .nil) .nil) (.cons (.ifs (.cmp .eq (.var 0) (.cst (.int 2))) (.cons (.ret (.call 48 (.cons (.var 1) (.cons (.var 2) (.cons (.var 3) .nil))))) .nil) .nil) (.cons (.ifs (.cmp .eq (.var 0) (.cst (.int 3))) (.cons (.ret (.call 51 (.cons (.var 1) (.cons (.var 2) (.cons (.var 3) .nil))))) .nil) .nil) (.cons (.ifs (.cmp .eq (.var 0) (.cst (.int 4))) (.cons (.ret (.call 120 (.cons (.var 1) (.cons (.var 2) (.cons (.var 3) .nil))))) .nil) .nil) (.cons (.ifs (.cmp .eq (.var 0) (.cst (.int 5))) (.cons (.ret (.call 68 (.cons (.var 1) (.cons (.var 2) (.cons (.var 3) .nil))))) .nil) .nil) (.cons (.ifs (.cmp .eq (.var 0) (.cst (.int 6))) (.cons (.ret (.call 86 (.cons (.var 1) (.cons (.var 2) (.cons (.var 3) .nil))))) .nil) .nil) (.cons (.ifs (.cmp .eq (.var 0) (.cst (.int 7))) (.cons (.ret (.call 89 (.cons (.var 1) (.cons (.var 2) (.cons (.var 3) .nil))))) .nil) .nil) (.cons (.ifs (.cmp .eq (.var 0) (.cst (.int 8))) (.cons (.ret (.call 31 (.cons (.var 1) (.cons (.var 2) (.cons (.var 3) (.cons (.cst .none) .nil)))))) .nil) .nil) (.cons (.ifs (.cmp .eq (.var 0) (.cst (.int 9))) (.cons (.ret (.call 80 (.cons (.var 1) (.cons (.var 2) (.cons (.var 3) (.cons (.cst .none) .nil)))))) .nil) .nil) (.cons (.ifs (.cmp .eq (.var 0) (.cst (.int 10))) (.cons (.ret (.call 81 (.cons (.var 1) (.cons (.var 2) (.cons (.var 3) (.cons (.cst .none) .nil)))))) .nil) .nil) (.cons (.ifs (.cmp .eq (.var 0) (.cst (.int 11))) (.cons (.ret (.call 83 (.cons (.var 1) (.cons (.var 2) (.cons (.var 3) (.cons (.cst .none) .nil)))))) .nil) .nil) (.cons (.ret (.call 82 (.cons (.var 1) (.cons (.var 2) (.cons (.var 3) (.cons (.cst .none) .nil)))))) .nil))))))))))))), false⟩
/-- 185 -/
def d__law_three : DefI := ⟨"_law_three", ["_law_kind", "_law_n", "_law_one_here", "_law_other"], ["_law_kind", "_law_n", "_law_one_here", "_law_other"], (.cons (.ifs (.cmp .eq (.var 0) (.cst (.int 0))) (.cons (.ret (.call 7 (.cons (.var 1) (.cons (.var 2) (.cons (.var 3) .nil))))) .nil) .nil) (.cons (.ifs (.cmp .eq (.var 0) (.cst (.int 1))) (.cons (.ret (.call 10 (.cons (.var 1) (.cons (.var 2) (.cons (.var 3) .nil))))) .nil) .nil) (.cons (.ifs (.cmp .eq (.var 0) (.cst (.int 2))) (.cons (.ret (.call 11 (.cons (.var 1) (.cons (.var 2) (.cons (.var 3) .nil))))) .nil) .nil) (.cons (.ifs (.cmp .eq (.var 0) (.cst (.int 3))) (.cons (.ret (.call 12 (.cons (.var 1) (.cons (.var 2) (.cons (.var 3) .nil))))) .nil) .nil) (.cons (.ifs (.cmp .eq (.var 0) (.cst (.int 4))) (.cons (.ret (.call 13 (.cons (.var 1) (.cons (.var 2) .nil)))) .nil) .nil) (.cons (.ifs (.cmp .eq (.var 0) (.cst (.int 5))) (.cons (.ret (.call 133 (.cons (.var 1) (.cons (.var 2) .nil)))) .nil) .nil) (.cons (.ifs (.cmp .eq (.var 0) (.cst (.int 6))) (.cons (.ret (.call 80 (.cons (.var 1) (.cons (.lst (.cons (.var 2) .nil)) (.cons (.var 2) (.cons (.var 3) .nil)))))) .nil) .nil) (.cons (.ret (.ite (.cmp .eq (.var 0) (.cst (.int 7))) (.call 31 (.cons (.var 1) (.cons (.lst (.cons (.var 2) .nil)) (.cons (.var 2) (.cons (.var 3) .nil))))) (.mc1 123 (.tnew 9001 (.var 1)) (.var 2)))) .nil)))))))), false⟩
/-- 186 -/
def d__law_asked : DefI := ⟨"_law_asked", ["_law_group", "_law_kind", "_law_one_here", "_law_two_here", "_law_three_here"], ["_law_group", "_law_kind", "_law_one_here", "_law_two_here", "_law_three_here", "_law_caught", "e"], (.cons (.asg 5 (.cst .none)) (.cons (.try_ (.cons (.ifs (.cmp .eq (.var 0) (.cst (.int 1))) (.cons (.exp (.call 183 (.cons (.var 1) (.cons (.var 2) (.cons (.var 3) .nil))))) .nil) (.cons (.ifs (.cmp .eq (.var 0) (.cst (.int 2))) (.cons (.exp (.call 184 (.cons (.var 1) (.cons (.var 2) (.cons (.var 3) (.cons (.var 4) .nil)))))) .nil) (.cons (.exp (.cals 185 (.cons (.var 1) (.cons (.var 2) (.cons (.var 3) (.cons (.var 4) .nil)))))) .nil)) .nil)) .nil) 0 6 5) (.cons (.ret (.ite (.cmp .is_ (.var 5) (.cst .none)) (.cst (.str "done")) (.call 76 (.cons (.var 5) .nil)))) .nil))), false⟩
/-- 187 -/
def d_law_v20 : DefI := ⟨"law", ["_law_script"], ["_law_script", "_law_draws", "_law_n", "_law_bad", "_law_k", "_law_rows"], (.cons (.asg 1 (.start (.var 0))) (.cons (.asg 2 (.bin .add (.cst (.int 2)) (.draw (.var 1) (.cst (.int 3))))) (.cons (.for_ (.it (.lst (.cons (.cst .none) (.cons (.cst (.int 0)) (.cons (.cst (.int 5)) (.cons (.bin .sub (.cst (.int 0)) (.cst (.int 1))) (.cons (.cst (.bool true)) (.cons (.cst (.str "3")) .nil)))))))) (.one 3) (.cons (.ifs (.bop false (.cons (.cmp .ne (.cmp0 (.rg1 (.cst (.int 11))) (.one 4) (.cals 186 (.cons (.cst (.int 1)) (.cons (.var 4) (.cons (.var 3) (.cons (.cst .none) (.cons (.cst (.int 0)) .nil))))))) (.bin .mul (.lst (.cons (.cst (.str "number")) .nil)) (.cst (.int 11)))) (.cons (.cmp .ne (.cmp0 (.rg1 (.cst (.int 13))) (.one 4) (.cals 186 (.cons (.cst (.int 2)) (.cons (.var 4) (.cons (.var 3) (.cons (.cst .none) (.cons (.cst .none) .nil))))))) (.bin .mul (.lst (.cons (.cst (.str "number")) .nil)) (.cst (.int 13)))) .nil))) (.cons (.ret (.cst (.bool false))) .nil) .nil) (.cons (.ifs (.cmp .ne (.cmp0 (.rg1 (.cst (.int 9))) (.one 4) (.cals 186 (.cons (.cst (.int 3)) (.cons (.var 4) (.cons (.var 3) (.cons (.tup (.cons (.cst (.int 0)) .nil)) (.cons (.tup (.cons (.cst (.int 0)) .nil)) .nil))))))) (.bin .mul (.lst (.cons (.cst (.str "number")) .nil)) (.cst (.int 9)))) (.cons (.ret (.cst (.bool false))) .nil) .nil) .nil))) (.cons (.for_ (.it (.lst (.cons (.cst .none) (.cons (.cst (.int 5)) (.cons (.tup .nil) (.cons (.tup (.cons (.tup .nil) .nil)) (.cons (.lst (.cons (.cst .none) .nil)) (.cons (.lst (.cons (.cst (.int 0)) .nil)) (.cons (.lst (.cons (.lst (.cons (.cst (.int 0)) .nil)) .nil)) (.cons (.lst (.cons (.tup (.cons (.var 2) .nil)) .nil)) (.cons (.lst (.cons (.tup (.cons (.bin .sub (.cst (.int 0)) (.cst (.int 1))) .nil)) .nil)) (.cons (.lst (.cons (.tup (.cons (.cst (.int 1)) (.cons (.cst (.int 0)) .nil))) .nil)) (.cons (.lst (.cons (.tup (.cons (.cst (.int 0)) (.cons (.cst (.int 0)) .nil))) .nil)) (.cons (.lst (.cons (.tup (.cons (.cst (.bool true)) .nil)) .nil)) (.cons (.lst (.cons (.tup (.cons (.cst (.str "0")) .nil)) .nil)) (.cons (.bin .mul (.lst (.cons (.tup .nil) .nil)) (.cst (.int 21))) .nil)))))))))))))))) (.one 3) (.cons (.ifs (.bop false (.cons (.cmp .isn (.call 19 (.cons (.var 3) (.cons (.var 2) .nil))) (.cst (.bool false))) (.cons (.cmp .ne (.cmp0 (.rg1 (.cst (.int 11))) (.one 4) (.cals 186 (.cons (.cst (.int 1)) (.cons (.var 4) (.cons (.var 2) (.cons (.var 3) (.cons (.cst (.int 0)) .nil))))))) (.bin .mul (.lst (.cons (.cst (.str "baskets")) .nil)) (.cst (.int 11)))) .nil))) (.cons (.ret (.cst (.bool false))) .nil) .nil) (.cons (.ifs (.cmp .ne (.cmp0 (.rg1 (.cst (.int 13))) (.one 4) (.cals 186 (.cons (.cst (.int 2)) (.cons (.var 4) (.cons (.var 2) (.cons (.var 3) (.cons (.cst .none) .nil))))))) (.bin .mul (.lst (.cons (.cst (.str "baskets")) .nil)) (.cst (.int 13)))) (.cons (.ret (.cst (.bool false))) .nil) .nil) .nil))) (.cons (.asg 5 (.lst (.cons (.tup (.cons (.cst (.int 0)) (.cons (.cst (.int 1)) .nil))) (.cons (.tup .nil) (.cons (.tup (.cons (.cst (.int 1)) .nil)) .nil))))) (.cons (.for_ (.it (.lst (.cons (.cst .none) (.cons (.cst (.int 5)) (.cons (.cst (.int 0)) (.cons (.lst (.cons (.cst (.int 0)) .nil)) (.cons (.lst .nil) (.cons (.tup (.cons (.var 2) .nil)) (.cons (.tup (.cons (.bin .sub (.cst (.int 0)) (.cst (.int 1))) .nil)) (.cons (.tup (.cons (.cst (.int 1)) (.cons (.cst (.int 0)) .nil))) (.cons (.tup (.cons (.cst (.int 0)) (.cons (.cst (.int 0)) .nil))) (.cons (.tup (.cons (.cst (.bool true)) .nil)) (.cons (.tup (.cons (.cst (.str "0")) .nil)) (.cons (.tup (.cons (.cst .none) .nil)) .nil)))))))))))))) (.one 3) (.cons (.ifs (.bop false (.cons (.cmp .isn (.call 2 (.cons (.var 3) (.cons (.var 2) .nil))) (.cst (.bool false))) (.cons (.cmp .ne (.cmp0 (.rg1 (.cst (.int 13))) (.one 4) (.cals 186 (.cons (.cst (.int 2)) (.cons (.var 4) (.cons (.var 2) (.cons (.var 5) (.cons (.var 3) .nil))))))) (.bin .mul (.lst (.cons (.cst (.str "set")) .nil)) (.cst (.int 13)))) .nil))) (.cons (.ret (.cst (.bool false))) .nil) .nil) (.cons (.ifs (.bop false (.cons (.cmp .ne (.cmp0 (.rg1 (.cst (.int 9))) (.one 4) (.cals 186 (.cons (.cst (.int 3)) (.cons (.var 4) (.cons (.var 2) (.cons (.var 3) (.cons (.tup (.cons (.cst (.int 0)) .nil)) .nil))))))) (.cmp0 (.rg1 (.cst (.int 9))) (.one 4) (.call 100 (.cons (.var 4) .nil)))) (.cons (.cmp .ne (.cmp0 (.it (.tup (.cons (.cst (.int 0)) (.cons (.cst (.int 1)) (.cons (.cst (.int 2)) (.cons (.cst (.int 3)) (.cons (.cst (.int 6)) (.cons (.cst (.int 7)) .nil)))))))) (.one 4) (.cals 186 (.cons (.cst (.int 3)) (.cons (.var 4) (.cons (.var 2) (.cons (.tup (.cons (.cst (.int 0)) .nil)) (.cons (.var 3) .nil))))))) (.bin .mul (.lst (.cons (.cst (.str "set")) .nil)) (.cst (.int 6)))) .nil))) (.cons (.ret (.cst (.bool false))) .nil) .nil) .nil))) (.cons (.ifs (.bop false (.cons (.cmp .ne (.cmp0 (.rg1 (.cst (.int 13))) (.one 4) (.cals 186 (.cons (.cst (.int 2)) (.cons (.var 4) (.cons (.var 2) (.cons (.var 5) (.cons (.tup (.cons (.cst (.int 0)) (.cons (.cst (.int 1)) .nil))) .nil))))))) (.bin .add (.bin .mul (.lst (.cons (.cst (.str "done")) .nil)) (.cst (.int 8))) (.bin .mul (.lst (.cons (.cst (.str "set")) .nil)) (.cst (.int 5))))) (.cons (.cmp .ne (.cmp0 (.rg1 (.cst (.int 11))) (.one 4) (.cals 186 (.cons (.cst (.int 1)) (.cons (.var 4) (.cons (.var 2) (.cons (.var 5) (.cons (.cst (.int 0)) .nil))))))) (.bin .mul (.lst (.cons (.cst (.str "done")) .nil)) (.cst (.int 11)))) .nil))) (.cons (.ret (.cst (.bool false))) .nil) .nil) (.cons (.ifs (.bop false (.cons (.cmp .isn (.call 19 (.cons (.bin .mul (.lst (.cons (.tup .nil) .nil)) (.cst (.int 20))) (.cons (.var 2) .nil))) (.cst (.bool true))) (.cons (.cmp .isn (.call 19 (.cons (.lst .nil) (.cons (.var 2) .nil))) (.cst (.bool true))) (.cons (.cmp .isn (.call 2 (.cons (.tup .nil) (.cons (.var 2) .nil))) (.cst (.bool true))) (.cons (.cmp .isn (.call 2 (.cons (.tup (.cons (.cst (.int 0)) (.cons (.bin .sub (.var 2) (.cst (.int 1))) .nil))) (.cons (.var 2) .nil))) (.cst (.bool true))) .nil))))) (.cons (.ret (.cst (.bool false))) .nil) .nil) (.cons (.ret (.bop true (.cons (.cmp .eq (.cals 186 (.cons (.cst (.int 2)) (.cons (.cst (.int 5)) (.cons (.var 2) (.cons (.bin .mul (.lst (.cons (.tup .nil) .nil)) (.cst (.int 20))) (.cons (.tup .nil) .nil)))))) (.cst (.str "baskets"))) (.cons (.cmp .eq (.cals 186 (.cons (.cst (.int 2)) (.cons (.cst (.int 5)) (.cons (.var 2) (.cons (.bin .mul (.lst (.cons (.tup .nil) .nil)) (.cst (.int 19))) (.cons (.tup .nil) .nil)))))) (.cst (.str "done"))) (.cons (.cmp .eq (.cals 186 (.cons (.cst (.int 2)) (.cons (.cst (.int 6)) (.cons (.var 2) (.cons (.var 5) (.cons (.tup (.cons (.cst (.int 0)) .nil)) .nil)))))) (.cst (.str "none"))) .nil))))) .nil))))))))), false⟩
/-- 188 -/
def d__law_table_call : DefI := ⟨"_law_table_call", ["_law_kind", "_law_n", "_law_counts", "_law_one"], ["_law_kind", "_law_n", "_law_counts", "_law_one"], (.cons (.ifs (.cmp .eq (.var 0) (.cst (.int 0))) (.cons (.ret (.call 29 (.cons (.var 1) (.cons (.var 2) .nil)))) .nil) .nil) (.cons (.ifs (.cmp .eq (.var 0) (.cst (.int 1))) (.cons (.ret (.call 64 (.cons (.var 1) (.cons (.var 2) .nil)))) .nil) .nil) (.cons (.ifs (.cmp .eq (.var 0) (.cst (.int 2))) (.cons (.ret (.call 65 (.cons (.var 1) (.cons (.var 2) .nil)))) .nil) .nil) (.cons (.ifs (.cmp .eq (.var 0) (.cst (.int 3))) (.cons (.ret (.call 66 (.cons (.var 1) (.cons (.var 2) .nil)))) .nil) .nil) (.cons (.ifs (.cmp .eq (.var 0) (.cst (.int 4))) (.cons (.ret (.call 136 (.cons (.var 1) (.cons (.var 2) .nil)))) .nil) .nil) (.cons (.ifs (.cmp .eq (.var 0) (.cst (.int 5))) (.cons (.ret (.call 115 (.cons (.var 1) (.cons (.var 2) (.cons (.var 3) .nil))))) .nil) .nil) (.cons (.ifs (.cmp .eq (.var 0) (.cst (.int 6))) (.cons (.ret (.call 97 (.cons (.var 1) (.cons (.var 2) .nil)))) .nil) .nil) (.cons (.ret (.ite (.cmp .eq (.var 0) (.cst (.int 7))) (.call 98 (.cons (.var 1) (.cons (.var 2) .nil))) (.call 30 (.cons (.var 1) (.cons (.var 2) .nil))))) .nil)))))))), false⟩
/-- 189 -/
def d__law_call_v2 : DefI := ⟨"_law_call", ["_law_kind", "_law_n", "_law_one", "_law_two"], ["_law_kind", "_law_n", "_law_one", "_law_two"], (.cons (.ifs (.cmp .eq (.var 0) (.cst (.int 0))) (.cons (.ret (.call 58 (.cons (.var 1) (.cons (.lst (.cons (.tup .nil) .nil)) (.cons (.var 2) .nil))))) .nil) .nil) (.cons (.ifs (.cmp .eq (.var 0) (.cst (.int 1))) (.cons (.ret (.call 59 (.cons (.var 1) (.cons (.lst (.cons (.tup .nil) .nil)) (.cons (.var 2) .nil))))) .nil) .nil) (.cons (.ifs (.cmp .eq (.var 0) (.cst (.int 2))) (.cons (.ret (.call 60 (.cons (.var 1) (.cons (.lst (.cons (.tup .nil) .nil)) (.cons (.var 2) .nil))))) .nil) .nil) (.cons (.ifs (.cmp .eq (.var 0) (.cst (.int 3))) (.cons (.ret (.call 61 (.cons (.var 1) (.cons (.lst (.cons (.tup .nil) .nil)) (.cons (.var 2) .nil))))) .nil) .nil) (.cons (.ifs (.cmp .eq (.var 0) (.cst (.int 4))) (.cons (.ret (.call 87 (.cons (.var 1) (.cons (.lst (.cons (.tup .nil) .nil)) (.cons (.var 2) .nil))))) .nil) .nil) (.cons (.ifs (.cmp .eq (.var 0) (.cst (.int 5))) (.cons (.ret (.call 74 (.cons (.var 1) (.cons (.lst (.cons (.tup .nil) .nil)) (.cons (.var 2) .nil))))) .nil) .nil) (.cons (.ifs (.cmp .eq (.var 0) (.cst (.int 6))) (.cons (.ret (.call 92 (.cons (.var 1) (.cons (.var 2) .nil)))) .nil) .nil) (.cons (.ifs (.cmp .eq (.var 0) (.cst (.int 7))) (.cons (.ret (.call 95 (.cons (.var 1) (.cons (.var 2) .nil)))) .nil) .nil) (.cons (.ifs (.cmp .eq (.var 0) (.cst (.int 8))) (.cons (.ret (.call 96 (.cons (.var 1) (.cons (.var 2) (.cons (.var 3) .nil))))) .nil) .nil) (.cons (.ifs (.cmp .eq (.var 0) (.cst (.int 9))) (.cons (.ret (.call 42 (.cons (.var 1) (.cons (.var 2) (.cons (.var 3) .nil))))) .nil) .nil) (.cons (.ifs (.cmp .eq (.var 0) (.cst (.int 10))) (.cons (.ret (.call 43 (.cons (.var 1) (.cons (.var 2) .nil)))) .nil) .nil) (.cons (.ifs (.cmp .eq (.var 0) (.cst (.int 11))) (.cons (.ret (.call 69 (.cons (.var 1) (.cons (.lst (.cons (.tup .nil) .nil)) (.cons (.var 2) .nil))))) .nil) .nil) (.cons (.ifs (.cmp .eq (.var 0) (.cst (.int 12))) (.cons (.ret (.call 5 (.cons (.var 1) .nil))) .nil) .nil) (.cons (.ret (.ite (.cmp .eq (.var 0) (.cst (.int 13))) (.tnew 9001 (.var 1)) (.call 103 (.cons (.var 1) (.cons (.var 2) .nil))))) .nil)))))))))))))), false⟩
/-- 190 -/
def d__law_asked_v2 : DefI := ⟨"_law_asked", ["_law_group", "_law_kind", "_law_n", "_law_one", "_law_two"], ["_law_group", "_law_kind", "_law_n", "_law_one", "_law_two", "_law_caught", "e"], (.cons (.asg 5 (.cst .none)) (.cons (.try_ (.cons (.ifs (.cmp .eq (.var 0) (.cst (.int 1))) (.cons (.exp (.call 188 (.cons (.var 1) (.cons (.var 2) (.cons (.var 3) (.cons (.var 4) .nil)))))) .nil) (.cons (.exp (.cals 189 (.cons (.var 1) (.cons (.var 2) (.cons (.var 3) (.cons (.var 4) .nil)))))) .nil)) .nil) 0 6 5) (.cons (.ret (.ite (.cmp .is_ (.var 5) (.cst .none)) (.cst (.str "done")) (.call 76 (.cons (.var 5) .nil)))) .nil))), false⟩
/-- 191 -/
def d__law_push : DefI := ⟨"_law_push", ["_law_shown", "_law_kind", "_law_thing"], ["_law_shown", "_law_kind", "_law_thing", "_law_caught", "e"], (.cons (.asg 3 (.cst .none)) (.cons (.try_ (.cons (.ifs (.cmp .eq (.var 1) (.cst (.int 0))) (.cons (.exp (.mc1 123 (.var 0) (.var 2))) .nil) (.cons (.ifs (.cmp .eq (.var 1) (.cst (.int 1))) (.cons (.exp (.mc1 127 (.var 0) (.var 2))) .nil) (.cons (.ifs (.cmp .eq (.var 1) (.cst (.int 2))) (.cons (.exp (.mc1 125 (.var 0) (.var 2))) .nil) (.cons (.exp (.mc0 124 (.var 0))) .nil)) .nil)) .nil)) .nil) 0 4 3) (.cons (.ret (.ite (.cmp .is_ (.var 3) (.cst .none)) (.cst (.str "done")) (.call 76 (.cons (.var 3) .nil)))) .nil))), false⟩
/-- 192 -/
def d__law_till : DefI := ⟨"_law_till", [], ["_law_shown", "_law_bad", "_law_k"], (.cons (.asg 0 (.tnew 9001 (.cst (.int 2)))) (.cons (.for_ (.it (.lst (.cons (.cst .none) (.cons (.cst (.int 5)) (.cons (.lst (.cons (.cst (.int 0)) .nil)) (.cons (.tup (.cons (.cst (.int 2)) .nil)) (.cons (.tup (.cons (.cst (.int 1)) (.cons (.cst (.int 0)) .nil))) (.cons (.tup (.cons (.cst (.bool true)) .nil)) .nil)))))))) (.one 1) (.cons (.ifs (.cmp .ne (.cmp0 (.it (.tup (.cons (.cst (.int 0)) (.cons (.cst (.int 1)) .nil)))) (.one 2) (.cals 191 (.cons (.var 0) (.cons (.var 2) (.cons (.var 1) .nil))))) (.bin .mul (.lst (.cons (.cst (.str "set")) .nil)) (.cst (.int 2)))) (.cons (.ret (.cst (.bool false))) .nil) .nil) .nil)) (.cons (.ifs (.cmp .ne (.cmp0 (.it (.tup (.cons (.cst .none) (.cons (.bin .sub (.cst (.int 0)) (.cst (.int 1))) (.cons (.cst (.int 3)) (.cons (.cst (.bool true)) (.cons (.cst (.str "1")) (.cons (.cst (.int 2)) .nil)))))))) (.one 1) (.cals 191 (.cons (.var 0) (.cons (.cst (.int 2)) (.cons (.var 1) .nil))))) (.bin .add (.bin .mul (.lst (.cons (.cst (.str "number")) .nil)) (.cst (.int 5))) (.lst (.cons (.cst (.str "done")) .nil)))) (.cons (.ret (.cst (.bool false))) .nil) .nil) (.cons (.ifs (.bop false (.cons (.cmp .ne (.cals 191 (.cons (.var 0) (.cons (.cst (.int 3)) (.cons (.cst (.int 0)) .nil)))) (.cst (.str "none"))) (.cons (.cmp .ne (.mc0 128 (.var 0)) (.lst .nil)) (.cons (.cmp .ne (.mc0 129 (.var 0)) (.lst (.cons (.cst (.int 0)) (.cons (.cst (.int 0)) (.cons (.cst (.int 0)) (.cons (.cst (.int 0)) .nil)))))) (.cons (.cmp .ne (.mc1 125 (.var 0) (.cst (.int 1))) (.tup (.cons (.cst (.int 0)) .nil))) .nil))))) (.cons (.ret (.cst (.bool false))) .nil) .nil) (.cons (.for_ (.rg1 (.cst (.int 20))) (.one 2) (.cons (.ifs (.cmp .ne (.mc1 123 (.var 0) (.tup (.cons (.cst (.int 0)) .nil))) (.bin .add (.var 2) (.cst (.int 1)))) (.cons (.ret (.cst (.bool false))) .nil) .nil) .nil)) (.cons (.ifs (.bop false (.cons (.cmp .ne (.cals 191 (.cons (.var 0) (.cons (.cst (.int 0)) (.cons (.tup (.cons (.cst (.int 1)) .nil)) .nil)))) (.cst (.str "baskets"))) (.cons (.cmp .ne (.cals 191 (.cons (.var 0) (.cons (.cst (.int 0)) (.cons (.tup (.cons (.cst (.int 2)) .nil)) .nil)))) (.cst (.str "set"))) (.cons (.cmp .ne (.mln (.var 0)) (.cst (.int 20))) .nil)))) (.cons (.ret (.cst (.bool false))) .nil) .nil) (.cons (.ret (.bop true (.cons (.cmp .eq (.mc0 124 (.var 0)) (.tup (.cons (.cst (.int 0)) .nil))) (.cons (.cmp .eq (.mc1 123 (.var 0) (.tup (.cons (.cst (.int 1)) .nil))) (.cst (.int 1))) (.cons (.cmp .eq (.mc0 129 (.var 0)) (.lst (.cons (.cst (.int 20)) (.cons (.cst (.int 19)) (.cons (.cst (.int 1)) (.cons (.cst (.int 0)) .nil)))))) .nil))))) .nil))))))), false⟩
/-- 193 -/
def d__law_numbers : DefI := ⟨"_law_numbers", [], ["_law_limits", "_law_kind", "_law_low", "_law_high", "_law_bad", "_law_good", "_law_k", "_law_rank"], (.cons (.asg 0 (.lst (.cons (.tup (.cons (.cst (.int 0)) (.cons (.cst (.int 0)) (.cons (.cst (.int 21)) .nil)))) (.cons (.tup (.cons (.cst (.int 1)) (.cons (.cst (.int 0)) (.cons (.cst (.int 21)) .nil)))) (.cons (.tup (.cons (.cst (.int 2)) (.cons (.cst (.int 0)) (.cons (.cst (.int 21)) .nil)))) (.cons (.tup (.cons (.cst (.int 3)) (.cons (.cst (.int 0)) (.cons (.cst (.int 3)) .nil)))) (.cons (.tup (.cons (.cst (.int 4)) (.cons (.cst (.int 0)) (.cons (.cst (.int 2)) .nil)))) (.cons (.tup (.cons (.cst (.int 6)) (.cons (.cst (.int 0)) (.cons (.cst (.int 20)) .nil)))) .nil)))))))) (.cons (.for_ (.it (.var 0)) (.three 1 2 3) (.cons (.ifs (.cmp .ne (.cmp0 (.it (.tup (.cons (.cst .none) (.cons (.bin .sub (.var 2) (.cst (.int 1))) (.cons (.bin .add (.var 3) (.cst (.int 1))) (.cons (.cst (.bool true)) (.cons (.bi .str (.var 2)) .nil))))))) (.one 4) (.cals 190 (.cons (.cst (.int 2)) (.cons (.var 1) (.cons (.cst (.int 3)) (.cons (.var 4) (.cons (.cst (.int 0)) .nil))))))) (.bin .mul (.lst (.cons (.cst (.str "number")) .nil)) (.cst (.int 5)))) (.cons (.ret (.cst (.bool false))) .nil) .nil) (.cons (.ifs (.cmp .ne (.cmp0 (.it (.tup (.cons (.var 2) (.cons (.var 3) .nil)))) (.one 5) (.cals 190 (.cons (.cst (.int 2)) (.cons (.var 1) (.cons (.cst (.int 3)) (.cons (.var 5) (.cons (.cst (.int 0)) .nil))))))) (.bin .mul (.lst (.cons (.cst (.str "done")) .nil)) (.cst (.int 2)))) (.cons (.ret (.cst (.bool false))) .nil) .nil) .nil))) (.cons (.ifs (.bop false (.cons (.cmp .ne (.cals 190 (.cons (.cst (.int 2)) (.cons (.cst (.int 4)) (.cons (.cst (.int 1)) (.cons (.cst (.int 0)) (.cons (.cst (.int 0)) .nil)))))) (.cst (.str "number"))) (.cons (.cmp .ne (.cmp0 (.it (.tup (.cons (.cst (.int 7)) (.cons (.cst (.int 8)) .nil)))) (.one 6) (.cals 190 (.cons (.cst (.int 2)) (.cons (.var 6) (.cons (.cst (.int 3)) (.cons (.cst (.int 1)) (.cons (.cst (.int 0)) .nil))))))) (.bin .mul (.lst (.cons (.cst (.str "number")) .nil)) (.cst (.int 2)))) (.cons (.cmp .ne (.cmp0 (.it (.tup (.cons (.cst (.int 7)) (.cons (.cst (.int 8)) .nil)))) (.one 6) (.cals 190 (.cons (.cst (.int 2)) (.cons (.var 6) (.cons (.cst (.int 2)) (.cons (.cst (.int 5)) (.cons (.cst (.int 0)) .nil))))))) (.bin .mul (.lst (.cons (.cst (.str "number")) .nil)) (.cst (.int 2)))) .nil)))) (.cons (.ret (.cst (.bool false))) .nil) .nil) (.cons (.for_ (.it (.lst (.cons (.cst .none) (.cons (.cst (.int 5)) (.cons (.lst (.cons (.cst (.int 0)) (.cons (.cst (.int 1)) (.cons (.cst (.int 2)) .nil)))) (.cons (.tup (.cons (.cst (.int 0)) (.cons (.cst (.int 1)) .nil))) (.cons (.tup (.cons (.cst (.int 0)) (.cons (.cst (.int 1)) (.cons (.cst (.int 1)) .nil)))) (.cons (.tup (.cons (.cst (.int 0)) (.cons (.cst (.int 1)) (.cons (.cst (.int 3)) .nil)))) (.cons (.tup (.cons (.cst (.int 0)) (.cons (.cst (.bool true)) (.cons (.cst (.int 2)) .nil)))) (.cons (.tup (.cons (.cst (.int 0)) (.cons (.cst (.int 1)) (.cons (.cst (.int 2)) (.cons (.cst (.int 3)) .nil))))) .nil)))))))))) (.one 4) (.cons (.ifs (.cmp .ne (.cals 190 (.cons (.cst (.int 2)) (.cons (.cst (.int 5)) (.cons (.cst (.int 3)) (.cons (.var 4) (.cons (.cst (.int 0)) .nil)))))) (.cst (.str "number"))) (.cons (.ret (.cst (.bool false))) .nil) .nil) .nil)) (.cons (.ifs (.cmp .ne (.cmp0 (.it (.tup (.cons (.cst .none) (.cons (.cst (.int 3)) (.cons (.bin .sub (.cst (.int 0)) (.cst (.int 1))) (.cons (.cst (.bool true)) (.cons (.cst (.str "0")) (.cons (.cst (.int 0)) (.cons (.cst (.int 2)) .nil))))))))) (.one 7) (.cals 190 (.cons (.cst (.int 2)) (.cons (.cst (.int 8)) (.cons (.cst (.int 1)) (.cons (.cst (.int 2)) (.cons (.var 7) .nil))))))) (.bin .add (.bin .mul (.lst (.cons (.cst (.str "number")) .nil)) (.cst (.int 5))) (.bin .mul (.lst (.cons (.cst (.str "done")) .nil)) (.cst (.int 2))))) (.cons (.ret (.cst (.bool false))) .nil) .nil) (.cons (.ret (.bop true (.cons (.cmp .eq (.cmp0 (.it (.tup (.cons (.cst (.int 7)) (.cons (.cst (.int 8)) .nil)))) (.one 6) (.cals 190 (.cons (.cst (.int 2)) (.cons (.var 6) (.cons (.cst (.int 2)) (.cons (.cst (.int 4)) (.cons (.cst (.int 0)) .nil))))))) (.bin .mul (.lst (.cons (.cst (.str "done")) .nil)) (.cst (.int 2)))) (.cons (.cmp .eq (.cals 190 (.cons (.cst (.int 2)) (.cons (.cst (.int 5)) (.cons (.cst (.int 3)) (.cons (.tup (.cons (.cst (.int 2)) (.cons (.cst (.int 0)) (.cons (.cst (.int 1)) .nil)))) (.cons (.cst (.int 0)) .nil)))))) (.cst (.str "done"))) .nil)))) .nil)))))), false⟩
/-- 194 -/
def d_law_v21 : DefI := ⟨"law", ["_law_script"], ["_law_script", "_law_draws", "_law_bad", "_law_k", "_law_far", "_law_whole"], (.cons (.asg 1 (.start (.var 0))) (.cons (.for_ (.it (.lst (.cons (.cst .none) (.cons (.cst (.int 0)) (.cons (.cst (.int 5)) (.cons (.cst (.bool true)) (.cons (.cst (.str "2")) .nil))))))) (.one 2) (.cons (.ifs (.bop false (.cons (.cmp .ne (.cmp0 (.rg1 (.cst (.int 9))) (.one 3) (.cals 190 (.cons (.cst (.int 1)) (.cons (.var 3) (.cons (.var 2) (.cons (.cst .none) (.cons (.cst .none) .nil))))))) (.bin .mul (.lst (.cons (.cst (.str "number")) .nil)) (.cst (.int 9)))) (.cons (.cmp .ne (.cmp0 (.rg1 (.cst (.int 15))) (.one 3) (.cals 190 (.cons (.cst (.int 2)) (.cons (.var 3) (.cons (.var 2) (.cons (.cst .none) (.cons (.cst .none) .nil))))))) (.bin .mul (.lst (.cons (.cst (.str "number")) .nil)) (.cst (.int 15)))) .nil))) (.cons (.ret (.cst (.bool false))) .nil) .nil) .nil)) (.cons (.for_ (.it (.lst (.cons (.cst .none) (.cons (.cst (.int 5)) (.cons (.tup (.cons (.cst (.int 1)) (.cons (.cst (.int 0)) .nil))) (.cons (.lst .nil) (.cons (.lst (.cons (.cst (.int 1)) .nil)) (.cons (.lst (.cons (.cst (.int 1)) (.cons (.cst (.int 0)) (.cons (.cst (.int 0)) .nil)))) (.cons (.lst (.cons (.cst (.int 21)) (.cons (.cst (.int 0)) .nil))) (.cons (.lst (.cons (.bin .sub (.cst (.int 0)) (.cst (.int 1))) (.cons (.cst (.int 0)) .nil))) (.cons (.lst (.cons (.cst (.bool true)) (.cons (.cst (.int 0)) .nil))) (.cons (.lst (.cons (.cst (.str "1")) (.cons (.cst (.int 0)) .nil))) (.cons (.lst (.cons (.cst .none) (.cons (.cst (.int 0)) .nil))) .nil))))))))))))) (.one 2) (.cons (.ifs (.bop false (.cons (.cmp .isn (.call 22 (.cons (.var 2) (.cons (.cst (.int 1)) .nil))) (.cst (.bool false))) (.cons (.cmp .ne (.cmp0 (.rg1 (.cst (.int 9))) (.one 3) (.cals 190 (.cons (.cst (.int 1)) (.cons (.var 3) (.cons (.cst (.int 1)) (.cons (.var 2) (.cons (.cst .none) .nil))))))) (.bin .mul (.lst (.cons (.cst (.str "table")) .nil)) (.cst (.int 9)))) .nil))) (.cons (.ret (.cst (.bool false))) .nil) .nil) .nil)) (.cons (.ifs (.bop false (.cons (.cmp .ne (.cmp0 (.it (.tup (.cons (.cst .none) (.cons (.tup (.cons (.cst (.int 1)) .nil)) (.cons (.lst (.cons (.cst (.int 0)) .nil)) (.cons (.tup (.cons (.cst (.int 0)) (.cons (.cst (.int 0)) .nil))) .nil)))))) (.one 2) (.cals 190 (.cons (.cst (.int 1)) (.cons (.cst (.int 5)) (.cons (.cst (.int 1)) (.cons (.lst (.cons (.cst (.int 1)) (.cons (.cst (.int 0)) .nil))) (.cons (.var 2) .nil))))))) (.bin .mul (.lst (.cons (.cst (.str "set")) .nil)) (.cst (.int 4)))) (.cons (.cmp .ne (.cmp0 (.it (.tup (.cons (.lst (.cons (.cst (.int 20)) (.cons (.cst (.int 1)) .nil))) (.cons (.lst (.cons (.cst (.int 19)) (.cons (.cst (.int 1)) .nil))) .nil)))) (.one 4) (.cals 190 (.cons (.cst (.int 1)) (.cons (.cst (.int 8)) (.cons (.cst (.int 1)) (.cons (.var 4) (.cons (.cst (.int 0)) .nil))))))) (.lst (.cons (.cst (.str "table")) (.cons (.cst (.str "done")) .nil)))) .nil))) (.cons (.ret (.cst (.bool false))) .nil) .nil) (.cons (.ifs (.cmp .ne (.cmp0 (.rg1 (.cst (.int 9))) (.one 3) (.cals 190 (.cons (.cst (.int 1)) (.cons (.var 3) (.cons (.cst (.int 1)) (.cons (.lst (.cons (.cst (.int 1)) (.cons (.cst (.int 2)) .nil))) (.cons (.tup (.cons (.cst (.int 0)) .nil)) .nil))))))) (.bin .add (.bin .mul (.lst (.cons (.cst (.str "done")) .nil)) (.cst (.int 3))) (.lst (.cons (.cst (.str "none")) (.cons (.cst (.str "done")) (.cons (.cst (.str "done")) (.cons (.cst (.str "none")) (.cons (.cst (.str "done")) (.cons (.cst (.str "done")) .nil))))))))) (.cons (.ret (.cst (.bool false))) .nil) .nil) (.cons (.ifs (.bop false (.cons (.cmp .ne (.cmp0 (.it (.tup (.cons (.cst (.int 6)) (.cons (.cst (.int 7)) .nil)))) (.one 3) (.cals 190 (.cons (.cst (.int 1)) (.cons (.var 3) (.cons (.cst (.int 1)) (.cons (.lst (.cons (.cst (.int 5)) (.cons (.cst (.int 2)) .nil))) (.cons (.tup (.cons (.cst (.int 0)) .nil)) .nil))))))) (.bin .mul (.lst (.cons (.cst (.str "number")) .nil)) (.cst (.int 2)))) (.cons (.cmp .ne (.cmp0 (.it (.tup (.cons (.cst (.int 6)) (.cons (.cst (.int 7)) .nil)))) (.one 3) (.cals 190 (.cons (.cst (.int 1)) (.cons (.var 3) (.cons (.cst (.int 3)) (.cons (.bin .mul (.lst (.cons (.cst (.int 1)) .nil)) (.cst (.int 8))) (.cons (.tup (.cons (.cst (.int 0)) .nil)) .nil))))))) (.bin .mul (.lst (.cons (.cst (.str "number")) .nil)) (.cst (.int 2)))) .nil))) (.cons (.ret (.cst (.bool false))) .nil) .nil) (.cons (.asg 5 (.draw (.var 1) (.cst (.int 4)))) (.cons (.for_ (.it (.lst (.cons (.cst .none) (.cons (.cst (.int 5)) (.cons (.tup .nil) (.cons (.lst .nil) (.cons (.lst (.cons (.tup (.cons (.tup (.cons (.cst (.int 0)) .nil)) (.cons (.cst (.int 1)) .nil))) .nil)) (.cons (.lst (.cons (.tup (.cons (.tup .nil) (.cons (.cst (.int 7)) .nil))) .nil)) (.cons (.lst (.cons (.tup (.cons (.tup .nil) (.cons (.bin .sub (.cst (.int 0)) (.cst (.int 1))) .nil))) .nil)) (.cons (.lst (.cons (.tup (.cons (.tup .nil) (.cons (.cst (.bool true)) .nil))) .nil)) (.cons (.lst (.cons (.tup (.cons (.tup (.cons (.cst (.int 2)) .nil)) (.cons (.cst (.int 1)) .nil))) (.cons (.tup (.cons (.tup .nil) (.cons (.cst (.int 1)) .nil))) .nil))) (.cons (.lst (.cons (.tup (.cons (.tup .nil) (.cons (.cst (.int 1)) (.cons (.cst (.int 0)) .nil)))) .nil)) (.cons (.lst (.cons (.lst (.cons (.tup .nil) (.cons (.cst (.int 1)) .nil))) .nil)) (.cons (.lst (.cons (.tup (.cons (.tup .nil) (.cons (.cst (.int 1)) .nil))) (.cons (.cst .none) .nil))) .nil)))))))))))))) (.one 2) (.cons (.ifs (.bop false (.cons (.cmp .ne (.cals 190 (.cons (.cst (.int 2)) (.cons (.cst (.int 9)) (.cons (.cst (.int 2)) (.cons (.var 2) (.cons (.cst .none) .nil)))))) (.cst (.str "set"))) (.cons (.cmp .ne (.cals 190 (.cons (.cst (.int 2)) (.cons (.cst (.int 10)) (.cons (.cst (.int 2)) (.cons (.var 2) (.cons (.cst (.int 0)) .nil)))))) (.cst (.str "set"))) .nil))) (.cons (.ret (.cst (.bool false))) .nil) .nil) .nil)) (.cons (.ifs (.bop false (.cons (.cmp .ne (.cmp0 (.it (.tup (.cons (.cst .none) (.cons (.tup (.cons (.cst (.int 2)) .nil)) (.cons (.lst (.cons (.cst (.int 0)) .nil)) (.cons (.tup (.cons (.cst (.int 0)) (.cons (.cst (.int 0)) .nil))) .nil)))))) (.one 2) (.cals 190 (.cons (.cst (.int 2)) (.cons (.cst (.int 9)) (.cons (.cst (.int 2)) (.cons (.lst (.cons (.tup (.cons (.tup .nil) (.cons (.var 5) .nil))) .nil)) (.cons (.var 2) .nil))))))) (.bin .mul (.lst (.cons (.cst (.str "set")) .nil)) (.cst (.int 4)))) (.cons (.cmp .ne (.cmp0 (.it (.tup (.cons (.cst (.int 9)) (.cons (.cst (.int 10)) .nil)))) (.one 3) (.cals 190 (.cons (.cst (.int 2)) (.cons (.var 3) (.cons (.cst (.int 4)) (.cons (.lst (.cons (.tup (.cons (.tup .nil) (.cons (.cst (.int 1)) .nil))) .nil)) (.cons (.tup .nil) .nil))))))) (.bin .mul (.lst (.cons (.cst (.str "number")) .nil)) (.cst (.int 2)))) .nil))) (.cons (.ret (.cst (.bool false))) .nil) .nil) (.cons (.ifs (.bop false (.cons (.cmp .ne (.cmp0 (.it (.tup (.cons (.cst (.int 9)) (.cons (.cst (.int 10)) .nil)))) (.one 3) (.cals 190 (.cons (.cst (.int 2)) (.cons (.var 3) (.cons (.cst (.int 3)) (.cons (.lst (.cons (.tup (.cons (.tup .nil) (.cons (.cst (.int 2)) .nil))) (.cons (.tup (.cons (.tup .nil) (.cons (.cst (.int 2)) .nil))) .nil))) (.cons (.tup .nil) .nil))))))) (.bin .mul (.lst (.cons (.cst (.str "done")) .nil)) (.cst (.int 2)))) (.cons (.cmp .ne (.cals 190 (.cons (.cst (.int 2)) (.cons (.cst (.int 9)) (.cons (.cst (.int 1)) (.cons (.lst (.cons (.tup (.cons (.tup .nil) (.cons (.cst (.int 6)) .nil))) .nil)) (.cons (.tup (.cons (.cst (.int 0)) .nil)) .nil)))))) (.cst (.str "done"))) .nil))) (.cons (.ret (.cst (.bool false))) .nil) .nil) (.cons (.ifs (.cmp .ne (.cmp0 (.it (.tup (.cons (.cst .none) (.cons (.lst (.cons (.cst (.int 5)) .nil)) (.cons (.bin .mul (.lst (.cons (.tup .nil) .nil)) (.cst (.int 20))) (.cons (.bin .mul (.lst (.cons (.tup .nil) .nil)) (.cst (.int 19))) .nil)))))) (.one 2) (.cals 190 (.cons (.cst (.int 2)) (.cons (.cst (.int 11)) (.cons (.cst (.int 2)) (.cons (.var 2) (.cons (.cst (.int 0)) .nil))))))) (.bin .add (.bin .mul (.lst (.cons (.cst (.str "baskets")) .nil)) (.cst (.int 3))) (.lst (.cons (.cst (.str "done")) .nil)))) (.cons (.ret (.cst (.bool false))) .nil) .nil) (.cons (.ret (.bop true (.cons (.cmp .is_ (.call 22 (.cons (.lst (.cons (.cst (.int 20)) (.cons (.cst (.int 20)) .nil))) (.cons (.cst (.int 1)) .nil))) (.cst (.bool true))) (.cons (.cals 193 .nil) (.cons (.cals 192 .nil) .nil))))) .nil)))))))))))), false⟩
/-- 195 -/
def d__law_first_v3 : DefI := ⟨"_law_first", ["_law_rows"], ["_law_rows"], (.cons (.ifs (.bop false (.cons (.cmp .ne (.call 5 (.cons (.cst (.int 2)) .nil)) (.lst (.cons (.tup .nil) (.cons (.tup (.cons (.cst (.int 0)) .nil)) (.cons (.tup (.cons (.cst (.int 1)) .nil)) (.cons (.tup (.cons (.cst (.int 0)) (.cons (.cst (.int 1)) .nil))) .nil)))))) (.cons (.cmp .ne (.call 26 (.cons (.cst (.int 3)) (.cons (.var 0) .nil))) (.lst (.cons (.cst (.int 4)) (.cons (.cst (.int 3)) (.cons (.cst (.int 4)) (.cons (.cst (.int 1)) (.cons (.cst (.int 3)) (.cons (.cst (.int 1)) (.cons (.cst (.int 1)) (.cons (.cst (.int 1)) .nil)))))))))) (.cons (.cmp .ne (.call 29 (.cons (.cst (.int 1)) (.cons (.lst (.cons (.cst (.int 2)) (.cons (.cst (.int 3)) .nil))) .nil))) (.lst (.cons (.bin .sub (.cst (.int 0)) (.cst (.int 1))) (.cons (.cst (.int 3)) .nil)))) .nil)))) (.cons (.ret (.cst (.bool false))) .nil) .nil) (.cons (.ifs (.bop false (.cons (.cmp .ne (.call 65 (.cons (.cst (.int 1)) (.cons (.lst (.cons (.cst (.int 2)) (.cons (.cst (.int 3)) .nil))) .nil))) (.tup (.cons (.tup .nil) (.cons (.bin .sub (.cst (.int 0)) (.cst (.int 1))) .nil)))) (.cons (.cmp .ne (.call 115 (.cons (.cst (.int 2)) (.cons (.lst (.cons (.cst (.int 4)) (.cons (.cst (.int 3)) (.cons (.cst (.int 2)) (.cons (.cst (.int 0)) .nil))))) (.cons (.tup (.cons (.cst (.int 0)) (.cons (.cst (.int 1)) .nil))) .nil)))) (.tup (.cons (.cst (.int 1)) (.cons (.cst (.int 2)) .nil)))) .nil))) (.cons (.ret (.cst (.bool false))) .nil) .nil) (.cons (.ret (.bop true (.cons (.cmp .eq (.call 42 (.cons (.cst (.int 2)) (.cons (.lst (.cons (.tup (.cons (.tup .nil) (.cons (.cst (.int 3)) .nil))) (.cons (.tup (.cons (.tup (.cons (.cst (.int 0)) .nil)) (.cons (.cst (.int 2)) .nil))) .nil))) (.cons (.tup (.cons (.cst (.int 0)) (.cons (.cst (.int 1)) .nil))) .nil)))) (.lst (.cons (.cst (.int 0)) (.cons (.cst (.int 1)) (.cons (.cst (.int 2)) .nil))))) (.cons (.cmp .eq (.call 47 (.cons (.cst (.int 3)) (.cons (.var 0) (.cons (.tup (.cons (.cst (.int 0)) .nil)) .nil)))) (.tup (.cons (.cst (.int 0)) (.cons (.cst (.int 1)) .nil)))) .nil)))) .nil))), false⟩
/-- 196 -/
def d__law_second : DefI := ⟨"_law_second", ["_law_rows"], ["_law_rows"], (.cons (.ifs (.bop false (.cons (.cmp .ne (.call 59 (.cons (.cst (.int 3)) (.cons (.var 0) (.cons (.cst (.int 2)) .nil)))) (.lst (.cons (.tup (.cons (.cst (.int 0)) (.cons (.cst (.int 1)) .nil))) .nil))) (.cons (.cmp .ne (.call 62 (.cons (.cst (.int 3)) (.cons (.var 0) .nil))) (.lst (.cons (.cst (.int 8)) (.cons (.cst (.int 4)) (.cons (.cst (.int 4)) (.cons (.cst (.int 2)) .nil)))))) (.cons (.cmp .ne (.call 80 (.cons (.cst (.int 3)) (.cons (.var 0) (.cons (.tup (.cons (.cst (.int 1)) .nil)) (.cons (.tup (.cons (.cst (.int 0)) .nil)) .nil))))) (.tup (.cons (.cst (.int 3)) (.cons (.cst (.int 4)) .nil)))) .nil)))) (.cons (.ret (.cst (.bool false))) .nil) .nil) (.cons (.ifs (.bop false (.cons (.cmp .ne (.call 84 (.cons (.cst (.int 2)) (.cons (.lst (.cons (.tup (.cons (.cst (.int 0)) (.cons (.cst (.int 1)) .nil))) (.cons (.tup (.cons (.cst (.int 1)) .nil)) .nil))) .nil))) (.lst (.cons (.tup (.cons (.tup .nil) (.cons (.cst (.int 1)) .nil))) .nil))) (.cons (.cmp .ne (.call 89 (.cons (.cst (.int 3)) (.cons (.var 0) (.cons (.tup (.cons (.cst (.int 2)) .nil)) .nil)))) (.lst (.cons (.tup (.cons (.cst (.int 0)) (.cons (.cst (.int 1)) (.cons (.cst (.int 2)) .nil)))) .nil))) .nil))) (.cons (.ret (.cst (.bool false))) .nil) .nil) (.cons (.ifs (.bop false (.cons (.cmp .ne (.call 88 (.cons (.cst (.int 2)) (.cons (.lst (.cons (.tup (.cons (.cst (.int 0)) .nil)) (.cons (.tup .nil) .nil))) .nil))) (.lst (.cons (.tup (.cons (.cst (.int 1)) .nil)) (.cons (.tup (.cons (.cst (.int 0)) (.cons (.cst (.int 1)) .nil))) .nil)))) (.cons (.cmp .ne (.call 92 (.cons (.cst (.int 1)) (.cons (.cst (.int 2)) .nil))) (.cst (.int 3))) (.cons (.cmp .ne (.call 98 (.cons (.cst (.int 1)) (.cons (.lst (.cons (.cst (.int 2)) (.cons (.cst (.int 3)) .nil))) .nil))) (.lst (.cons (.cst (.int 2)) (.cons (.cst (.int 2)) .nil)))) .nil)))) (.cons (.ret (.cst (.bool false))) .nil) .nil) (.cons (.ret (.cmp .eq (.call 134 (.cons (.cst (.int 3)) (.cons (.lst (.cons (.tup (.cons (.cst (.int 0)) (.cons (.cst (.int 1)) .nil))) (.cons (.tup .nil) .nil))) .nil))) (.cst (.str "01 -")))) .nil)))), false⟩
/-- 197 -/
def d_law_v22 : DefI := ⟨"law", ["_law_script"], ["_law_script", "_law_draws", "_law_rows", "_law_shown", "_law_many"], (.cons (.asg 1 (.start (.var 0))) (.cons (.asg 2 (.lst (.cons (.tup (.cons (.cst (.int 0)) (.cons (.cst (.int 1)) .nil))) (.cons (.tup (.cons (.cst (.int 0)) (.cons (.cst (.int 1)) (.cons (.cst (.int 2)) .nil)))) (.cons (.tup (.cons (.cst (.int 1)) .nil)) (.cons (.tup (.cons (.cst (.int 0)) (.cons (.cst (.int 1)) .nil))) .nil)))))) (.cons (.ifs (.bop false (.cons (.not (.call 195 (.cons (.var 2) .nil))) (.cons (.not (.call 196 (.cons (.var 2) .nil))) .nil))) (.cons (.ret (.cst (.bool false))) .nil) .nil) (.cons (.asg 3 (.tnew 9001 (.cst (.int 2)))) (.cons (.ifs (.bop false (.cons (.cmp .ne (.mc1 123 (.var 3) (.tup (.cons (.cst (.int 0)) .nil))) (.cst (.int 1))) (.cons (.cmp .ne (.mc1 123 (.var 3) (.tup .nil)) (.cst (.int 2))) .nil))) (.cons (.ret (.cst (.bool false))) .nil) .nil) (.cons (.asg 4 (.draw (.var 1) (.cst (.int 21)))) (.cons (.ret (.bop true (.cons (.cmp .eq (.call 26 (.cons (.cst (.int 1)) (.cons (.bin .mul (.lst (.cons (.tup (.cons (.cst (.int 0)) .nil)) .nil)) (.var 4)) .nil))) (.lst (.cons (.var 4) (.cons (.var 4) .nil)))) (.cons (.cmp .is_ (.call 64 (.cons (.cst (.int 1)) (.cons (.lst (.cons (.var 4) (.cons (.cst (.int 0)) .nil))) .nil))) (.cst (.bool true))) (.cons (.cmp .is_ (.call 65 (.cons (.cst (.int 1)) (.cons (.lst (.cons (.cst (.int 0)) (.cons (.cst (.int 0)) .nil))) .nil))) (.cst .none)) .nil))))) .nil))))))), false⟩
end Fn

namespace PyD
open PySem PySem.Spec L2
section
variable {C : Nat → List PyData → M PyData} {K : Str → Option PyData} {δ δ' : En} {d x y z r : PyData} {a b c e : Ex} {es : Exs} {ds xs ys its : List PyData} {S S' S2 S3 : Store} {f i j k : Nat} {t : Tg} {s : Src}
theorem e_var (h : δ[i]? = some (.val d)) : ev C K (.var i) δ S = .ok d S := by
  show (match δ[i]? with
    | some (.val d) => M.ret d
    | _ => M.bad) S = _
  rw [h]
  rfl
theorem e_ovr (h : δ[i]? = some (.own ds)) : ev C K (.ovr i) δ S = .ok (.list ds) S := by
  show (match δ[i]? with
    | some (.own ds) => M.ret (PyData.list ds)
    | _ => M.bad) S = _
  rw [h]
  rfl
theorem e_cst : ev C K (.cst d) δ S = .ok d S := rfl
theorem e_glo {g : Str} (h : K g = some d) : ev C K (.glo g) δ S = .ok d S := by
  show M.opt (K g) S = _
  rw [h]
  rfl
theorem e_nil : evs C K .nil δ S = .ok [] S := rfl
theorem e_cons (h1 : ev C K e δ S = .ok d S') (h2 : evs C K es δ S' = .ok ds S2) : evs C K (.cons e es) δ S = .ok (d :: ds) S2 := by
  show M.bnd (ev C K e δ) _ S = _
  rw [bnd_ok h1]
  show M.bnd (evs C K es δ) _ S' = _
  rw [bnd_ok h2]
  rfl
theorem e_lst (h : evs C K es δ S = .ok ds S') : ev C K (.lst es) δ S = .ok (.list ds) S' := by
  show M.bnd (evs C K es δ) _ S = _
  rw [bnd_ok h]
  rfl
theorem e_tup (h : evs C K es δ S = .ok ds S') : ev C K (.tup es) δ S = .ok (.tuple ds) S' := by
  show M.bnd (evs C K es δ) _ S = _
  rw [bnd_ok h]
  rfl
theorem e_bin {o : BOp} (h1 : ev C K a δ S = .ok x S') (h2 : ev C K b δ S' = .ok y S2) (h : binD o x y = some r) : ev C K (.bin o a b) δ S = .ok r S2 := by
  show M.bnd (ev C K a δ) _ S = _
  rw [bnd_ok h1]
  show M.bnd (ev C K b δ) _ S' = _
  rw [bnd_ok h2, h]
  rfl
theorem e_neg {n : Int} (h1 : ev C K a δ S = .ok (.int n) S') : ev C K (.neg a) δ S = .ok (.int (-n)) S' := by
  show M.bnd (ev C K a δ) _ S = _
  rw [bnd_ok h1]
  rfl
theorem e_cmp {o : COp} (h1 : ev C K a δ S = .ok x S') (h2 : ev C K b δ S' = .ok y S2) (h : cmpD o x y = some r) : ev C K (.cmp o a b) δ S = .ok r S2 := by
  show M.bnd (ev C K a δ) _ S = _
  rw [bnd_ok h1]
  show M.bnd (ev C K b δ) _ S' = _
  rw [bnd_ok h2, h]
  rfl
theorem e_chn {o o' : COp} {p q : Bool} (h1 : ev C K a δ S = .ok x S') (h2 : ev C K b δ S' = .ok y S2) (h : cmpD o x y = some (.bool p)) (h3 : ev C K c δ S2 = .ok z S2) (h4 : cmpD o' y z = some (.bool q)) : ev C K (.chn o o' a b c) δ S = .ok (.bool (p && q)) S2 := by
  show M.bnd (ev C K a δ) _ S = _
  rw [bnd_ok h1]
  show M.bnd (ev C K b δ) _ S' = _
  rw [bnd_ok h2, h]
  cases p with
  | false => rfl
  | true =>
    show M.bnd (ev C K c δ) _ S2 = _
    rw [bnd_ok h3, h4]
    rfl
theorem e_not {p : Bool} (h1 : ev C K a δ S = .ok (.bool p) S') : ev C K (.not a) δ S = .ok (.bool (!p)) S' := by
  show M.bnd (ev C K a δ) _ S = _
  rw [bnd_ok h1]
  rfl
theorem e_iteT (h1 : ev C K c δ S = .ok (.bool true) S') (h2 : ev C K a δ S' = .ok x S2) : ev C K (.ite c a b) δ S = .ok x S2 := by
  show M.bnd (ev C K c δ) _ S = _
  rw [bnd_ok h1]
  exact h2
theorem e_iteF (h1 : ev C K c δ S = .ok (.bool false) S') (h2 : ev C K b δ S' = .ok x S2) : ev C K (.ite c a b) δ S = .ok x S2 := by
  show M.bnd (ev C K c δ) _ S = _
  rw [bnd_ok h1]
  exact h2
/-- either way without a change of the store -/
theorem e_ite {p : Bool} (h1 : ev C K c δ S = .ok (.bool p) S) (h2 : ev C K a δ S = .ok x S) (h3 : ev C K b δ S = .ok y S) : ev C K (.ite c a b) δ S = .ok (if p then x else y) S := by
  cases p with
  | true => exact e_iteT h1 h2
  | false => exact e_iteF h1 h3
theorem e_call (h1 : evs C K es δ S = .ok ds S') (h2 : ds.all noTok = true) (h3 : C f ds [] = .ok r []) : ev C K (.call f es) δ S = .ok r S' := by
  show M.bnd (evs C K es δ) _ S = _
  rw [bnd_ok h1]
  show pureC ds (C f ds) S' = _
  unfold pureC
  rw [if_pos h2, h3]
theorem e_joi {x : Str} (h1 : ev C K a δ S = .ok (.str x) S') (h2 : ev C K b δ S' = .ok y S2) (h : joiD (.str x) y = some r) : ev C K (.joi a b) δ S = .ok r S2 := by
  show M.bnd (ev C K a δ) _ S = _
  rw [bnd_ok h1]
  show M.bnd (ev C K b δ) _ S' = _
  rw [bnd_ok h2, h]
  rfl
theorem e_spl {x : Str} (h1 : ev C K a δ S = .ok (.str x) S') (h2 : ev C K b δ S' = .ok y S2) (h : splD (.str x) y = some r) : ev C K (.spl a b) δ S = .ok r S2 := by
  show M.bnd (ev C K a δ) _ S = _
  rw [bnd_ok h1]
  show M.bnd (ev C K b δ) _ S' = _
  rw [bnd_ok h2, h]
  rfl
theorem e_calr (h1 : evs C K es δ S = .ok ds S') (h2 : ds.all noTok = true) (h3 : C f ds [] = .ok r []) (h4 : sclD r = true) : ev C K (.calr f es) δ S = .ok r S' := by
  show M.bnd (evs C K es δ) (fun ds => pureC ds (sclR (C f ds))) S = _
  rw [bnd_ok h1]
  unfold pureC sclR
  rw [if_pos h2, h3]
  dsimp only
  rw [if_pos h4]
theorem e_cals (h1 : evs C K es δ S = .ok ds S') (h3 : C f ds S' = .ok r S2) : ev C K (.cals f es) δ S = .ok r S2 := by
  show M.bnd (evs C K es δ) _ S = _
  rw [bnd_ok h1]
  exact h3
theorem e_bi {g : Bi} (h1 : ev C K a δ S = .ok x S') (h : biD g x = some r) : ev C K (.bi g a) δ S = .ok r S' := by
  show M.bnd (ev C K a δ) _ S = _
  rw [bnd_ok h1, h]
  rfl
theorem e_mx2 {m n : Int} {g : Bool} (h1 : ev C K a δ S = .ok (.int m) S') (h2 : ev C K b δ S' = .ok (.int n) S2) : ev C K (.mx2 g a b) δ S = .ok (.int (if g then (if n > m then n else m) else (if n < m then n else m))) S2 := by
  show M.bnd (ev C K a δ) _ S = _
  rw [bnd_ok h1]
  show M.bnd (ev C K b δ) _ S' = _
  rw [bnd_ok h2]
  rfl
theorem e_isi {g : Ty} {p : Bool} (h1 : ev C K a δ S = .ok x S') (h : isiD g x = some p) : ev C K (.isi a g) δ S = .ok (.bool p) S' := by
  show M.bnd (ev C K a δ) _ S = _
  rw [bnd_ok h1, h]
  rfl
theorem e_srs (h1 : ev C K a δ S = .ok x S') (h : srsD x = some r) : ev C K (.srs a) δ S = .ok r S' := by
  show M.bnd (ev C K a δ) _ S = _
  rw [bnd_ok h1, h]
  rfl
theorem e_lrg (h1 : ev C K a δ S = .ok x S') (h : rangeI (.int 0) x = some xs) : ev C K (.lrg a) δ S = .ok (.list xs) S' := by
  show M.bnd (ev C K a δ) _ S = _
  rw [bnd_ok h1, h]
  rfl
theorem e_trg (h1 : ev C K a δ S = .ok x S') (h : rangeI (.int 0) x = some xs) : ev C K (.trg a) δ S = .ok (.tuple xs) S' := by
  show M.bnd (ev C K a δ) _ S = _
  rw [bnd_ok h1, h]
  rfl
theorem e_idx (h1 : ev C K a δ S = .ok x S') (h2 : ev C K b δ S' = .ok y S2) (h : idxD x y = some r) : ev C K (.idx a b) δ S = .ok r S2 := by
  show M.bnd (ev C K a δ) _ S = _
  rw [bnd_ok h1]
  show M.bnd (ev C K b δ) _ S' = _
  rw [bnd_ok h2, h]
  rfl
theorem e_cnt (h1 : ev C K a δ S = .ok (.list xs) S') (h2 : ev C K b δ S' = .ok y S2) (h : cntD (.list xs) y = some r) : ev C K (.cnt a b) δ S = .ok r S2 := by
  show M.bnd (ev C K a δ) _ S = _
  rw [bnd_ok h1]
  show M.bnd (ev C K b δ) _ S' = _
  rw [bnd_ok h2, h]
  rfl
theorem e_ind (h1 : ev C K a δ S = .ok (.list xs) S') (h2 : ev C K b δ S' = .ok y S2) (h : indD (.list xs) y = some r) : ev C K (.ind a b) δ S = .ok r S2 := by
  show M.bnd (ev C K a δ) _ S = _
  rw [bnd_ok h1]
  show M.bnd (ev C K b δ) _ S' = _
  rw [bnd_ok h2, h]
  rfl
theorem e_bop1 {g : Bool} (h : ev C K e δ S = .ok x S') : ev C K (.bop g (.cons e .nil)) δ S = .ok x S' := h
theorem e_bopG {g : Bool} {e' : Ex} (h1 : ev C K e δ S = .ok (.bool g) S') (h2 : ev C K (.bop g (.cons e' es)) δ S' = .ok x S2) : ev C K (.bop g (.cons e (.cons e' es))) δ S = .ok x S2 := by
  show M.bnd (ev C K e δ) _ S = _
  rw [bnd_ok h1]
  show (if (g == g) = true then evb C K g (.cons e' es) δ else M.ret (.bool g)) S' = _
  rw [if_pos (by cases g <;> rfl)]
  exact h2
theorem e_bopS {g : Bool} {e' : Ex} (h1 : ev C K e δ S = .ok (.bool (!g)) S') : ev C K (.bop g (.cons e (.cons e' es))) δ S = .ok (.bool (!g)) S' := by
  show M.bnd (ev C K e δ) _ S = _
  rw [bnd_ok h1]
  cases g <;> rfl
/-- both without a change of the store -/
theorem e_and {p q : Bool} {e' : Ex} (h1 : ev C K e δ S = .ok (.bool p) S) (h2 : ev C K (.bop true (.cons e' es)) δ S = .ok (.bool q) S) : ev C K (.bop true (.cons e (.cons e' es))) δ S = .ok (.bool (p && q)) S := by
  cases p with
  | true => exact e_bopG h1 h2
  | false => exact e_bopS (g := true) h1
theorem e_or {p q : Bool} {e' : Ex} (h1 : ev C K e δ S = .ok (.bool p) S) (h2 : ev C K (.bop false (.cons e' es)) δ S = .ok (.bool q) S) : ev C K (.bop false (.cons e (.cons e' es))) δ S = .ok (.bool (p || q)) S := by
  cases p with
  | false => exact e_bopG (g := false) h1 h2
  | true => exact e_bopS (g := false) h1
theorem s_it (h : ev C K e δ S = .ok x S') (h2 : itemsD x = some its) : evS C K (.it e) δ S = .ok its S' := by
  show M.bnd (ev C K e δ) _ S = _
  rw [bnd_ok h, h2]
  rfl
theorem s_rg1 (h : ev C K e δ S = .ok x S') (h2 : rangeI (.int 0) x = some its) : evS C K (.rg1 e) δ S = .ok its S' := by
  show M.bnd (ev C K e δ) _ S = _
  rw [bnd_ok h, h2]
  rfl
theorem s_rg2 (h : ev C K a δ S = .ok x S') (h1 : ev C K b δ S' = .ok y S2) (h2 : rangeI x y = some its) : evS C K (.rg2 a b) δ S = .ok its S2 := by
  show M.bnd (ev C K a δ) _ S = _
  rw [bnd_ok h]
  show M.bnd (ev C K b δ) _ S' = _
  rw [bnd_ok h1, h2]
  rfl
theorem s_enu (h : ev C K e δ S = .ok x S') (h2 : enumD x = some its) : evS C K (.enu e) δ S = .ok its S' := by
  show M.bnd (ev C K e δ) _ S = _
  rw [bnd_ok h, h2]
  rfl
theorem s_zip (h : ev C K a δ S = .ok x S') (h1 : ev C K b δ S' = .ok y S2) (h2 : zipD x y = some its) : evS C K (.zip a b) δ S = .ok its S2 := by
  show M.bnd (ev C K a δ) _ S = _
  rw [bnd_ok h]
  show M.bnd (ev C K b δ) _ S' = _
  rw [bnd_ok h1, h2]
  rfl
theorem lst_map {α : Type} {f : PyData → M (Option PyData)} {g : α → PyData} {r : α → Option PyData} : ∀ (l : List α), (∀ u ∈ l, f (g u) S = .ok (r u) S) → M.lst f (l.map g) S = .ok (l.filterMap r) S
  | [], _ => rfl
  | u :: l, h => by
    show M.bnd (M.nox (f (g u))) (fun r => M.bnd (M.lst f (l.map g)) fun rs => M.ret (consO r rs)) S = _
    rw [bnd_ok (a := r u) (S' := S) (by unfold M.nox; rw [h u List.mem_cons_self]), bnd_ok (lst_map l fun v hv => h v (List.mem_cons_of_mem _ hv))]
    show Res.ok (consO (r u) (l.filterMap r)) S = _
    rw [List.filterMap_cons]
    cases r u <;> rfl
/-- [e for t in s], the items given as images -/
theorem e_cmp0 {α : Type} {l : List α} {g v : α → PyData} (hs : evS C K s δ S = .ok (l.map g) S') (h : ∀ u ∈ l, ∃ δ', t.set (g u) (wipeD δ t.vs) = some δ' ∧ ev C K e δ' S' = .ok (v u) S') : ev C K (.cmp0 s t e) δ S = .ok (.list (l.map v)) S' := by
  show M.bnd (evS C K s δ) _ S = _
  rw [bnd_ok hs]
  show M.bnd (M.lst _ (l.map g)) _ S' = _
  rw [bnd_ok (lst_map (r := fun u => some (v u)) l fun u hu => by
    obtain ⟨δ', h1, h2⟩ := h u hu
    rw [h1]
    show M.bnd (ev C K e δ') _ S' = _
    rw [bnd_ok h2]
    rfl)]
  rw [List.filterMap_eq_map']
  rfl
/-- [e for t in s if c] -/
theorem e_cmp1 {α : Type} {l : List α} {g v : α → PyData} {p : α → Bool} (hs : evS C K s δ S = .ok (l.map g) S') (h : ∀ u ∈ l, ∃ δ', t.set (g u) (wipeD δ t.vs) = some δ' ∧ ev C K c δ' S' = .ok (.bool (p u)) S' ∧ ev C K e δ' S' = .ok (v u) S') :
    ev C K (.cmp1 s t c e) δ S = .ok (.list ((l.filter p).map v)) S' := by
  show M.bnd (evS C K s δ) _ S = _
  rw [bnd_ok hs]
  show M.bnd (M.lst _ (l.map g)) _ S' = _
  rw [bnd_ok (lst_map (r := fun u => if p u then some (v u) else none) l fun u hu => by
    obtain ⟨δ', h1, h2, h3⟩ := h u hu
    rw [h1]
    show M.bnd (ev C K c δ') _ S' = _
    rw [bnd_ok h2]
    cases p u with
    | true =>
      show M.bnd (ev C K e δ') _ S' = _
      rw [bnd_ok h3]
      rfl
    | false => rfl)]
  have e1 : (l.filterMap fun u => if p u then some (v u) else none) = (l.filter p).map v := by
    clear hs h
    induction l with
    | nil => rfl
    | cons u l ih =>
      rw [List.filterMap_cons, List.filter_cons]
      cases p u with
      | true => simpa using ih
      | false => simpa using ih
  rw [e1]
  rfl
theorem t_asg (h : ev C K e δ S = .ok d S') : evT C K (.asg i e) δ S = .nxt (δ.set i (.val d)) S' := by
  show SRes.of (ev C K e δ S) _ _ = _
  rw [h]
  rfl
theorem t_own (h : ev C K e δ S = .ok (.list ds) S') : evT C K (.own i e) δ S = .nxt (δ.set i (.own ds)) S' := by
  show SRes.of (ev C K e δ S) _ _ = _
  rw [h]
  rfl
theorem t_exp (h : ev C K e δ S = .ok d S') : evT C K (.exp e) δ S = .nxt δ S' := by
  show SRes.of (ev C K e δ S) _ _ = _
  rw [h]
  rfl
theorem t_ifF {p q : Sts} {R : SRes} (h : ev C K c δ S = .ok (.bool false) S') (h2 : evTs C K q δ S' = R) : evT C K (.ifs c p q) δ S = R := by
  show SRes.of (ev C K c δ S) _ _ = _
  rw [h]
  exact h2
theorem t_ifT {p q : Sts} {R : SRes} (h : ev C K c δ S = .ok (.bool true) S') (h2 : evTs C K p δ S' = R) : evT C K (.ifs c p q) δ S = R := by
  show SRes.of (ev C K c δ S) _ _ = _
  rw [h]
  exact h2
theorem t_ret (h : ev C K e δ S = .ok d S') : evT C K (.ret e) δ S = .ret d S' := by
  show SRes.of (ev C K e δ S) _ _ = _
  rw [h]
  rfl
theorem ts_nxt {q : St} {ts : Sts} {R : SRes} (h : evT C K q δ S = .nxt δ' S') (h2 : evTs C K ts δ' S' = R) : evTs C K (.cons q ts) δ S = R := by
  rw [evTs_cons h]
  exact h2
theorem ts_ret {q : St} {ts : Sts} (h : evT C K q δ S = .ret d S') : evTs C K (.cons q ts) δ S = .ret d S' := by
  show (evT C K q δ S).thn _ = _
  rw [h]
  rfl
theorem ts_nil : evTs C K .nil δ S = .nxt δ S := rfl
theorem run_ret {D : DefI} {args : List PyData} (hl : args.length = D.ps.length) (hf : D.fr = false) (h : evTs C K D.body (args.map .val ++ List.replicate (D.N.length - D.ps.length) .non) S = .ret d S') : D.run C K args S = .ok d S' := by
  unfold DefI.run
  rw [if_pos hl, h, hf]
  rfl
theorem run_nxt {D : DefI} {args : List PyData} (hl : args.length = D.ps.length) (hf : D.fr = false) (h : evTs C K D.body (args.map .val ++ List.replicate (D.N.length - D.ps.length) .non) S = .nxt δ' S') : D.run C K args S = .ok .none S' := by
  unfold DefI.run
  rw [if_pos hl, h, hf]
  rfl
end
def tupD (a : List Int) : PyData := .tuple (a.map .int)
def rowD (r : List (List Int)) : PyData := .list (r.map tupD)
def subB (a b : List Int) : Bool := a.all fun x => b.contains x
theorem plain_ints (l : List Int) : PyData.plainAll (l.map PyData.int) = true := by
  induction l with
  | nil => rfl
  | cons n l ih => simpa [PyData.plainAll, PyData.plain] using ih
theorem plain_tup (a : List Int) : (tupD a).plain = true := by simpa [tupD, PyData.plain] using plain_ints a
theorem plain_tups (r : List (List Int)) : PyData.plainAll (r.map tupD) = true := by
  induction r with
  | nil => rfl
  | cons a r ih => simp [PyData.plainAll, plain_tup, ih]
theorem plain_row (r : List (List Int)) : (rowD r).plain = true := by simpa [rowD, PyData.plain] using plain_tups r
theorem noTok_plain {d : PyData} (h : d.plain = true) : noTok d = true := by
  unfold noTok
  split
  · rfl
  · exact h
@[simp] theorem nt_tup (a : List Int) : noTok (tupD a) = true := noTok_plain (plain_tup a)
@[simp] theorem nt_row (r : List (List Int)) : noTok (rowD r) = true := noTok_plain (plain_row r)
@[simp] theorem nt_int (n : Int) : noTok (.int n) = true := rfl
@[simp] theorem nt_ints (l : List Int) : noTok (.list (l.map .int)) = true := noTok_plain (by simpa [PyData.plain] using plain_ints l)
@[simp] theorem nt_bool (b : Bool) : noTok (.bool b) = true := rfl
section
variable {C : Nat → List PyData → M PyData} {K : Str → Option PyData}
theorem counted_ok {D : List (List Int)} (hw : ∀ a ∈ D, ∀ b ∈ D, C 6 [tupD a, tupD b] [] = .ok (.bool (subB a b)) []) {r : List (List Int)} (hr : ∀ b ∈ r, b ∈ D) {a : List Int} (ha : a ∈ D) :
    Fn.d_counted.run C K [rowD r, tupD a] [] = .ok (.int (r.countP (subB a) : Nat)) [] := by
  refine run_ret rfl rfl (ts_ret (t_ret (e_bi (e_cmp1 (l := r) (g := tupD) (v := tupD) (p := subB a) (s_it (e_var rfl) rfl) fun b hb => ⟨_, rfl, e_call (e_cons (e_var rfl) (e_cons (e_var rfl) e_nil)) (by simp) (hw a ha b (hr b hb)), e_var rfl⟩) ?_)))
  show some (PyData.int (((r.filter (subB a)).map tupD).length : Nat)) = _
  rw [List.length_map, ← List.countP_eq_length_filter]
end
end PyD

namespace PyD
open PySem PySem.Spec
def isTr : SRes → Bool
  | .ret (.bool true) _ => true
  | _ => false
def dropS : Nat → Sts → Sts
  | 0, ts => ts
  | n + 1, .cons _ ts => dropS n ts
  | _, .nil => .nil
def takeS : Nat → Sts → Sts
  | 0, _ => .nil
  | n + 1, .cons t ts => .cons t (takeS n ts)
  | _, .nil => .nil
section
variable {C : Nat → List PyData → M PyData} {K : Str → Option PyData} {δ δ' : En} {S S' : Store} {R : SRes}
theorem ts_split : ∀ (n : Nat) (ts : Sts) {δ : En} {S : Store}, evTs C K (takeS n ts) δ S = .nxt δ' S' → evTs C K (dropS n ts) δ' S' = R → evTs C K ts δ S = R
  | 0, ts, δ, S, h, h2 => by
    cases ts <;> (cases h; exact h2)
  | n + 1, .nil, δ, S, h, h2 => by
    cases h
    exact h2
  | n + 1, .cons t ts, δ, S, h, h2 => by
    have h' : (evT C K t δ S).thn (evTs C K (takeS n ts)) = .nxt δ' S' := h
    show (evT C K t δ S).thn (evTs C K ts) = R
    cases e : evT C K t δ S with
    | nxt δ1 S1 =>
      rw [e] at h'
      exact ts_split n ts h' h2
    | ret _ _ => rw [e] at h'; cases h'
    | reto _ _ => rw [e] at h'; cases h'
    | exc _ _ _ => rw [e] at h'; cases h'
    | bad => rw [e] at h'; cases h'
theorem isTr_ok {r : SRes} (h : isTr r = true) : ∃ S, r = .ret (.bool true) S := by
  unfold isTr at h
  split at h
  · exact ⟨_, rfl⟩
  · cases h
/-- one draw, other objects behind -/
theorem draw_cons {ns : List Int} {c l : Int} {B : Store} (hne : ns ≠ []) (h0 : 0 < l) (h1 : l < 1000000) : ∃ r ns' c', ns' ≠ [] ∧ 0 ≤ r ∧ r < l ∧ drawD (tokD 0) (.int l) (.draws ns c :: B) = .ok r (.draws ns' c' :: B) := by
  obtain ⟨d0, d1⟩ := drawF_lt (ns := ns) (c := c) h0
  refine ⟨(drawF ns c l).1, (drawF ns c l).2, c + 1, fun z => hne ?_, d0, d1, ?_⟩
  · have e := drawF_len ns c l
    rw [z] at e
    exact List.length_eq_zero_iff.mp e.symm
  · show (if decide (0 < l) && (decide (l < 1000000) && !ns.isEmpty) then _ else _ : Res Int) = _
    have e : ns.isEmpty = false := by
      cases ns with
      | nil => exact absurd rfl hne
      | cons _ _ => rfl
    rw [decide_eq_true h0, decide_eq_true h1, e]
    rfl
theorem start_cons (ns : List Int) : ∃ ns' c, ns' ≠ [] ∧ startD (scrD ns) [] = .ok (tokD 0) [.draws ns' c] := by
  obtain ⟨S, ⟨ns', c, rfl, h⟩, e⟩ := start_dr ns
  exact ⟨ns', c, h, e⟩
theorem e_drawK {t l : Ex} {x : PyData} {i r : Int} {S2 : Store} (h1 : ev C K t δ S = .ok x S) (h2 : ev C K l δ S = .ok (.int i) S) (h3 : drawD x (.int i) S = .ok r S2) : ev C K (.draw t l) δ S = .ok (.int r) S2 := by
  show M.bnd (ev C K t δ) (fun x => M.bnd (ev C K l δ) fun y => M.bnd (drawD x y) fun r => M.ret (PyData.int r)) S = _
  rw [bnd_ok h1, bnd_ok h2, bnd_ok h3]
  rfl
theorem e_startK {s : Ex} {x : PyData} {r : PyData} {S2 : Store} (h1 : ev C K s δ S = .ok x S) (h3 : startD x S = .ok r S2) : ev C K (.start s) δ S = .ok r S2 := by
  show M.bnd (ev C K s δ) (fun x => startD x) S = _
  rw [bnd_ok h1]
  exact h3
end
end PyD

namespace PyD
open PySem PySem.Spec L2
mutual
def sameD : PyData → PyData → Bool
  | .none, .none => true
  | .bool a, .bool b => a == b
  | .int a, .int b => decide (a = b)
  | .str a, .str b => decide (a = b)
  | .list a, .list b => sameL a b
  | .tuple a, .tuple b => sameL a b
  | _, _ => false
def sameL : List PyData → List PyData → Bool
  | [], [] => true
  | x :: xs, y :: ys => sameD x y && sameL xs ys
  | _, _ => false
end
mutual
theorem sameD_eq : ∀ x y : PyData, sameD x y = true → x = y
  | .none, y, h => by cases y <;> first | rfl | cases h
  | .bool a, y, h => by
    cases y <;> first | (cases h; done) | skip
    simp only [sameD, beq_iff_eq] at h
    rw [h]
  | .int a, y, h => by
    cases y <;> first | (cases h; done) | skip
    simp only [sameD, decide_eq_true_eq] at h
    rw [h]
  | .str a, y, h => by
    cases y <;> first | (cases h; done) | skip
    simp only [sameD, decide_eq_true_eq] at h
    rw [h]
  | .list a, y, h => by
    cases y <;> first | (cases h; done) | skip
    simp only [sameD] at h
    rw [sameL_eq a _ h]
  | .tuple a, y, h => by
    cases y <;> first | (cases h; done) | skip
    simp only [sameD] at h
    rw [sameL_eq a _ h]
  | .dict a, y, h => by cases y <;> cases h
theorem sameL_eq : ∀ x y : List PyData, sameL x y = true → x = y
  | [], y, h => by cases y <;> first | rfl | cases h
  | a :: x, y, h => by
    cases y with
    | nil => cases h
    | cons b y =>
      simp only [sameL, Bool.and_eq_true] at h
      rw [sameD_eq a b h.1, sameL_eq x y h.2]
end
/-- this value, the store left empty -/
def isOk (r : Res PyData) (d : PyData) : Bool := match r with
  | .ok x [] => sameD x d
  | _ => false
theorem isOk_eq {r : Res PyData} {d : PyData} (h : isOk r d = true) : r = .ok d [] := by
  unfold isOk at h
  split at h
  · rw [sameD_eq _ _ h]
  · cases h
theorem depth_ints (l : List Int) : PyData.depthAll (l.map PyData.int) ≤ 1 := by
  have h := okD_depth (okD_ints l)
  induction l with
  | nil => exact Nat.zero_le _
  | cons n l ih => simp [PyData.depthAll, PyData.depth] <;> (try omega) <;> (try exact ih (okD_depth (okD_ints l)))
theorem depth_tup (a : List Int) : (tupD a).depth ≤ 2 := by
  have z := depth_ints a
  simp only [tupD, PyData.depth]
  omega
theorem depth_row (r : List (List Int)) : PyData.depthAll (r.map tupD) ≤ 2 := by
  induction r with
  | nil => exact Nat.zero_le _
  | cons a r ih =>
    have z := depth_tup a
    simp only [List.map_cons, PyData.depthAll]
    omega
theorem okD_tup (a : List Int) : okD (tupD a) = true := by
  have z := depth_tup a
  unfold okD
  rw [plain_tup, decide_eq_true (by omega)]
  rfl
theorem okD_row (r : List (List Int)) : okD (rowD r) = true := by
  have z := depth_row r
  unfold okD
  rw [plain_row, decide_eq_true (by simp only [rowD, PyData.depth]; omega)]
  rfl
def E : Nat → List (List Int)
  | 1 => [[], [0]]
  | 2 => [[], [0], [1], [0, 1]]
  | 3 => [[], [0], [1], [2], [0, 1], [0, 2], [1, 2], [0, 1, 2]]
  | 4 => [[], [0], [1], [2], [3], [0, 1], [0, 2], [0, 3], [1, 2], [1, 3], [2, 3], [0, 1, 2], [0, 1, 3], [0, 2, 3], [1, 2, 3], [0, 1, 2, 3]]
  | _ => []
def N4 : List Nat := [1, 2, 3, 4]
theorem for_inv {b : En → Store → SRes} {t : Tg} (I : Nat → En → Store → Prop) : ∀ (its : List PyData) (i : Nat) (δ : En) (S : Store), I i δ S →
    (∀ j x, its[j]? = some x → ∀ δ S, I (i + j) δ S → ∃ δ1 δ2 S2, t.set x δ = some δ1 ∧ b δ1 S = .nxt δ2 S2 ∧ I (i + j + 1) δ2 S2) → ∃ δ' S', forD b t its δ S = .nxt δ' S' ∧ I (i + its.length) δ' S'
  | [], i, δ, S, h, _ => ⟨δ, S, rfl, h⟩
  | x :: xs, i, δ, S, h, hs => by
    obtain ⟨δ1, δ2, S2, h1, h2, h3⟩ := hs 0 x rfl δ S h
    obtain ⟨δ', S', h4, h5⟩ := for_inv I xs (i + 1) δ2 S2 h3 fun j y hy δ S hI => by
      have z := hs (j + 1) y (by simpa using hy) δ S (by rw [show i + (j + 1) = i + 1 + j by omega]; exact hI)
      rw [show i + (j + 1) + 1 = i + 1 + j + 1 by omega] at z
      exact z
    refine ⟨δ', S', ?_, by rw [List.length_cons, show i + (xs.length + 1) = i + 1 + xs.length by omega]; exact h5⟩
    show (match t.set x δ with
      | some δ' => (b δ' S).thn (forD b t xs)
      | none => .bad) = _
    rw [h1]
    show (b δ1 S).thn (forD b t xs) = _
    rw [h2]
    exact h4
section
variable {C : Nat → List PyData → M PyData} {K : Str → Option PyData} {δ δ' : En} {d x y r : PyData} {a e : Ex} {ds xs its : List PyData} {S S' S2 S3 : Store} {i : Nat} {t : Tg} {s : Src} {q : St} {ts : Sts}
theorem t_for {R : SRes} (hs : evS C K s δ S = .ok its S') (h : forD (evTs C K ts) t its δ S' = R) : evT C K (.for_ s t ts) δ S = R := by
  show SRes.of (evS C K s δ S) _ _ = _
  rw [hs]
  exact h
theorem t_app (h1 : δ[i]? = some (.own ds)) (h : ev C K e δ S = .ok d S') (hl : ds.length < lineD) : evT C K (.app i e) δ S = .nxt (δ.set i (.own (ds ++ [d]))) S' := by
  show ownAt δ i _ = _
  unfold ownAt
  rw [h1]
  show SRes.of (ev C K e δ S) _ _ = _
  rw [h]
  show (if ds.length < lineD then _ else _ : SRes) = _
  rw [if_pos hl]
theorem t_shr {R : SRes} (h1 : δ[i]? = some (.own ds)) (h : evT C K q (δ.set i (.val (.list ds))) S = R) : evT C K (.shr i q) δ S = R := by
  show ownAt δ i _ = _
  unfold ownAt
  rw [h1]
  exact h
theorem e_draw {l : Int} (h1 : ev C K a δ S = .ok (tokD 0) S') (h2 : ev C K e δ S' = .ok (.int l) S2) {n : Int} (h : drawD (tokD 0) (.int l) S2 = .ok n S3) : ev C K (.draw a e) δ S = .ok (.int n) S3 := by
  show M.bnd (ev C K a δ) _ S = _
  rw [bnd_ok h1]
  show M.bnd (ev C K e δ) _ S' = _
  rw [bnd_ok h2]
  show M.bnd (drawD (tokD 0) (.int l)) _ S2 = _
  rw [bnd_ok h]
  rfl
theorem e_pick (h1 : ev C K a δ S = .ok (tokD 0) S') (h2 : ev C K e δ S' = .ok (.list xs) S2) {n : Int} (h : drawD (tokD 0) (.int xs.length) S2 = .ok n S3) (hx : xs[n.toNat]? = some x) : ev C K (.pick a e) δ S = .ok x S3 := by
  show M.bnd (ev C K a δ) _ S = _
  rw [bnd_ok h1]
  show M.bnd (ev C K e δ) _ S' = _
  rw [bnd_ok h2]
  show M.bnd (drawD (tokD 0) (.int xs.length)) _ S2 = _
  rw [bnd_ok h, hx]
  rfl
theorem e_start {ns : List Int} (h1 : ev C K a δ S = .ok (scrD ns) S') {x : PyData} (h : startD (scrD ns) S' = .ok x S2) : ev C K (.start a) δ S = .ok x S2 := by
  show M.bnd (ev C K a δ) _ S = _
  rw [bnd_ok h1]
  exact h
/-- a draw below l -/
theorem draw_any {l : Int} (h : Dr S) (h0 : 0 < l) (h1 : l < 1000000) : ∃ (n : Nat) (S' : Store), Dr S' ∧ (n : Int) < l ∧ drawD (tokD 0) (.int l) S = .ok (n : Int) S' := by
  obtain ⟨r, S', h2, h3, h4, h5⟩ := draw_dr h h0 h1
  exact ⟨r.toNat, S', h2, by omega, by rw [h5]; congr 1; omega⟩
theorem e_cmp1S {c : Ex} {ys : List PyData} (hs : evS C K s δ S = .ok its S') (h : M.lst (itmF t (ev C K c) (ev C K e) δ) its S' = .ok ys S2) : ev C K (.cmp1 s t c e) δ S = .ok (.list ys) S2 := by
  show M.bnd (evS C K s δ) (fun its => M.bnd (M.lst (itmF t (ev C K c) (ev C K e) δ) its) fun ys => M.ret (PyData.list ys)) S = _
  rw [bnd_ok hs, bnd_ok h]
  rfl
theorem subs_E : N4.all (fun n => (subsD ((List.range n).map fun (i : Nat) => (i : Int))).all fun a => (E n).contains a) = true := by decide +kernel
theorem subsD_map {α β : Type} (f : α → β) : ∀ l : List α, subsD (l.map f) = (subsD l).map (·.map f)
  | [] => rfl
  | x :: xs => by
    show (subsD (xs.map f)).map (f x :: ·) ++ subsD (xs.map f) = ((subsD xs).map (x :: ·) ++ subsD xs).map (·.map f)
    rw [subsD_map f xs, List.map_append, List.map_map, List.map_map]
    rfl
theorem set_drawn {n : Nat} (hn : n ∈ N4) (h : Dr S) : ∃ (a : List Int) (S' : Store), Dr S' ∧ a ∈ E n ∧ Fn.d__law_set.run C K [tokD 0, .int n] S = .ok (tupD a) S' := by
  have hF : ∀ x ∈ ((List.range n).map fun (i : Nat) => (i : Int)).map PyData.int, ∀ S, Dr S → ∃ r S', Dr S' ∧ (r = none ∨ r = some x) ∧ itmF (.one 2) (ev C K (.cmp .eq (.draw (.var 0) (.cst (.int 2))) (.cst (.int 0)))) (ev C K (.var 2)) [.val (tokD 0), .val (.int n), .non] x S = .ok r S' := fun x _ S h => by
    obtain ⟨r, S', h', _, e⟩ := draw_any (l := 2) h (by decide) (by decide)
    have e1 : ev C K (.cmp .eq (.draw (.var 0) (.cst (.int 2))) (.cst (.int 0))) [.val (tokD 0), .val (.int n), .val x] S = .ok (.bool (PyData.eqv (.int (r : Int)) (.int 0))) S' := e_cmp (e_draw (e_var rfl) e_cst e) e_cst rfl
    show ∃ r S', Dr S' ∧ (r = none ∨ r = some x) ∧ M.bnd (ev C K (.cmp .eq (.draw (.var 0) (.cst (.int 2))) (.cst (.int 0))) [.val (tokD 0), .val (.int n), .val x]) _ S = _
    rw [bnd_ok e1]
    cases PyData.eqv (.int (r : Int)) (.int 0) with
    | true => exact ⟨some x, S', h', .inr rfl, rfl⟩
    | false => exact ⟨none, S', h', .inl rfl, rfl⟩
  obtain ⟨sub, S', h', hs, e⟩ := lst_subs _ hF S h
  rw [subsD_map] at hs
  obtain ⟨a, ha, rfl⟩ := List.mem_map.mp hs
  have haE : a ∈ E n := List.contains_iff_mem.mp (List.all_eq_true.mp (List.all_eq_true.mp subs_E n hn) a ha)
  refine ⟨a, S', h', haE, run_ret rfl rfl (ts_ret (t_ret (e_bi (x := .list (a.map .int)) ?_ rfl)))⟩
  have e4 : evS C K (.rg1 (.var 1)) [.val (tokD 0), .val (.int n), .non] S = .ok (((List.range n).map fun (i : Nat) => (i : Int)).map PyData.int) S := by
    refine s_rg1 (e_var rfl) ?_
    simp only [N4, List.mem_cons, List.mem_nil_iff, or_false] at hn
    rcases hn with rfl | rfl | rfl | rfl <;> rfl
  exact e_cmp1S e4 e
theorem nat_rg (n : Nat) (h : n ≤ 1000000) : rangeI (.int 0) (.int n) = some ((List.range n).map fun i => PyData.int (0 + (i : Nat))) := by
  show rangeD 0 n = _
  unfold rangeD
  rw [if_pos (by simp only [Bool.and_eq_true, decide_eq_true_eq]; omega)]
  rw [show ((n : Int) - 0).toNat = n by omega]
theorem baskets_drawn {n mo : Nat} (hn : n ∈ N4) (hm : mo ≤ 100) (hset : ∀ S, Dr S → ∃ (a : List Int) (S' : Store), Dr S' ∧ a ∈ E n ∧ C 16 [tokD 0, .int n] S = .ok (tupD a) S') (h : Dr S) :
    ∃ (r : List (List Int)) (S' : Store), Dr S' ∧ (∀ b ∈ r, b ∈ E n) ∧ r.length ≤ mo ∧ Fn.d__law_baskets.run C K [tokD 0, .int n, .int mo] S = .ok (rowD r) S' := by
  obtain ⟨k, S1, h1, hk, e1⟩ := draw_any (l := (mo : Int) + 1) h (by omega) (by omega)
  let I : Nat → En → Store → Prop := fun i δ S => ∃ (r : List (List Int)) (u v : Slot), δ = [.val (tokD 0), .val (.int n), .val (.int mo), .own (r.map tupD), u, v] ∧ Dr S ∧ (∀ b ∈ r, b ∈ E n) ∧ r.length = i
  have step : ∀ j x, ((List.range k).map fun i => PyData.int (0 + (i : Nat)))[j]? = some x → ∀ δ S, I (0 + j) δ S → ∃ δ1 δ2 S2, Tg.set (.one 4) x δ = some δ1 ∧
      evTs C K (.cons (.asg 5 (.bop true (.cons (.cmp .ne (.ovr 3) (.lst .nil)) (.cons (.cmp .eq (.draw (.var 0) (.cst (.int 3))) (.cst (.int 0))) .nil)))) (.cons (.app 3 (.ite (.var 5) (.pick (.var 0) (.ovr 3)) (.cals 16 (.cons (.var 0) (.cons (.var 1) .nil))))) .nil)) δ1 S = .nxt δ2 S2 ∧ I (0 + j + 1) δ2 S2 := by
    rintro j x hx δ S ⟨r, u, v, rfl, hS, hr, hl⟩
    have hj : j < k := by
      have z := (List.getElem?_eq_some_iff.mp hx).1
      simpa using z
    have hlen : (r.map tupD).length < lineD := by rw [List.length_map, hl]; unfold lineD; omega
    -- the set drawn, the pair of a turn's end
    have fin : ∀ (p : Bool) (a : List Int) (S2 S3 : Store), Dr S3 → a ∈ E n →
        ev C K (.bop true (.cons (.cmp .ne (.ovr 3) (.lst .nil)) (.cons (.cmp .eq (.draw (.var 0) (.cst (.int 3))) (.cst (.int 0))) .nil))) [.val (tokD 0), .val (.int n), .val (.int mo), .own (r.map tupD), .val x, v] S = .ok (.bool p) S2 →
        ev C K (.ite (.var 5) (.pick (.var 0) (.ovr 3)) (.cals 16 (.cons (.var 0) (.cons (.var 1) .nil)))) [.val (tokD 0), .val (.int n), .val (.int mo), .own (r.map tupD), .val x, .val (.bool p)] S2 = .ok (tupD a) S3 →
        ∃ δ1 δ2 S2, Tg.set (.one 4) x [.val (tokD 0), .val (.int n), .val (.int mo), .own (r.map tupD), u, v] = some δ1 ∧
          evTs C K (.cons (.asg 5 (.bop true (.cons (.cmp .ne (.ovr 3) (.lst .nil)) (.cons (.cmp .eq (.draw (.var 0) (.cst (.int 3))) (.cst (.int 0))) .nil)))) (.cons (.app 3 (.ite (.var 5) (.pick (.var 0) (.ovr 3)) (.cals 16 (.cons (.var 0) (.cons (.var 1) .nil))))) .nil)) δ1 S = .nxt δ2 S2 ∧ I (0 + j + 1) δ2 S2 := fun p a S2 S3 h3 ha g1 g2 => by
      refine ⟨_, _, S3, rfl, ts_nxt (t_asg g1) (ts_nxt (t_app rfl g2 hlen) ts_nil), r ++ [a], .val x, .val (.bool p), ?_, h3, fun b hb => ?_, by rw [List.length_append, hl]; rfl⟩
      · rw [List.map_append]
        rfl
      · rcases List.mem_append.mp hb with z | z
        · exact hr b z
        · rw [List.mem_singleton.mp z]; exact ha
    cases r with
    | nil =>
      obtain ⟨a, S3, h3, ha, e3⟩ := hset S hS
      exact fin false a S S3 h3 ha (e_bopS (g := true) (e_cmp (e_ovr rfl) (e_lst e_nil) rfl)) (e_iteF (e_var rfl) (e_cals (e_cons (e_var rfl) (e_cons (e_var rfl) e_nil)) e3))
    | cons b0 r0 =>
      obtain ⟨q, S2, h2, hq, e2⟩ := draw_any (l := 3) hS (by decide) (by decide)
      have g1 : ev C K (.bop true (.cons (.cmp .ne (.ovr 3) (.lst .nil)) (.cons (.cmp .eq (.draw (.var 0) (.cst (.int 3))) (.cst (.int 0))) .nil))) [.val (tokD 0), .val (.int n), .val (.int mo), .own ((b0 :: r0).map tupD), .val x, v] S = .ok (.bool (PyData.eqv (.int (q : Int)) (.int 0))) S2 := by
        refine e_bopG (e_cmp (e_ovr rfl) (e_lst e_nil) ?_) (e_bop1 (e_cmp (e_draw (e_var rfl) e_cst e2) e_cst rfl))
        show (if okD (rowD (b0 :: r0)) && okD (.list []) then some (PyData.bool (!PyData.eqv (rowD (b0 :: r0)) (.list []))) else none) = _
        rw [okD_row]
        rfl
      cases hp : PyData.eqv (.int (q : Int)) (.int 0) with
      | false =>
        rw [hp] at g1
        obtain ⟨a, S3, h3, ha, e3⟩ := hset S2 h2
        exact fin false a S2 S3 h3 ha g1 (e_iteF (e_var rfl) (e_cals (e_cons (e_var rfl) (e_cons (e_var rfl) e_nil)) e3))
      | true =>
        rw [hp] at g1
        have hlr : ((b0 :: r0).map tupD).length = (b0 :: r0).length := List.length_map ..
        obtain ⟨q2, S3, h3, hq2, e3⟩ := draw_any (l := (((b0 :: r0).map tupD).length : Int)) h2 (by rw [hlr, List.length_cons]; omega) (by rw [hlr, hl]; omega)
        have hlt : q2 < (b0 :: r0).length := by rw [hlr] at hq2; omega
        refine fin true (b0 :: r0)[q2] S2 S3 h3 (hr _ (List.getElem_mem hlt)) g1 (e_iteT (e_var rfl) (e_pick (e_var rfl) (e_ovr rfl) e3 ?_))
        rw [Int.toNat_natCast, List.getElem?_map, List.getElem?_eq_getElem hlt]
        rfl
  obtain ⟨δ', S', e5, r, u, v, rfl, hS, hr, hl⟩ := for_inv (b := evTs C K (.cons (.asg 5 (.bop true (.cons (.cmp .ne (.ovr 3) (.lst .nil)) (.cons (.cmp .eq (.draw (.var 0) (.cst (.int 3))) (.cst (.int 0))) .nil)))) (.cons (.app 3 (.ite (.var 5) (.pick (.var 0) (.ovr 3)) (.cals 16 (.cons (.var 0) (.cons (.var 1) .nil))))) .nil))) (t := .one 4) I ((List.range k).map fun i => PyData.int (0 + (i : Nat))) 0 [.val (tokD 0), .val (.int n), .val (.int mo), .own [], .non, .non] S1 ⟨[], .non, .non, rfl, h1, (fun b hb => nomatch hb), rfl⟩ step
  refine ⟨r, S', hS, hr, by rw [hl]; simp; omega, run_ret rfl rfl (ts_nxt (t_own (e_lst e_nil)) (ts_nxt (t_for (s_rg1 (e_draw (e_var rfl) (e_bin (e_var rfl) e_cst rfl) e1) (nat_rg k (by omega))) e5) (ts_ret (t_shr rfl (t_ret (e_var rfl))))))⟩
end
end PyD

namespace PyD
open PySem PySem.Spec L2
theorem eqv_same {x : PyData} (h : okD x = true) : PyData.eqv x x = true := PySem.SeqAt.eqv_refl_plain x (okD_plain h)
theorem ne_same {x : PyData} (h : okD x = true) : cmpD .ne x x = some (.bool false) := by
  show (if okD x && okD x then some (PyData.bool (!PyData.eqv x x)) else none) = _
  rw [h, eqv_same h]
  rfl
theorem eq_same {x : PyData} (h : okD x = true) : cmpD .eq x x = some (.bool true) := by
  show (if okD x && okD x then some (PyData.bool (PyData.eqv x x)) else none) = _
  rw [h, eqv_same h]
  rfl
theorem boolsD_map : ∀ bs : List Bool, boolsD (bs.map PyData.bool) = some bs
  | [] => rfl
  | b :: bs => by
    show (boolsD (bs.map PyData.bool)).map (b :: ·) = some (b :: bs)
    rw [boolsD_map bs]
    rfl
theorem all_map (bs : List Bool) : biD .all (.list (bs.map .bool)) = some (.bool (bs.all id)) := by
  show (boolsD (bs.map PyData.bool)).map (fun bs => PyData.bool (bs.all id)) = _
  rw [boolsD_map]
  rfl
theorem any_map (bs : List Bool) : biD .any (.list (bs.map .bool)) = some (.bool (bs.any id)) := by
  show (boolsD (bs.map PyData.bool)).map (fun bs => PyData.bool (bs.any id)) = _
  rw [boolsD_map]
  rfl
theorem sum_map (ns : List Int) : biD .sum (.list (ns.map .int)) = some (.int ns.sum) := by
  show (intsD (ns.map PyData.int)).map (fun ns => PyData.int ns.sum) = _
  rw [intsD_map]
  rfl
theorem len_map {α : Type} (f : α → PyData) (l : List α) : biD .len (.list (l.map f)) = some (.int (l.length : Nat)) := by
  show some (PyData.int ((l.map f).length : Nat)) = _
  rw [List.length_map]
theorem len_tup (a : List Int) : biD .len (tupD a) = some (.int (a.length : Nat)) := by
  show some (PyData.int ((a.map PyData.int).length : Nat)) = _
  rw [List.length_map]
section
variable {C : Nat → List PyData → M PyData} {K : Str → Option PyData} {n : Nat} {r : List (List Int)} {a b : List Int}
theorem is_int_ok (x l h : Int) : Fn.d_is_int.run C K [.int x, .int l, .int h] [] = .ok (.bool (decide (l ≤ x) && decide (x ≤ h))) [] := by
  refine run_ret rfl rfl (ts_ret (t_ret (e_bopG (e_isi (e_var rfl) rfl) (e_bopG (e_not (p := false) (e_isi (e_var rfl) rfl)) (e_bop1 (e_chn (e_var rfl) (e_var rfl) rfl (e_var rfl) rfl))))))
theorem is_baskets_ok (hK : K "MOST_BASKETS" = some (.int 20)) (h2 : ∀ a ∈ E n, C 2 [tupD a, .int n] [] = .ok (.bool true) []) (hr : ∀ b ∈ r, b ∈ E n) (hl : r.length ≤ 20) : Fn.d_is_baskets.run C K [rowD r, .int n] [] = .ok (.bool true) [] := by
  have h1 : cmpD .gt (.int (r.length : Nat)) (.int 20) = some (.bool false) := by
    show some (PyData.bool (decide ((20 : Int) < (r.length : Nat)))) = _
    rw [decide_eq_false (by omega)]
  refine run_ret rfl rfl (ts_nxt (t_ifF (e_bopG (g := false) (e_not (p := true) (e_isi (e_var rfl) rfl)) (e_bop1 (e_cmp (e_bi (e_var rfl) (len_map tupD r)) (e_glo hK) h1))) ts_nil) (ts_ret (t_ret (e_bi (e_cmp0 (l := r) (g := tupD) (v := fun _ => .bool true) (s_it (e_var rfl) rfl) fun b hb => ⟨_, rfl, e_call (e_cons (e_var rfl) (e_cons (e_var rfl) e_nil)) (by simp) (h2 b (hr b hb))⟩) ?_))))
  have z := all_map (r.map fun _ => true)
  rw [List.map_map] at z
  rw [show (r.map fun _ => PyData.bool true) = r.map (PyData.bool ∘ fun _ => true) from rfl, z]
  have e : (r.map fun _ => true).all id = true := by simp
  rw [e]
theorem check_baskets_ok (h1 : C 1 [.int n] [] = .ok .none []) (h2 : C 19 [rowD r, .int n] [] = .ok (.bool true) []) : Fn.d_check_baskets.run C K [.int n, rowD r] [] = .ok .none [] :=
  run_nxt rfl rfl (ts_nxt (t_exp (e_call (e_cons (e_var rfl) e_nil) rfl h1)) (ts_nxt (t_ifF (e_not (p := true) (e_call (e_cons (e_var rfl) (e_cons (e_var rfl) e_nil)) (by simp) h2)) ts_nil) ts_nil))
def cntB (r : List (List Int)) (a : List Int) : Int := (r.countP (subB a) : Nat)
theorem table_ok (h1 : C 20 [.int n, rowD r] [] = .ok .none []) (h2 : C 4 [.int n] [] = .ok (rowD (E n)) []) (h3 : ∀ a ∈ E n, C 24 [rowD r, tupD a] [] = .ok (.int (cntB r a)) []) :
    Fn.d_table.run C K [.int n, rowD r] [] = .ok (.list (((E n).map (cntB r)).map .int)) [] := by
  refine run_ret rfl rfl (ts_nxt (t_exp (e_call (e_cons (e_var rfl) (e_cons (e_var rfl) e_nil)) (by simp) h1)) (ts_ret (t_ret ?_)))
  rw [List.map_map]
  exact e_cmp0 (l := E n) (g := tupD) (v := fun a => .int (cntB r a)) (s_it (e_call (e_cons (e_var rfl) e_nil) rfl h2) rfl) fun a ha => ⟨_, rfl, e_call (e_cons (e_var rfl) (e_cons (e_var rfl) e_nil)) (by simp) (h3 a ha)⟩
theorem count_ok (ha : a ∈ E n) (h1 : C 20 [.int n, rowD r] [] = .ok .none []) (h2 : C 3 [tupD a, .int n] [] = .ok .none []) (h3 : C 24 [rowD r, tupD a] [] = .ok (.int (cntB r a)) []) :
    Fn.d_count.run C K [.int n, rowD r, tupD a] [] = .ok (.int (cntB r a)) [] :=
  run_ret rfl rfl (ts_nxt (t_exp (e_call (e_cons (e_var rfl) (e_cons (e_var rfl) e_nil)) (by simp) h1)) (ts_nxt (t_exp (e_call (e_cons (e_var rfl) (e_cons (e_var rfl) e_nil)) (by simp) h2)) (ts_ret (t_ret (e_call (e_cons (e_var rfl) (e_cons (e_var rfl) e_nil)) (by simp) h3)))))
theorem law_count_ok (hw : ∀ b ∈ r, C 17 [tupD a, tupD b] [] = .ok (.bool (subB a b)) []) : Fn.d__law_count.run C K [rowD r, tupD a] [] = .ok (.int (cntB r a)) [] := by
  refine run_ret rfl rfl (ts_ret (t_ret (e_bi (e_cmp1 (l := r) (g := tupD) (v := tupD) (p := subB a) (s_it (e_var rfl) rfl) fun b hb => ⟨_, rfl, e_call (e_cons (e_var rfl) (e_cons (e_var rfl) e_nil)) (by simp) (hw b hb), e_var rfl⟩) ?_)))
  rw [len_map, ← List.countP_eq_length_filter]
  rfl
end
end PyD

namespace PyD
open PySem PySem.Spec L2
theorem eqvAll_ints : ∀ a b : List Int, PyData.eqvAll (a.map .int) (b.map .int) = decide (a = b)
  | [], [] => rfl
  | [], _ :: _ => rfl
  | _ :: _, [] => rfl
  | x :: a, y :: b => by
    show (PyData.eqv (.int x) (.int y) && PyData.eqvAll (a.map .int) (b.map .int)) = _
    rw [eqvAll_ints a b]
    show ((x == y) && decide (a = b)) = _
    by_cases h : x = y
    · subst h
      by_cases h2 : a = b
      · subst h2; simp
      · simp [h2]
    · have e : (x == y) = false := by simpa using h
      rw [e]
      have : ¬ (x :: a = y :: b) := fun z => h (List.cons.inj z).1
      simp [this]
theorem eqv_tup (a b : List Int) : PyData.eqv (tupD a) (tupD b) = decide (a = b) := eqvAll_ints a b
theorem eqv_ints (a b : List Int) : PyData.eqv (.list (a.map .int)) (.list (b.map .int)) = decide (a = b) := eqvAll_ints a b
theorem okD_all (r : List (List Int)) : (r.map tupD).all okD = true := by
  rw [List.all_map, List.all_eq_true]
  exact fun a _ => okD_tup a
theorem cnt_row (r : List (List Int)) (a : List Int) : cntD (rowD r) (tupD a) = some (.int (r.count a : Nat)) := by
  show (if okD (tupD a) && (r.map tupD).all okD then some (PyData.int ((r.map tupD).countP fun y => PyData.eqv y (tupD a) : Nat)) else none) = _
  rw [okD_tup, okD_all]
  show some (PyData.int ((r.map tupD).countP fun y => PyData.eqv y (tupD a) : Nat)) = _
  rw [List.countP_map]
  have e : (fun y => PyData.eqv y (tupD a)) ∘ tupD = fun b => b == a := by
    funext b
    show PyData.eqv (tupD b) (tupD a) = (b == a)
    rw [eqv_tup]
    by_cases h : b = a
    · rw [h]; simp
    · rw [decide_eq_false h]; exact (beq_eq_false_iff_ne.mpr h).symm
  rw [e]
  rfl
section
variable {C : Nat → List PyData → M PyData} {K : Str → Option PyData} {n : Nat} {r : List (List Int)} {a b : List Int}
theorem exact_ok (h1 : C 20 [.int n, rowD r] [] = .ok .none []) (h2 : C 4 [.int n] [] = .ok (rowD (E n)) []) :
    Fn.d_exact.run C K [.int n, rowD r] [] = .ok (.list (((E n).map fun a => ((r.count a : Nat) : Int)).map .int)) [] := by
  refine run_ret rfl rfl (ts_nxt (t_exp (e_call (e_cons (e_var rfl) (e_cons (e_var rfl) e_nil)) (by simp) h1)) (ts_ret (t_ret ?_)))
  rw [List.map_map]
  exact e_cmp0 (l := E n) (g := tupD) (v := fun a => .int ((r.count a : Nat) : Int)) (s_it (e_call (e_cons (e_var rfl) e_nil) rfl h2) rfl) fun a ha => ⟨_, rfl, e_cnt (e_var rfl) (e_var rfl) (cnt_row r a)⟩
def mobS (a : List Int) (w : Int) (p : List Int × Int) : Int := if subB a p.1 then w + (if ((p.1.length : Int) - (a.length : Int)) % 2 = 0 then p.2 else -p.2) else w
def mobA (n : Nat) (cs : List Int) (a : List Int) : Int := ((E n).zip cs).foldl (mobS a) 0
theorem zip_pairs (l : List (List Int)) (cs : List Int) : zipD (rowD l) (.list (cs.map .int)) = some ((l.zip cs).map fun p => pairD (tupD p.1) (.int p.2)) := by
  show some (List.zipWith pairD (l.map tupD) (cs.map PyData.int)) = _
  rw [List.zipWith_map, List.zip, List.map_zipWith]
theorem foldl_take {α β : Type} (f : β → α → β) (b : β) (l : List α) (i : Nat) (x : α) (h : l[i]? = some x) : (l.take (i + 1)).foldl f b = f ((l.take i).foldl f b) x := by
  rw [List.take_add_one, h, List.foldl_append]
  rfl
theorem exact_numbers_ok {cs : List Int} (h2 : C 4 [.int n] [] = .ok (rowD (E n)) []) (hw : ∀ a ∈ E n, ∀ b ∈ E n, C 6 [tupD a, tupD b] [] = .ok (.bool (subB a b)) []) (hlen : (E n).length < 1000) :
    Fn.d_exact_numbers.run C K [.int n, .list (cs.map .int)] [] = .ok (.list (((E n).map (mobA n cs)).map .int)) [] := by
  let I1 : Nat → En → Store → Prop := fun i δ S => S = [] ∧ ∃ u v w z, δ = [.val (.int n), .val (.list (cs.map .int)), .own ((((E n).take i).map (mobA n cs)).map .int), u, v, w, z]
  have step1 : ∀ j x, ((E n).map tupD)[j]? = some x → ∀ δ S, I1 (0 + j) δ S → ∃ δ1 δ2 S2, Tg.set (.one 3) x δ = some δ1 ∧ evTs C K (.cons (.asg 4 (.cst (.int 0))) (.cons (.for_ (.zip (.call 4 (.cons (.var 0) .nil)) (.var 1)) (.two 5 6) (.cons (.ifs (.call 6 (.cons (.var 3) (.cons (.var 5) .nil))) (.cons (.aug 4 (.ite (.cmp .eq (.bin .mod (.bin .sub (.bi .len (.var 5)) (.bi .len (.var 3))) (.cst (.int 2))) (.cst (.int 0))) (.var 6) (.neg (.var 6)))) .nil) .nil) .nil)) (.cons (.app 2 (.var 4)) .nil))) δ1 S = .nxt δ2 S2 ∧ I1 (0 + j + 1) δ2 S2 := by
    rintro j x hx δ S ⟨rfl, u, v, w, z, rfl⟩
    rw [List.getElem?_map] at hx
    obtain ⟨a, ha, rfl⟩ := Option.map_eq_some_iff.mp hx
    have haE := List.mem_of_getElem? ha
    let own : List PyData := (((E n).take (0 + j)).map (mobA n cs)).map .int
    let I2 : Nat → En → Store → Prop := fun i δ S => S = [] ∧ ∃ w z, δ = [.val (.int n), .val (.list (cs.map .int)), .own own, .val (tupD a), .val (.int ((((E n).zip cs).take i).foldl (mobS a) 0)), w, z]
    have step2 : ∀ i y, (((E n).zip cs).map fun p => pairD (tupD p.1) (.int p.2))[i]? = some y → ∀ δ S, I2 (0 + i) δ S → ∃ δ1 δ2 S2, Tg.set (.two 5 6) y δ = some δ1 ∧ evTs C K (.cons (.ifs (.call 6 (.cons (.var 3) (.cons (.var 5) .nil))) (.cons (.aug 4 (.ite (.cmp .eq (.bin .mod (.bin .sub (.bi .len (.var 5)) (.bi .len (.var 3))) (.cst (.int 2))) (.cst (.int 0))) (.var 6) (.neg (.var 6)))) .nil) .nil) .nil) δ1 S = .nxt δ2 S2 ∧ I2 (0 + i + 1) δ2 S2 := by
      rintro i y hy δ S ⟨rfl, w, z, rfl⟩
      rw [List.getElem?_map] at hy
      obtain ⟨⟨b, c⟩, hb, rfl⟩ := Option.map_eq_some_iff.mp hy
      have hbE : b ∈ E n := (List.of_mem_zip (List.mem_of_getElem? hb)).1
      have hf := foldl_take (mobS a) 0 ((E n).zip cs) i (b, c) hb
      have hcall : ev C K (.call 6 (.cons (.var 3) (.cons (.var 5) .nil))) [.val (.int n), .val (.list (cs.map .int)), .own own, .val (tupD a), .val (.int ((((E n).zip cs).take (0 + i)).foldl (mobS a) 0)), .val (tupD b), .val (.int c)] [] = .ok (.bool (subB a b)) [] :=
        e_call (e_cons (e_var rfl) (e_cons (e_var rfl) e_nil)) (by simp) (hw a haE b hbE)
      rw [Nat.zero_add] at hcall ⊢
      cases hs : subB a b with
      | false =>
        rw [hs] at hcall
        refine ⟨_, _, [], rfl, ts_nxt (t_ifF hcall ts_nil) ts_nil, rfl, .val (tupD b), .val (.int c), ?_⟩
        rw [hf]
        unfold mobS
        rw [hs]
        rfl
      | true =>
        rw [hs] at hcall
        have hval : ev C K (.ite (.cmp .eq (.bin .mod (.bin .sub (.bi .len (.var 5)) (.bi .len (.var 3))) (.cst (.int 2))) (.cst (.int 0))) (.var 6) (.neg (.var 6))) [.val (.int n), .val (.list (cs.map .int)), .own own, .val (tupD a), .val (.int ((((E n).zip cs).take i).foldl (mobS a) 0)), .val (tupD b), .val (.int c)] [] =
            .ok (.int (if ((b.length : Int) - (a.length : Int)) % 2 = 0 then c else -c)) [] := by
          have hc : ev C K (.cmp .eq (.bin .mod (.bin .sub (.bi .len (.var 5)) (.bi .len (.var 3))) (.cst (.int 2))) (.cst (.int 0))) [.val (.int n), .val (.list (cs.map .int)), .own own, .val (tupD a), .val (.int ((((E n).zip cs).take i).foldl (mobS a) 0)), .val (tupD b), .val (.int c)] [] = .ok (.bool (decide (((b.length : Int) - (a.length : Int)) % 2 = 0))) [] := by
            refine e_cmp (e_bin (e_bin (e_bi (e_var rfl) (len_tup b)) (e_bi (e_var rfl) (len_tup a)) rfl) e_cst rfl) e_cst ?_
            show some (PyData.bool ((((b.length : Int) - (a.length : Int)) % 2) == 0)) = _
            rw [show ((((b.length : Int) - (a.length : Int)) % 2) == 0) = decide (((b.length : Int) - (a.length : Int)) % 2 = 0) from (Bool.eq_iff_iff.mpr (by simp))]
          by_cases hp : ((b.length : Int) - (a.length : Int)) % 2 = 0
          · rw [decide_eq_true hp] at hc
            rw [if_pos hp]
            exact e_iteT hc (e_var rfl)
          · rw [decide_eq_false hp] at hc
            rw [if_neg hp]
            exact e_iteF hc (e_neg (e_var rfl))
        have haug : evT C K (.aug 4 (.ite (.cmp .eq (.bin .mod (.bin .sub (.bi .len (.var 5)) (.bi .len (.var 3))) (.cst (.int 2))) (.cst (.int 0))) (.var 6) (.neg (.var 6)))) [.val (.int n), .val (.list (cs.map .int)), .own own, .val (tupD a), .val (.int ((((E n).zip cs).take i).foldl (mobS a) 0)), .val (tupD b), .val (.int c)] [] =
            .nxt [.val (.int n), .val (.list (cs.map .int)), .own own, .val (tupD a), .val (.int ((((E n).zip cs).take i).foldl (mobS a) 0 + (if ((b.length : Int) - (a.length : Int)) % 2 = 0 then c else -c))), .val (tupD b), .val (.int c)] [] := by
          show SRes.of (ev C K _ _ []) _ _ = _
          rw [hval]
          rfl
        refine ⟨_, _, [], rfl, ts_nxt (t_ifT hcall (ts_nxt haug ts_nil)) ts_nil, rfl, .val (tupD b), .val (.int c), ?_⟩
        rw [hf]
        show _ = [_, _, _, _, Slot.val (.int (if subB a b then _ else _)), _, _]
        rw [hs]
        rfl
    obtain ⟨δ', S', e2, hS', w', z', hδ⟩ := for_inv (b := evTs C K (.cons (.ifs (.call 6 (.cons (.var 3) (.cons (.var 5) .nil))) (.cons (.aug 4 (.ite (.cmp .eq (.bin .mod (.bin .sub (.bi .len (.var 5)) (.bi .len (.var 3))) (.cst (.int 2))) (.cst (.int 0))) (.var 6) (.neg (.var 6)))) .nil) .nil) .nil)) (t := .two 5 6) I2 (((E n).zip cs).map fun p => pairD (tupD p.1) (.int p.2)) 0
      [.val (.int n), .val (.list (cs.map .int)), .own own, .val (tupD a), .val (.int 0), w, z] [] ⟨rfl, w, z, rfl⟩ step2
    rw [List.length_map, Nat.zero_add, List.take_length] at hδ
    subst hδ hS'
    have hlo : own.length < lineD := by
      show ((((E n).take (0 + j)).map (mobA n cs)).map PyData.int).length < _
      rw [List.length_map, List.length_map, List.length_take]
      unfold lineD
      omega
    refine ⟨_, _, [], rfl, ts_nxt (t_asg e_cst) (ts_nxt (t_for (s_zip (e_call (e_cons (e_var rfl) e_nil) rfl h2) (e_var rfl) (zip_pairs (E n) cs)) e2) (ts_nxt (t_app rfl (e_var rfl) hlo) ts_nil)), rfl, .val (tupD a), .val (.int (mobA n cs a)), w', z', ?_⟩
    show [_, _, Slot.own (own ++ [.int (mobA n cs a)]), _, _, _, _] = [_, _, Slot.own ((((E n).take (0 + j + 1)).map (mobA n cs)).map .int), _, _, _, _]
    rw [List.take_add_one, Nat.zero_add, ha, List.map_append, List.map_append]
    show [_, _, Slot.own ((((E n).take (0 + j)).map (mobA n cs)).map .int ++ [.int (mobA n cs a)]), _, _, _, _] = _
    rw [Nat.zero_add]
    rfl
  obtain ⟨δ', S', e1, hS', u, v, w, z, hδ⟩ := for_inv (b := evTs C K (.cons (.asg 4 (.cst (.int 0))) (.cons (.for_ (.zip (.call 4 (.cons (.var 0) .nil)) (.var 1)) (.two 5 6) (.cons (.ifs (.call 6 (.cons (.var 3) (.cons (.var 5) .nil))) (.cons (.aug 4 (.ite (.cmp .eq (.bin .mod (.bin .sub (.bi .len (.var 5)) (.bi .len (.var 3))) (.cst (.int 2))) (.cst (.int 0))) (.var 6) (.neg (.var 6)))) .nil) .nil) .nil)) (.cons (.app 2 (.var 4)) .nil)))) (t := .one 3) I1 ((E n).map tupD) 0
    [.val (.int n), .val (.list (cs.map .int)), .own [], .non, .non, .non, .non] [] ⟨rfl, .non, .non, .non, .non, rfl⟩ step1
  rw [List.length_map, Nat.zero_add, List.take_length] at hδ
  subst hδ hS'
  exact run_ret rfl rfl (ts_nxt (t_own (e_lst e_nil)) (ts_nxt (t_for (s_it (e_call (e_cons (e_var rfl) e_nil) rfl h2) rfl) e1) (ts_ret (t_shr rfl (t_ret (e_var rfl))))))
end
end PyD

namespace PyD
open PySem PySem.Spec L2
section
variable {C : Nat → List PyData → M PyData} {K : Str → Option PyData} {n : Nat} {r : List (List Int)} {a b : List Int} {cs : List Int}
theorem is_table_ok (hK : K "MOST_BASKETS" = some (.int 20)) (h0 : ∀ x l h : Int, C 0 [.int x, .int l, .int h] [] = .ok (.bool (decide (l ≤ x) && decide (x ≤ h))) []) (hm : C 21 [.int n] [] = .ok (.int ((E n).length : Nat)) []) (hl : cs.length = (E n).length) :
    Fn.d_is_table.run C K [.list (cs.map .int), .int n] [] = .ok (.bool (cs.all fun c => decide (0 ≤ c) && decide (c ≤ 20))) [] := by
  have h1 : cmpD .ne (.int (cs.length : Nat)) (.int ((E n).length : Nat)) = some (.bool false) := by
    rw [hl]
    exact ne_same rfl
  refine run_ret rfl rfl (ts_nxt (t_ifF (e_bopG (g := false) (e_not (p := true) (e_isi (e_var rfl) rfl)) (e_bop1 (e_cmp (e_bi (e_var rfl) (len_map .int cs)) (e_call (e_cons (e_var rfl) e_nil) rfl hm) h1))) ts_nil) (ts_ret (t_ret (e_bi (e_cmp0 (l := cs) (g := .int) (v := fun c => .bool (decide (0 ≤ c) && decide (c ≤ 20))) (s_it (e_var rfl) rfl) fun c hc => ⟨_, rfl, e_call (e_cons (e_var rfl) (e_cons e_cst (e_cons (e_glo hK) e_nil))) rfl (h0 c 0 20)⟩) ?_))))
  have z := all_map (cs.map fun c => decide (0 ≤ c) && decide (c ≤ 20))
  rw [List.map_map] at z
  rw [show (cs.map fun c => PyData.bool (decide (0 ≤ c) && decide (c ≤ 20))) = cs.map (PyData.bool ∘ fun c => decide (0 ≤ c) && decide (c ≤ 20)) from rfl, z, List.all_map]
  rfl
theorem check_table_ok (h1 : C 1 [.int n] [] = .ok .none []) (h2 : C 22 [.list (cs.map .int), .int n] [] = .ok (.bool true) []) : Fn.d_check_table.run C K [.int n, .list (cs.map .int)] [] = .ok .none [] :=
  run_nxt rfl rfl (ts_nxt (t_exp (e_call (e_cons (e_var rfl) e_nil) rfl h1)) (ts_nxt (t_ifF (e_not (p := true) (e_call (e_cons (e_var rfl) (e_cons (e_var rfl) e_nil)) (by simp) h2)) ts_nil) ts_nil))
theorem exact_of_ok (h1 : C 23 [.int n, .list (cs.map .int)] [] = .ok .none []) (h2 : C 28 [.int n, .list (cs.map .int)] [] = .ok (.list (((E n).map (mobA n cs)).map .int)) []) :
    Fn.d_exact_of.run C K [.int n, .list (cs.map .int)] [] = .ok (.list (((E n).map (mobA n cs)).map .int)) [] :=
  run_ret rfl rfl (ts_nxt (t_exp (e_call (e_cons (e_var rfl) (e_cons (e_var rfl) e_nil)) (by simp) h1)) (ts_ret (t_ret (e_call (e_cons (e_var rfl) (e_cons (e_var rfl) e_nil)) (by simp) h2))))
/-- a table's entry from exact numbers -/
def sumA (n : Nat) (cs : List Int) (a : List Int) : Int := ((((E n).zip cs).filter fun p => subB a p.1).map (·.2)).sum
theorem table_of_ok (h1 : C 1 [.int n] [] = .ok .none []) (ht : C 22 [.list (cs.map .int), .int n] [] = .ok (.bool true) []) (hs : cs.sum ≤ 20) (h2 : C 4 [.int n] [] = .ok (rowD (E n)) []) (hw : ∀ a ∈ E n, ∀ b ∈ E n, C 6 [tupD a, tupD b] [] = .ok (.bool (subB a b)) []) (hlen : (E n).length < 1000) :
    Fn.d_table_of.run C K [.int n, .list (cs.map .int)] [] = .ok (.list (((E n).map (sumA n cs)).map .int)) [] := by
  have hgt : cmpD .gt (.int cs.sum) (.int 20) = some (.bool false) := by
    show some (PyData.bool (decide ((20 : Int) < cs.sum))) = _
    rw [decide_eq_false (by omega)]
  let I1 : Nat → En → Store → Prop := fun i δ S => S = [] ∧ ∃ u v w, δ = [.val (.int n), .val (.list (cs.map .int)), .own ((((E n).take i).map (sumA n cs)).map .int), u, v, w]
  have step1 : ∀ j x, ((E n).map tupD)[j]? = some x → ∀ δ S, I1 (0 + j) δ S → ∃ δ1 δ2 S2, Tg.set (.one 3) x δ = some δ1 ∧ evTs C K (.cons (.app 2 (.bi .sum (.cmp1 (.zip (.call 4 (.cons (.var 0) .nil)) (.var 1)) (.two 4 5) (.call 6 (.cons (.var 3) (.cons (.var 4) .nil))) (.var 5)))) .nil) δ1 S = .nxt δ2 S2 ∧ I1 (0 + j + 1) δ2 S2 := by
    rintro j x hx δ S ⟨rfl, u, v, w, rfl⟩
    rw [List.getElem?_map] at hx
    obtain ⟨a, ha, rfl⟩ := Option.map_eq_some_iff.mp hx
    have haE := List.mem_of_getElem? ha
    have hlo : ((((E n).take (0 + j)).map (sumA n cs)).map PyData.int).length < lineD := by
      rw [List.length_map, List.length_map, List.length_take]
      unfold lineD
      omega
    refine ⟨_, _, [], rfl, ts_nxt (t_app (d := .int (sumA n cs a)) rfl (e_bi (e_cmp1 (l := (E n).zip cs) (g := fun p => pairD (tupD p.1) (.int p.2)) (v := fun p => .int p.2) (p := fun p => subB a p.1) (s_zip (e_call (e_cons (e_var rfl) e_nil) rfl h2) (e_var rfl) (zip_pairs (E n) cs)) fun p hp => ⟨_, rfl, e_call (e_cons (e_var rfl) (e_cons (e_var rfl) e_nil)) (by simp) (hw a haE p.1 (List.of_mem_zip hp).1), e_var rfl⟩) ?_) hlo) ts_nil, rfl, .val (tupD a), v, w, ?_⟩
    · have z := sum_map ((((E n).zip cs).filter fun p => subB a p.1).map (·.2))
      rw [List.map_map] at z
      exact z
    · show [_, _, Slot.own ((((E n).take (0 + j)).map (sumA n cs)).map .int ++ [.int (sumA n cs a)]), _, _, _] = [_, _, Slot.own ((((E n).take (0 + j + 1)).map (sumA n cs)).map .int), _, _, _]
      rw [List.take_add_one, Nat.zero_add, ha, List.map_append, List.map_append]
      rfl
  obtain ⟨δ', S', e1, hS', u, v, w, hδ⟩ := for_inv (b := evTs C K (.cons (.app 2 (.bi .sum (.cmp1 (.zip (.call 4 (.cons (.var 0) .nil)) (.var 1)) (.two 4 5) (.call 6 (.cons (.var 3) (.cons (.var 4) .nil))) (.var 5)))) .nil)) (t := .one 3) I1 ((E n).map tupD) 0
    [.val (.int n), .val (.list (cs.map .int)), .own [], .non, .non, .non] [] ⟨rfl, .non, .non, .non, rfl⟩ step1
  rw [List.length_map, Nat.zero_add, List.take_length] at hδ
  subst hδ hS'
  exact run_ret rfl rfl (ts_nxt (t_exp (e_call (e_cons (e_var rfl) e_nil) rfl h1)) (ts_nxt (t_ifF (e_not (p := true) (e_call (e_cons (e_var rfl) (e_cons (e_var rfl) e_nil)) (by simp) ht)) ts_nil) (ts_nxt (t_ifF (e_cmp (e_bi (e_var rfl) (sum_map cs)) e_cst hgt) ts_nil)
    (ts_nxt (t_own (e_lst e_nil)) (ts_nxt (t_for (s_it (e_call (e_cons (e_var rfl) e_nil) rfl h2) rfl) e1) (ts_ret (t_shr rfl (t_ret (e_var rfl)))))))))
theorem in_tup (i : Int) (b : List Int) : cmpD .in_ (.int i) (tupD b) = some (.bool (b.contains i)) := by
  show (if okD (.int i) && (b.map PyData.int).all okD then some ((b.map PyData.int).any fun y => PyData.eqv y (.int i)) else none : Option Bool).map PyData.bool = _
  have h1 : (b.map PyData.int).all okD = true := by
    rw [List.all_map, List.all_eq_true]
    exact fun _ _ => rfl
  rw [h1, List.any_map]
  show some (PyData.bool (b.any fun y => y == i)) = _
  congr 2
  induction b with
  | nil => rfl
  | cons x b ih =>
    rw [List.any_cons, List.contains_cons, ih (by rw [List.all_map, List.all_eq_true]; exact fun _ _ => rfl)]
    have e : (x == i) = (i == x) := by
      by_cases h : x = i
      · subst h; rfl
      · rw [beq_eq_false_iff_ne.mpr h, beq_eq_false_iff_ne.mpr (Ne.symm h)]
    rw [e]
/-- none of b in a -/
def offB (a b : List Int) : Bool := !(b.any fun i => a.contains i)
theorem count_without_ok {o : List Int} (h1 : C 20 [.int n, rowD r] [] = .ok .none []) (h2 : C 3 [tupD a, .int n] [] = .ok .none []) (h3 : C 3 [tupD o, .int n] [] = .ok .none []) (hw : ∀ b ∈ r, C 6 [tupD a, tupD b] [] = .ok (.bool (subB a b)) []) :
    Fn.d_count_without.run C K [.int n, rowD r, tupD a, tupD o] [] = .ok (.int ((r.countP fun b => subB a b && offB o b) : Nat)) [] := by
  refine run_ret rfl rfl (ts_nxt (t_exp (e_call (e_cons (e_var rfl) (e_cons (e_var rfl) e_nil)) (by simp) h1)) (ts_nxt (t_exp (e_call (e_cons (e_var rfl) (e_cons (e_var rfl) e_nil)) (by simp) h2)) (ts_nxt (t_exp (e_call (e_cons (e_var rfl) (e_cons (e_var rfl) e_nil)) (by simp) h3)) (ts_ret (t_ret (e_bi (e_cmp1 (l := r) (g := tupD) (v := tupD) (p := fun b => subB a b && offB o b) (s_it (e_var rfl) rfl) fun b hb => ⟨_, rfl, e_and (e_call (e_cons (e_var rfl) (e_cons (e_var rfl) e_nil)) (by simp) (hw b hb)) (e_bop1 (e_not (e_bi (x := .list ((b.map fun i => o.contains i).map .bool)) ?_ ?_))), e_var rfl⟩) ?_))))))
  · rw [List.map_map]
    exact e_cmp0 (l := b) (g := .int) (v := fun i => .bool (o.contains i)) (s_it (e_var rfl) rfl) fun i _ => ⟨_, rfl, e_cmp (e_var rfl) (e_var rfl) (in_tup i o)⟩
  · rw [any_map, List.any_map]
    rfl
  · rw [len_map, ← List.countP_eq_length_filter]
theorem sizes_ok (h1 : C 20 [.int n, rowD r] [] = .ok .none []) (hn : n ≤ 1000) :
    Fn.d_sizes.run C K [.int n, rowD r] [] = .ok (.list (((List.range (n + 1)).map fun s => ((r.countP fun b => decide (b.length = s) : Nat) : Int)).map .int)) [] := by
  refine run_ret rfl rfl (ts_nxt (t_exp (e_call (e_cons (e_var rfl) (e_cons (e_var rfl) e_nil)) (by simp) h1)) (ts_ret (t_ret ?_)))
  rw [List.map_map]
  refine e_cmp0 (l := List.range (n + 1)) (g := fun i => .int (0 + (i : Nat))) (v := fun s => .int ((r.countP fun b => decide (b.length = s) : Nat) : Int)) (s_rg1 (e_bin (e_var rfl) e_cst rfl) (nat_rg (n + 1) (by omega))) fun s _ => ⟨_, rfl, e_bi (e_cmp1 (l := r) (g := tupD) (v := tupD) (p := fun b => decide (b.length = s)) (s_it (e_var rfl) rfl) fun b _ => ⟨_, rfl, e_cmp (e_bi (e_var rfl) (len_tup b)) (e_var rfl) ?_, e_var rfl⟩) ?_⟩
  · show some (PyData.bool (((b.length : Nat) : Int) == 0 + (s : Nat))) = _
    rw [Int.zero_add, show (((b.length : Nat) : Int) == ((s : Nat) : Int)) = decide (b.length = s) from (Bool.eq_iff_iff.mpr (by simp; omega))]
  · rw [len_map, ← List.countP_eq_length_filter]
theorem law_table_ok (h2 : C 15 [.int n] [] = .ok (rowD (E n)) []) (h3 : ∀ a ∈ E n, C 34 [rowD r, tupD a] [] = .ok (.int (cntB r a)) []) :
    Fn.d__law_table.run C K [.int n, rowD r] [] = .ok (.list (((E n).map (cntB r)).map .int)) [] := by
  have e : ev C K (.cmp0 (.it (.call 15 (.cons (.var 0) .nil))) (.one 2) (.call 34 (.cons (.var 1) (.cons (.var 2) .nil)))) [.val (.int n), .val (rowD r), .non] [] = .ok (.list (((E n).map (cntB r)).map .int)) [] := by
    rw [List.map_map]
    exact e_cmp0 (l := E n) (g := tupD) (v := fun a => .int (cntB r a)) (s_it (e_call (e_cons (e_var rfl) e_nil) rfl h2) rfl) fun a ha => ⟨_, rfl, e_call (e_cons (e_var rfl) (e_cons (e_var rfl) e_nil)) (by simp) (h3 a ha)⟩
  have e2 : evTs C K Fn.d__law_table.body [.val (.int n), .val (rowD r), .non] [] = .reto (((E n).map (cntB r)).map .int) [] := by
    show (SRes.of (ev C K _ _ []) _ _).thn _ = _
    rw [e]
    rfl
  show (match evTs C K Fn.d__law_table.body [.val (.int n), .val (rowD r), .non] [] with
    | .nxt _ s' => if Fn.d__law_table.fr then Res.bad else .ok PyData.none s'
    | .ret x s' => if Fn.d__law_table.fr then Res.bad else .ok x s'
    | .reto xs s' => .ok (PyData.list xs) s'
    | .exc k _ s' => .exc k s'
    | .bad => .bad) = _
  rw [e2]
end
end PyD

namespace PyD
open PySem PySem.Spec L2
/-- the sum of w b * f b -/
def dotE (l : List (List Int)) (w f : List Int → Int) : Int := (l.map fun b => w b * f b).sum
theorem dot_add (l : List (List Int)) (w f g : List Int → Int) : dotE l w (fun b => f b + g b) = dotE l w f + dotE l w g := by
  unfold dotE
  induction l with
  | nil => rfl
  | cons b l ih =>
    simp only [List.map_cons, List.sum_cons]
    rw [ih, Int.mul_add]
    omega
theorem dot_zero (l : List (List Int)) (w : List Int → Int) : dotE l w (fun _ => 0) = 0 := by
  unfold dotE
  induction l with
  | nil => rfl
  | cons b l ih =>
    simp only [List.map_cons, List.sum_cons]
    rw [ih]
    simp
theorem dot_congr {l : List (List Int)} {w f g : List Int → Int} (h : ∀ b ∈ l, f b = g b) : dotE l w f = dotE l w g := by
  unfold dotE
  rw [List.map_congr_left fun b hb => by rw [h b hb]]
/-- additive over baskets: it's enough to look at one -/
theorem dot_rows {l : List (List Int)} {w : List Int → Int} {F : List (List Int) → List Int → Int} {one : List Int → List Int → Int} {R : List (List Int) → Int} {oneR : List Int → Int} (hF : ∀ x r b, F (x :: r) b = F r b + one x b) (h0 : ∀ b, F [] b = 0) (hR : ∀ x r, R (x :: r) = R r + oneR x) (hR0 : R [] = 0)
    (D : List (List Int)) (hx : ∀ x ∈ D, dotE l w (one x) = oneR x) : ∀ r, (∀ x ∈ r, x ∈ D) → dotE l w (F r) = R r
  | [], _ => by
    rw [show F [] = fun _ => (0 : Int) from funext h0, dot_zero, hR0]
  | x :: r, h => by
    rw [show F (x :: r) = fun b => F r b + one x b from funext fun b => hF x r b, dot_add, dot_rows hF h0 hR hR0 D hx r fun y hy => h y (List.mem_cons_of_mem _ hy), hx x (h x List.mem_cons_self), hR]
def coef (a b : List Int) : Int := if subB a b then (if ((b.length : Int) - (a.length : Int)) % 2 = 0 then 1 else -1) else 0
def sup (a b : List Int) : Int := if subB a b then 1 else 0
theorem zip_map' (l : List (List Int)) (f : List Int → Int) : l.zip (l.map f) = l.map fun b => (b, f b) := by
  induction l with
  | nil => rfl
  | cons b l ih => rw [List.map_cons, List.map_cons, List.zip_cons_cons, ih]
theorem mob_dot (n : Nat) (f : List Int → Int) (a : List Int) : mobA n ((E n).map f) a = dotE (E n) (coef a) f := by
  have key : ∀ (l : List (List Int)) (w : Int), (l.map fun b => (b, f b)).foldl (mobS a) w = w + dotE l (coef a) f := by
    intro l
    induction l with
    | nil => intro w; simp [dotE]
    | cons b l ih =>
      intro w
      rw [List.map_cons, List.foldl_cons, ih]
      unfold dotE
      rw [List.map_cons, List.sum_cons]
      have e : mobS a w (b, f b) = w + coef a b * f b := by
        unfold mobS coef
        dsimp only
        split
        · split
          · simp
          · simp
        · simp
      rw [e]
      omega
  unfold mobA
  rw [zip_map', key]
  simp
theorem sum_dot (n : Nat) (f : List Int → Int) (a : List Int) : sumA n ((E n).map f) a = dotE (E n) (sup a) f := by
  unfold sumA dotE
  rw [zip_map']
  generalize E n = l
  induction l with
  | nil => rfl
  | cons b l ih =>
    rw [List.map_cons, List.filter_cons, List.map_cons, List.sum_cons, ← ih]
    unfold sup
    dsimp only
    cases subB a b with
    | true => simp
    | false => simp
theorem cntB_cons (x : List Int) (r : List (List Int)) (b : List Int) : cntB (x :: r) b = cntB r b + sup b x := by
  unfold cntB sup
  rw [List.countP_cons]
  split <;> simp_all
def isB (x b : List Int) : Int := if x = b then 1 else 0
theorem count_cons' (x : List Int) (r : List (List Int)) (b : List Int) : (((x :: r).count b : Nat) : Int) = ((r.count b : Nat) : Int) + isB x b := by
  unfold isB
  rw [List.count_cons]
  by_cases h : x = b
  · subst h; simp
  · simp [h]
theorem chk_mob : N4.all (fun n => (E n).all fun a => (E n).all fun x => decide (dotE (E n) (coef a) (fun b => sup b x) = isB x a)) = true := by decide +kernel
theorem chk_sum : N4.all (fun n => (E n).all fun a => (E n).all fun x => decide (dotE (E n) (sup a) (isB x) = sup a x)) = true := by decide +kernel
theorem chk_len : N4.all (fun n => (E n).all fun x => decide (dotE (E n) (fun _ => 1) (isB x) = 1)) = true := by decide +kernel
section
variable {n : Nat} (hn : n ∈ N4) {r : List (List Int)} (hr : ∀ b ∈ r, b ∈ E n)
include hn hr
theorem mob_table {a : List Int} (ha : a ∈ E n) : mobA n ((E n).map (cntB r)) a = ((r.count a : Nat) : Int) := by
  rw [mob_dot]
  refine dot_rows (F := cntB) (one := fun x b => sup b x) (R := fun r => ((r.count a : Nat) : Int)) (oneR := fun x => isB x a) cntB_cons (fun b => rfl) (fun x r => count_cons' x r a) rfl (E n) (fun x hx => ?_) r hr
  exact of_decide_eq_true (List.all_eq_true.mp (List.all_eq_true.mp (List.all_eq_true.mp chk_mob n hn) a ha) x hx)
theorem sum_exact {a : List Int} (ha : a ∈ E n) : sumA n ((E n).map fun b => ((r.count b : Nat) : Int)) a = cntB r a := by
  rw [sum_dot]
  refine dot_rows (F := fun r b => ((r.count b : Nat) : Int)) (one := isB) (R := fun r => cntB r a) (oneR := fun x => sup a x) count_cons' (fun b => rfl) (fun x r => cntB_cons x r a) rfl (E n) (fun x hx => ?_) r hr
  exact of_decide_eq_true (List.all_eq_true.mp (List.all_eq_true.mp (List.all_eq_true.mp chk_sum n hn) a ha) x hx)
theorem sum_counts : ((E n).map fun b => ((r.count b : Nat) : Int)).sum = (r.length : Int) := by
  have z : dotE (E n) (fun _ => 1) (fun b => ((r.count b : Nat) : Int)) = (r.length : Int) := by
    refine dot_rows (F := fun r b => ((r.count b : Nat) : Int)) (one := isB) (R := fun r => (r.length : Int)) (oneR := fun _ => 1) count_cons' (fun b => rfl) (fun x r => by simp) rfl (E n) (fun x hx => ?_) r hr
    exact of_decide_eq_true (List.all_eq_true.mp (List.all_eq_true.mp chk_len n hn) x hx)
  rw [← z]
  unfold dotE
  congr 1
  exact List.map_congr_left fun b _ => by simp
end
theorem cntB_nn (r : List (List Int)) (a : List Int) : 0 ≤ cntB r a := by unfold cntB; omega
theorem cntB_le (r : List (List Int)) (a : List Int) : cntB r a ≤ r.length := by
  have := List.countP_le_length (p := subB a) (l := r)
  unfold cntB
  omega
end PyD

namespace PyD
open PySem PySem.Spec L2
section
variable {C : Nat → List PyData → M PyData} {K : Str → Option PyData} {n : Nat} {r : List (List Int)} {a b : List Int} {cs : List Int}
theorem idx_row {l : List (List Int)} {k : Nat} {b : List Int} (h : l[k]? = some b) : idxD (rowD l) (.int (0 + (k : Nat))) = some (tupD b) := by
  show atI (l.map tupD) (0 + (k : Nat)) = _
  have hl := (List.getElem?_eq_some_iff.mp h).1
  unfold atI
  rw [ix_at (by omega) (by rw [List.length_map]; omega), show ((0 : Int) + (k : Nat)).toNat = k by omega]
  show (l.map tupD)[k]? = _
  rw [List.getElem?_map, h]
  rfl
theorem idx_ints {l : List Int} {k : Nat} {c : Int} (h : l[k]? = some c) : idxD (.list (l.map .int)) (.int (0 + (k : Nat))) = some (.int c) := by
  show atI (l.map PyData.int) (0 + (k : Nat)) = _
  have hl := (List.getElem?_eq_some_iff.mp h).1
  unfold atI
  rw [ix_at (by omega) (by rw [List.length_map]; omega), show ((0 : Int) + (k : Nat)).toNat = k by omega]
  show (l.map PyData.int)[k]? = _
  rw [List.getElem?_map, h]
  rfl
theorem law_exact_ok (h2 : C 15 [.int n] [] = .ok (rowD (E n)) []) (hw : ∀ a ∈ E n, ∀ b ∈ E n, C 17 [tupD a, tupD b] [] = .ok (.bool (subB a b)) []) (hlen : (E n).length < 1000) (hl : cs.length = (E n).length) :
    Fn.d__law_exact.run C K [.int n, .list (cs.map .int)] [] = .ok (.list (((E n).map (mobA n cs)).map .int)) [] := by
  let I1 : Nat → En → Store → Prop := fun i δ S => S = [] ∧ ∃ u v w z, δ = [.val (.int n), .val (.list (cs.map .int)), .val (rowD (E n)), .own ((((E n).take i).map (mobA n cs)).map .int), u, v, w, z]
  have step1 : ∀ j x, ((E n).map tupD)[j]? = some x → ∀ δ S, I1 (0 + j) δ S → ∃ δ1 δ2 S2, Tg.set (.one 4) x δ = some δ1 ∧ evTs C K (.cons (.asg 5 (.cst (.int 0))) (.cons (.for_ (.rg1 (.bi .len (.var 2))) (.one 6) (.cons (.ifs (.call 17 (.cons (.var 4) (.cons (.idx (.var 2) (.var 6)) .nil))) (.cons (.asg 7 (.cmp .eq (.bin .mod (.bin .sub (.bi .len (.idx (.var 2) (.var 6))) (.bi .len (.var 4))) (.cst (.int 2))) (.cst (.int 1)))) (.cons (.asg 5 (.ite (.var 7) (.bin .sub (.var 5) (.idx (.var 1) (.var 6))) (.bin .add (.var 5) (.idx (.var 1) (.var 6))))) .nil)) .nil) .nil)) (.cons (.app 3 (.var 5)) .nil))) δ1 S = .nxt δ2 S2 ∧ I1 (0 + j + 1) δ2 S2 := by
    rintro j x hx δ S ⟨rfl, u, v, w, z, rfl⟩
    rw [List.getElem?_map] at hx
    obtain ⟨a, ha, rfl⟩ := Option.map_eq_some_iff.mp hx
    have haE := List.mem_of_getElem? ha
    let own : List PyData := (((E n).take (0 + j)).map (mobA n cs)).map .int
    let I2 : Nat → En → Store → Prop := fun i δ S => S = [] ∧ ∃ w z, δ = [.val (.int n), .val (.list (cs.map .int)), .val (rowD (E n)), .own own, .val (tupD a), .val (.int ((((E n).zip cs).take i).foldl (mobS a) 0)), w, z]
    have step2 : ∀ i y, ((List.range (E n).length).map fun i => PyData.int (0 + (i : Nat)))[i]? = some y → ∀ δ S, I2 (0 + i) δ S → ∃ δ1 δ2 S2, Tg.set (.one 6) y δ = some δ1 ∧ evTs C K (.cons (.ifs (.call 17 (.cons (.var 4) (.cons (.idx (.var 2) (.var 6)) .nil))) (.cons (.asg 7 (.cmp .eq (.bin .mod (.bin .sub (.bi .len (.idx (.var 2) (.var 6))) (.bi .len (.var 4))) (.cst (.int 2))) (.cst (.int 1)))) (.cons (.asg 5 (.ite (.var 7) (.bin .sub (.var 5) (.idx (.var 1) (.var 6))) (.bin .add (.var 5) (.idx (.var 1) (.var 6))))) .nil)) .nil) .nil) δ1 S = .nxt δ2 S2 ∧ I2 (0 + i + 1) δ2 S2 := by
      rintro i y hy δ S ⟨rfl, w, z, rfl⟩
      have hi : i < (E n).length := by
        have q := (List.getElem?_eq_some_iff.mp hy).1
        simpa using q
      have hy' : y = .int (0 + (i : Nat)) := by
        rw [List.getElem?_map, List.getElem?_range hi] at hy
        exact (Option.some.inj hy).symm
      subst hy'
      obtain ⟨b, hb⟩ : ∃ b, (E n)[i]? = some b := ⟨_, List.getElem?_eq_getElem hi⟩
      obtain ⟨c, hc⟩ : ∃ c, cs[i]? = some c := ⟨_, List.getElem?_eq_getElem (by omega)⟩
      have hbE := List.mem_of_getElem? hb
      have hz : ((E n).zip cs)[i]? = some (b, c) := by
        rw [List.zip, List.getElem?_zipWith, hb, hc]
      have hf := foldl_take (mobS a) 0 ((E n).zip cs) i (b, c) hz
      have hcall : ev C K (.call 17 (.cons (.var 4) (.cons (.idx (.var 2) (.var 6)) .nil))) [.val (.int n), .val (.list (cs.map .int)), .val (rowD (E n)), .own own, .val (tupD a), .val (.int ((((E n).zip cs).take (0 + i)).foldl (mobS a) 0)), .val (.int (0 + (i : Nat))), z] [] = .ok (.bool (subB a b)) [] :=
        e_call (e_cons (e_var rfl) (e_cons (e_idx (e_var rfl) (e_var rfl) (idx_row hb)) e_nil)) (by simp) (hw a haE b hbE)
      rw [Nat.zero_add] at hcall ⊢
      cases hs : subB a b with
      | false =>
        rw [hs] at hcall
        refine ⟨_, _, [], rfl, ts_nxt (t_ifF hcall ts_nil) ts_nil, rfl, .val (.int (0 + (i : Nat))), z, ?_⟩
        rw [hf]
        unfold mobS
        rw [hs]
        rfl
      | true =>
        rw [hs] at hcall
        have hodd : ev C K (.cmp .eq (.bin .mod (.bin .sub (.bi .len (.idx (.var 2) (.var 6))) (.bi .len (.var 4))) (.cst (.int 2))) (.cst (.int 1))) [.val (.int n), .val (.list (cs.map .int)), .val (rowD (E n)), .own own, .val (tupD a), .val (.int ((((E n).zip cs).take i).foldl (mobS a) 0)), .val (.int (0 + (i : Nat))), z] [] = .ok (.bool (decide (((b.length : Int) - (a.length : Int)) % 2 = 1))) [] := by
          refine e_cmp (e_bin (e_bin (e_bi (e_idx (e_var rfl) (e_var rfl) (idx_row hb)) (len_tup b)) (e_bi (e_var rfl) (len_tup a)) rfl) e_cst rfl) e_cst ?_
          show some (PyData.bool ((((b.length : Int) - (a.length : Int)) % 2) == 1)) = _
          rw [show ((((b.length : Int) - (a.length : Int)) % 2) == 1) = decide (((b.length : Int) - (a.length : Int)) % 2 = 1) from (Bool.eq_iff_iff.mpr (by simp))]
        have hval : ∀ p : Bool, p = decide (((b.length : Int) - (a.length : Int)) % 2 = 1) → ev C K (.ite (.var 7) (.bin .sub (.var 5) (.idx (.var 1) (.var 6))) (.bin .add (.var 5) (.idx (.var 1) (.var 6)))) [.val (.int n), .val (.list (cs.map .int)), .val (rowD (E n)), .own own, .val (tupD a), .val (.int ((((E n).zip cs).take i).foldl (mobS a) 0)), .val (.int (0 + (i : Nat))), .val (.bool p)] [] =
            .ok (.int ((((E n).zip cs).take i).foldl (mobS a) 0 + (if ((b.length : Int) - (a.length : Int)) % 2 = 0 then c else -c))) [] := fun p hp => by
          by_cases h1 : ((b.length : Int) - (a.length : Int)) % 2 = 1
          · rw [decide_eq_true h1] at hp
            subst hp
            rw [if_neg (by omega)]
            exact e_iteT (e_var rfl) (e_bin (e_var rfl) (e_idx (e_var rfl) (e_var rfl) (idx_ints hc)) rfl)
          · rw [decide_eq_false h1] at hp
            subst hp
            rw [if_pos (by omega)]
            exact e_iteF (e_var rfl) (e_bin (e_var rfl) (e_idx (e_var rfl) (e_var rfl) (idx_ints hc)) rfl)
        refine ⟨_, _, [], rfl, ts_nxt (t_ifT hcall (ts_nxt (t_asg hodd) (ts_nxt (t_asg (hval _ rfl)) ts_nil))) ts_nil, rfl, .val (.int (0 + (i : Nat))), .val (.bool (decide (((b.length : Int) - (a.length : Int)) % 2 = 1))), ?_⟩
        rw [hf]
        show _ = [_, _, _, _, _, Slot.val (.int (if subB a b then _ else _)), _, _]
        rw [hs]
        rfl
    obtain ⟨δ', S', e2, hS', w', z', hδ⟩ := for_inv (b := evTs C K (.cons (.ifs (.call 17 (.cons (.var 4) (.cons (.idx (.var 2) (.var 6)) .nil))) (.cons (.asg 7 (.cmp .eq (.bin .mod (.bin .sub (.bi .len (.idx (.var 2) (.var 6))) (.bi .len (.var 4))) (.cst (.int 2))) (.cst (.int 1)))) (.cons (.asg 5 (.ite (.var 7) (.bin .sub (.var 5) (.idx (.var 1) (.var 6))) (.bin .add (.var 5) (.idx (.var 1) (.var 6))))) .nil)) .nil) .nil)) (t := .one 6) I2 ((List.range (E n).length).map fun i => PyData.int (0 + (i : Nat))) 0
      [.val (.int n), .val (.list (cs.map .int)), .val (rowD (E n)), .own own, .val (tupD a), .val (.int 0), w, z] [] ⟨rfl, w, z, rfl⟩ step2
    have hzl : ((E n).zip cs).take (0 + ((List.range (E n).length).map fun i => PyData.int (0 + (i : Nat))).length) = (E n).zip cs := by
      refine List.take_of_length_le ?_
      rw [List.length_zip, List.length_map, List.length_range]
      omega
    rw [hzl] at hδ
    subst hδ hS'
    have hlo : own.length < lineD := by
      show ((((E n).take (0 + j)).map (mobA n cs)).map PyData.int).length < _
      rw [List.length_map, List.length_map, List.length_take]
      unfold lineD
      omega
    refine ⟨_, _, [], rfl, ts_nxt (t_asg e_cst) (ts_nxt (t_for (s_rg1 (e_bi (e_var rfl) (len_map tupD (E n))) (nat_rg _ (by omega))) e2) (ts_nxt (t_app rfl (e_var rfl) hlo) ts_nil)), rfl, .val (tupD a), .val (.int (mobA n cs a)), w', z', ?_⟩
    show [_, _, _, Slot.own (own ++ [.int (mobA n cs a)]), _, _, _, _] = [_, _, _, Slot.own ((((E n).take (0 + j + 1)).map (mobA n cs)).map .int), _, _, _, _]
    rw [List.take_add_one, Nat.zero_add, ha, List.map_append, List.map_append]
    show [_, _, _, Slot.own ((((E n).take (0 + j)).map (mobA n cs)).map .int ++ [.int (mobA n cs a)]), _, _, _, _] = _
    rw [Nat.zero_add]
    rfl
  obtain ⟨δ', S', e1, hS', u, v, w, z, hδ⟩ := for_inv (b := evTs C K (.cons (.asg 5 (.cst (.int 0))) (.cons (.for_ (.rg1 (.bi .len (.var 2))) (.one 6) (.cons (.ifs (.call 17 (.cons (.var 4) (.cons (.idx (.var 2) (.var 6)) .nil))) (.cons (.asg 7 (.cmp .eq (.bin .mod (.bin .sub (.bi .len (.idx (.var 2) (.var 6))) (.bi .len (.var 4))) (.cst (.int 2))) (.cst (.int 1)))) (.cons (.asg 5 (.ite (.var 7) (.bin .sub (.var 5) (.idx (.var 1) (.var 6))) (.bin .add (.var 5) (.idx (.var 1) (.var 6))))) .nil)) .nil) .nil)) (.cons (.app 3 (.var 5)) .nil)))) (t := .one 4) I1 ((E n).map tupD) 0
    [.val (.int n), .val (.list (cs.map .int)), .val (rowD (E n)), .own [], .non, .non, .non, .non] [] ⟨rfl, .non, .non, .non, .non, rfl⟩ step1
  rw [List.length_map, Nat.zero_add, List.take_length] at hδ
  subst hδ hS'
  exact run_ret rfl rfl (ts_nxt (t_asg (e_call (e_cons (e_var rfl) e_nil) rfl h2)) (ts_nxt (t_own (e_lst e_nil)) (ts_nxt (t_for (s_it (e_var rfl) rfl) e1) (ts_ret (t_shr rfl (t_ret (e_var rfl)))))))
end
end PyD

namespace PyD
open PySem PySem.Spec L2
section
variable {C : Nat → List PyData → M PyData} {K : Str → Option PyData} {n : Nat} {r : List (List Int)} {a b : List Int} {cs : List Int} {S S' S1 S2 : Store} {δ : En} {i j : Nat} {ds : List PyData} {e k : Ex} {y : PyData} {z : Int}
theorem t_put (h1 : δ[i]? = some (.own ds)) (h2 : ev C K e δ S = .ok y S1) (h3 : ev C K k δ S1 = .ok (.int z) S2) (h4 : ixN ds.length z = some j) : evT C K (.put i k e) δ S = .nxt (δ.set i (.own (ds.set j y))) S2 := by
  show ownAt δ i _ = _
  unfold ownAt
  rw [h1]
  show SRes.of (M.bnd (ev C K e δ) (fun y => M.bnd (ev C K k δ) fun x => M.ret (x, y)) S) _ _ = _
  rw [bnd_ok h2, bnd_ok h3]
  show (match ixN ds.length z with
    | some j => SRes.nxt (δ.set i (.own (ds.set j y))) S2
    | none => .bad) = _
  rw [h4]
def Tab (n : Nat) (cs : List Int) : Prop := cs.length = (E n).length ∧ ∀ c ∈ cs, 0 ≤ c ∧ c ≤ 20
theorem tab_rows {m : Nat} (hl : r.length ≤ m) (hm : m ≤ 20) : Tab n ((E n).map (cntB r)) := by
  refine ⟨List.length_map .., fun c hc => ?_⟩
  obtain ⟨a, _, rfl⟩ := List.mem_map.mp hc
  have h1 := cntB_nn r a
  have h2 := cntB_le r a
  exact ⟨h1, by omega⟩
theorem Tab.all (h : Tab n cs) : (cs.all fun c => decide (0 ≤ c) && decide (c ≤ 20)) = true := by
  rw [List.all_eq_true]
  intro c hc
  obtain ⟨h1, h2⟩ := h.2 c hc
  rw [decide_eq_true h1, decide_eq_true h2]
  rfl
theorem law_drawn_ok (hE : 0 < (E n).length ∧ (E n).length < 1000) (hb : ∀ S, Dr S → ∃ (r : List (List Int)) (S' : Store), Dr S' ∧ (∀ b ∈ r, b ∈ E n) ∧ r.length ≤ 8 ∧ C 33 [tokD 0, .int n, .int 8] S = .ok (rowD r) S')
    (ht : ∀ r : List (List Int), (∀ b ∈ r, b ∈ E n) → C 35 [.int n, rowD r] [] = .ok (.list (((E n).map (cntB r)).map .int)) []) (h : Dr S) :
    ∃ (cs : List Int) (S' : Store), Dr S' ∧ Tab n cs ∧ Fn.d__law_drawn.run C K [tokD 0, .int n] S = .ok (.list (cs.map .int)) S' := by
  obtain ⟨r, S1, h1, hr, hl, e1⟩ := hb S h
  have T0 : Tab n ((E n).map (cntB r)) := tab_rows hl (by omega)
  generalize hcs : (E n).map (cntB r) = cs at T0
  have he : C 35 [.int n, rowD r] [] = .ok (.list (cs.map .int)) [] := by rw [← hcs]; exact ht r hr
  have k1 : evT C K (.own 2 (.call 35 (.cons (.var 1) (.cons (.cals 33 (.cons (.var 0) (.cons (.var 1) (.cons (.cst (.int 8)) .nil)))) .nil)))) [.val (tokD 0), .val (.int n), .non, .non] S = .nxt [.val (tokD 0), .val (.int n), .own (cs.map .int), .non] S1 :=
    t_own (e_call (e_cons (e_var rfl) (e_cons (e_cals (e_cons (e_var rfl) (e_cons (e_var rfl) (e_cons e_cst e_nil))) e1) e_nil)) (by simp) he)
  obtain ⟨q, S2, h2, _, e2⟩ := draw_any (l := 2) h1 (by decide) (by decide)
  have hc : ev C K (.cmp .eq (.draw (.var 0) (.cst (.int 2))) (.cst (.int 0))) [.val (tokD 0), .val (.int n), .own (cs.map .int), .non] S1 = .ok (.bool (PyData.eqv (.int (q : Int)) (.int 0))) S2 := e_cmp (e_draw (e_var rfl) e_cst e2) e_cst rfl
  cases hq : PyData.eqv (.int (q : Int)) (.int 0) with
  | false =>
    rw [hq] at hc
    exact ⟨cs, S2, h2, T0, run_ret rfl rfl (ts_nxt k1 (ts_nxt (t_ifF hc ts_nil) (ts_ret (t_shr rfl (t_ret (e_var rfl))))))⟩
  | true =>
    rw [hq] at hc
    have hcl : 0 < cs.length ∧ cs.length < 1000 := by rw [T0.1]; exact hE
    obtain ⟨at_, S3, h3, hat, e3⟩ := draw_any (l := ((cs.length : Nat) : Int)) h2 (by omega) (by omega)
    obtain ⟨g, S4, h4, _, e4⟩ := draw_any (l := 5) h3 (by decide) (by decide)
    have hlt : at_ < cs.length := by omega
    have hix : idxD (.list (cs.map .int)) (.int ((at_ : Nat) : Int)) = some (.int cs[at_]) := by
      have z := idx_ints (List.getElem?_eq_getElem hlt)
      rw [Int.zero_add] at z
      exact z
    have hset : ∃ v : Int, 0 ≤ v ∧ v ≤ 20 ∧ ev C K (.mx2 true (.cst (.int 0)) (.mx2 false (.cst (.int 20)) (.bin .sub (.bin .add (.idx (.ovr 2) (.var 3)) (.draw (.var 0) (.cst (.int 5)))) (.cst (.int 2))))) [.val (tokD 0), .val (.int n), .own (cs.map .int), .val (.int ((at_ : Nat) : Int))] S3 = .ok (.int v) S4 := by
      refine ⟨_, ?_, ?_, e_mx2 e_cst (e_mx2 e_cst (e_bin (e_bin (e_idx (e_ovr rfl) (e_var rfl) hix) (e_draw (e_var rfl) e_cst e4) rfl) e_cst rfl))⟩
      · simp only [if_true]
        split <;> omega
      · simp only [if_true, Bool.false_eq_true, if_false]
        split <;> (try split) <;> omega
    obtain ⟨v, v0, v1, ev_⟩ := hset
    have T1 : Tab n (cs.set at_ v) := by
      refine ⟨by rw [List.length_set]; exact T0.1, fun c hc => ?_⟩
      rcases List.mem_or_eq_of_mem_set hc with z | z
      · exact T0.2 c z
      · rw [z]; exact ⟨v0, v1⟩
    have k2 : evTs C K (.cons (.asg 3 (.draw (.var 0) (.bi .len (.ovr 2)))) (.cons (.put 2 (.var 3) (.mx2 true (.cst (.int 0)) (.mx2 false (.cst (.int 20)) (.bin .sub (.bin .add (.idx (.ovr 2) (.var 3)) (.draw (.var 0) (.cst (.int 5)))) (.cst (.int 2)))))) .nil)) [.val (tokD 0), .val (.int n), .own (cs.map .int), .non] S2 = .nxt [.val (tokD 0), .val (.int n), .own ((cs.map PyData.int).set at_ (.int v)), .val (.int ((at_ : Nat) : Int))] S4 :=
      ts_nxt (t_asg (e_draw (e_var rfl) (e_bi (e_ovr rfl) (len_map .int cs)) e3)) (ts_nxt (t_put rfl ev_ (e_var rfl) (ix_at (by omega) (by rw [List.length_map]; exact hat))) ts_nil)
    refine ⟨cs.set at_ v, S4, h4, T1, run_ret rfl rfl (ts_nxt k1 (ts_nxt (t_ifT hc k2) (ts_ret (t_shr rfl (t_ret (e_var ?_))))))⟩
    rw [List.map_set]
    rfl
/-- the first two draws of a law -/
theorem begin_ok (ns : List Int) : ∃ (n : Nat) (S0 S : Store), n ∈ N4 ∧ Dr S ∧ startD (scrD ns) [] = .ok (tokD 0) S0 ∧ ∃ q : Nat, 1 + (q : Int) = n ∧ drawD (tokD 0) (.int 4) S0 = .ok (q : Int) S := by
  obtain ⟨S0, h0, e0⟩ := start_dr ns
  obtain ⟨q, S, h1, hq, e1⟩ := draw_any (l := 4) h0 (by decide) (by decide)
  exact ⟨1 + q, S0, S, by simp only [N4, List.mem_cons, List.mem_nil_iff, or_false]; omega, h1, e0, q, by omega, e1⟩
theorem E_len {n : Nat} (hn : n ∈ N4) : 0 < (E n).length ∧ (E n).length < 1000 := by
  simp only [N4, List.mem_cons, List.mem_nil_iff, or_false] at hn
  rcases hn with rfl | rfl | rfl | rfl <;> decide
end
end PyD

namespace PyD
open PySem PySem.Spec L2
/-- the sum over baskets -/
def sumR (f : List Int → Int) (r : List (List Int)) : Int := (r.map f).sum
theorem sumR_cons (f : List Int → Int) (x : List Int) (r : List (List Int)) : sumR f (x :: r) = f x + sumR f r := by simp [sumR]
theorem sumR_congr {f g : List Int → Int} {r : List (List Int)} (h : ∀ x ∈ r, f x = g x) : sumR f r = sumR g r := by
  unfold sumR
  rw [List.map_congr_left h]
theorem sumR_le {f g : List Int → Int} : ∀ {r : List (List Int)}, (∀ x ∈ r, f x ≤ g x) → sumR f r ≤ sumR g r
  | [], _ => Int.le_refl _
  | x :: r, h => by
    rw [sumR_cons, sumR_cons]
    have h1 := h x List.mem_cons_self
    have h2 := sumR_le fun y hy => h y (List.mem_cons_of_mem x hy)
    omega
theorem sumR_add (f g : List Int → Int) : ∀ r : List (List Int), sumR (fun x => f x + g x) r = sumR f r + sumR g r
  | [] => rfl
  | x :: r => by
    rw [sumR_cons, sumR_cons, sumR_cons, sumR_add f g r]
    omega
theorem sumR_sub (f g : List Int → Int) : ∀ r : List (List Int), sumR (fun x => f x - g x) r = sumR f r - sumR g r
  | [] => rfl
  | x :: r => by
    rw [sumR_cons, sumR_cons, sumR_cons, sumR_sub f g r]
    omega
theorem sumR_mul (c : Int) (f : List Int → Int) : ∀ r : List (List Int), sumR (fun x => c * f x) r = c * sumR f r
  | [] => by simp [sumR]
  | x :: r => by
    rw [sumR_cons, sumR_cons, sumR_mul c f r, Int.mul_add]
theorem sumR_countP (p : List Int → Bool) : ∀ r : List (List Int), ((r.countP p : Nat) : Int) = sumR (fun x => if p x then 1 else 0) r
  | [] => rfl
  | x :: r => by
    rw [sumR_cons, List.countP_cons, ← sumR_countP p r]
    cases p x with
    | true => simp; omega
    | false => simp
theorem cntB_sumR (r : List (List Int)) (a : List Int) : cntB r a = sumR (sup a) r := sumR_countP (subB a) r
theorem count_sumR (r : List (List Int)) (a : List Int) : ((r.count a : Nat) : Int) = sumR (fun x => isB x a) r := by
  induction r with
  | nil => rfl
  | cons x r ih =>
    rw [sumR_cons, count_cons', ih]
    omega
theorem len_sumR (r : List (List Int)) : (r.length : Int) = sumR (fun _ => 1) r := by
  induction r with
  | nil => rfl
  | cons x r ih =>
    rw [sumR_cons, List.length_cons, ← ih]
    omega
/-- a weighted sum over sets of sums over baskets -/
theorem dot_sumR (l : List (List Int)) (w : List Int → Int) (g : List Int → List Int → Int) (r : List (List Int)) : dotE l w (fun b => sumR (g b) r) = sumR (fun x => dotE l w fun b => g b x) r := by
  induction l with
  | nil =>
    show (0 : Int) = sumR (fun _ => 0) r
    induction r with
    | nil => rfl
    | cons x r ih => rw [sumR_cons, ← ih]; rfl
  | cons b l ih =>
    have e : (fun x => dotE (b :: l) w fun b => g b x) = fun x => w b * g b x + dotE l w fun b => g b x := by
      funext x
      simp [dotE]
    rw [e, sumR_add, sumR_mul, ← ih]
    simp [dotE]
end PyD

namespace PyD
open PySem PySem.Spec L2
section
variable {C : Nat → List PyData → M PyData} {K : Str → Option PyData} {δ δ' : En} {d x y z r : PyData} {a b c e : Ex} {es : Exs} {ds xs ys its : List PyData} {S S' S1 S2 S3 : Store} {f i j k : Nat} {t : Tg} {s : Src} {q : St} {ts : Sts} {lo hi : Exo}
theorem o_none : evo C K .none δ S = .ok none S := rfl
theorem o_some {n : Int} (h : ev C K e δ S = .ok (.int n) S') : evo C K (.some e) δ S = .ok (some n) S' := by
  show M.bnd (ev C K e δ) _ S = _
  rw [bnd_ok h]
  rfl
theorem e_slc {l u : Option Int} (h1 : ev C K a δ S = .ok x S1) (h2 : evo C K lo δ S1 = .ok l S2) (h3 : evo C K hi δ S2 = .ok u S3) (h : slcD l u x = some r) : ev C K (.slc a lo hi) δ S = .ok r S3 := by
  show M.bnd (ev C K a δ) _ S = _
  rw [bnd_ok h1]
  show M.bnd (evo C K lo δ) _ S1 = _
  rw [bnd_ok h2]
  show M.bnd (evo C K hi δ) _ S2 = _
  rw [bnd_ok h3, h]
  rfl
theorem e_rev (h1 : ev C K a δ S = .ok (.list xs) S1) : ev C K (.rev a) δ S = .ok (.list xs.reverse) S1 := by
  show M.bnd (ev C K a δ) _ S = _
  rw [bnd_ok h1]
  rfl
theorem e_revT (h1 : ev C K a δ S = .ok (.tuple xs) S1) : ev C K (.rev a) δ S = .ok (.tuple xs.reverse) S1 := by
  show M.bnd (ev C K a δ) _ S = _
  rw [bnd_ok h1]
  rfl
theorem e_lrg2 (h1 : ev C K a δ S = .ok x S') (h2 : ev C K b δ S' = .ok y S2) (h : rangeI x y = some xs) : ev C K (.lrg2 a b) δ S = .ok (.list xs) S2 := by
  show M.bnd (ev C K a δ) _ S = _
  rw [bnd_ok h1]
  show M.bnd (ev C K b δ) _ S' = _
  rw [bnd_ok h2, h]
  rfl
theorem t_par2 (h1 : ev C K a δ S = .ok x S1) (h2 : ev C K b δ S1 = .ok y S2) : evT C K (.par2 i j a b) δ S = .nxt ((δ.set i (.val x)).set j (.val y)) S2 := by
  show SRes.of (M.bnd (ev C K a δ) (fun x => M.bnd (ev C K b δ) fun y => M.ret (x, y)) S) _ _ = _
  rw [bnd_ok h1, bnd_ok h2]
  rfl
theorem t_aug {m n : Int} (h0 : δ[i]? = some (.val (.int m))) (h1 : ev C K e δ S = .ok (.int n) S') : evT C K (.aug i e) δ S = .nxt (δ.set i (.val (.int (m + n)))) S' := by
  show (match δ[i]? with
    | some (.val (.int x)) => SRes.of (ev C K e δ S) δ fun d s' => match d with
      | .int y => .nxt (δ.set i (.val (.int (x + y)))) s'
      | _ => .bad
    | _ => .bad : SRes) = _
  rw [h0]
  show SRes.of (ev C K e δ S) _ _ = _
  rw [h1]
  rfl
theorem t_ext (h0 : δ[i]? = some (.own ds)) (h1 : ev C K e δ S = .ok (.list xs) S') (hl : ds.length + xs.length ≤ lineD) : evT C K (.ext i e) δ S = .nxt (δ.set i (.own (ds ++ xs))) S' := by
  show ownAt δ i _ = _
  unfold ownAt
  rw [h0]
  show SRes.of (ev C K e δ S) _ _ = _
  rw [h1]
  show (if ds.length + xs.length ≤ lineD then _ else _ : SRes) = _
  rw [if_pos hl]
theorem t_rse : evT C K (.rse k) δ S = .exc k δ S := rfl
theorem run_exc {D : DefI} {args : List PyData} (hl : args.length = D.ps.length) (h : evTs C K D.body (args.map .val ++ List.replicate (D.N.length - D.ps.length) .non) S = .exc k δ' S') : D.run C K args S = .exc k S' := by
  unfold DefI.run
  rw [if_pos hl, h]
theorem ts_exc (h : evT C K q δ S = .exc k δ' S') : evTs C K (.cons q ts) δ S = .exc k δ' S' := by
  show (evT C K q δ S).thn _ = _
  rw [h]
  rfl
end
end PyD

namespace PyD
open PySem PySem.Spec L2
/-- how a type's things stand as data -/
structure Emb (α : Type) where
  f : α → PyData
  d : Nat
  pl : ∀ a, (f a).plain = true
  dp : ∀ a, (f a).depth ≤ d
  eq : ∀ a b, PyData.eqv (f a) (f b) = true ↔ a = b
theorem beq_of {p q : Bool} {a b : Prop} (h1 : p = true ↔ a) (h2 : q = true ↔ b) (h : a ↔ b) : p = q := by
  rw [Bool.eq_iff_iff, h1, h2]
  exact h
def eI : Emb Int := ⟨.int, 1, fun _ => rfl, fun _ => Nat.le_succ_of_le (Nat.le_refl 0), fun a b => by show (a == b) = true ↔ _; simp⟩
def eB : Emb Bool := ⟨.bool, 1, fun _ => rfl, fun _ => Nat.le_succ_of_le (Nat.le_refl 0), fun a b => by show (a == b) = true ↔ _; simp⟩
def eStr : Emb Str := ⟨.str, 1, fun _ => rfl, fun _ => Nat.le_succ_of_le (Nat.le_refl 0), fun a b => by simp [PyData.eqv]⟩
def eS : Emb (List Int) := ⟨tupD, 2, plain_tup, depth_tup, fun a b => by rw [eqv_tup]; simp⟩
section
variable {α β : Type} (e : Emb α) (e' : Emb β)
theorem Emb.plL (l : List α) : PyData.plainAll (l.map e.f) = true := by
  induction l with
  | nil => rfl
  | cons a l ih => simp [PyData.plainAll, e.pl a, ih]
theorem Emb.dpL (l : List α) : PyData.depthAll (l.map e.f) ≤ e.d := by
  induction l with
  | nil => exact Nat.zero_le _
  | cons a l ih =>
    have z := e.dp a
    simp only [List.map_cons, PyData.depthAll]
    omega
theorem Emb.eqL : ∀ l m : List α, PyData.eqvAll (l.map e.f) (m.map e.f) = true ↔ l = m
  | [], [] => ⟨fun _ => rfl, fun _ => rfl⟩
  | [], _ :: _ => ⟨fun h => (nomatch h), fun h => (nomatch h)⟩
  | _ :: _, [] => ⟨fun h => (nomatch h), fun h => (nomatch h)⟩
  | a :: l, b :: m => by
    show (PyData.eqv (e.f a) (e.f b) && PyData.eqvAll (l.map e.f) (m.map e.f)) = true ↔ _
    rw [Bool.and_eq_true, e.eq a b, Emb.eqL l m, List.cons.injEq]
def eL : Emb (List α) := ⟨fun l => .list (l.map e.f), e.d + 1, fun l => by simpa [PyData.plain] using e.plL l, fun l => by
  have z := e.dpL l
  simp only [PyData.depth]
  omega, fun l m => by
  show PyData.eqvAll _ _ = true ↔ _
  exact e.eqL l m⟩
def eT : Emb (List α) := ⟨fun l => .tuple (l.map e.f), e.d + 1, fun l => by simpa [PyData.plain] using e.plL l, fun l => by
  have z := e.dpL l
  simp only [PyData.depth]
  omega, fun l m => by
  show PyData.eqvAll _ _ = true ↔ _
  exact e.eqL l m⟩
def eP : Emb (α × β) := ⟨fun p => .tuple [e.f p.1, e'.f p.2], max e.d e'.d + 1, fun p => by simp [PyData.plain, PyData.plainAll, e.pl, e'.pl], fun p => by
  have z := e.dp p.1
  have z' := e'.dp p.2
  simp only [PyData.depth, PyData.depthAll]
  omega, fun p q => by
  show (PyData.eqv (e.f p.1) (e.f q.1) && (PyData.eqv (e'.f p.2) (e'.f q.2) && true)) = true ↔ _
  rw [Bool.and_true, Bool.and_eq_true, e.eq, e'.eq]
  constructor
  · rintro ⟨h1, h2⟩; exact Prod.ext h1 h2
  · rintro rfl; exact ⟨rfl, rfl⟩⟩
theorem Emb.ok (h : e.d ≤ 60) (a : α) : okD (e.f a) = true := by
  unfold okD
  rw [e.pl, decide_eq_true (Nat.le_trans (e.dp a) h)]
  rfl
theorem Emb.okL (h : e.d ≤ 60) (l : List α) : (l.map e.f).all okD = true := by
  rw [List.all_map, List.all_eq_true]
  exact fun a _ => e.ok h a
theorem Emb.nt (a : α) : noTok (e.f a) = true := noTok_plain (e.pl a)
theorem nt_nil : ([] : List PyData).all noTok = true := rfl
theorem nt_cons {d : PyData} {ds : List PyData} (h1 : noTok d = true) (h2 : ds.all noTok = true) : (d :: ds).all noTok = true := by rw [List.all_cons, h1, h2]; rfl
section
variable [BEq α] [LawfulBEq α]
theorem Emb.eqv (a b : α) : PyData.eqv (e.f a) (e.f b) = (a == b) := beq_of (e.eq a b) beq_iff_eq Iff.rfl
theorem c_eq (x y : α) (h : e.d ≤ 60 := by decide) : cmpD .eq (e.f x) (e.f y) = some (.bool (x == y)) := by
  show (if okD (e.f x) && okD (e.f y) then some (PyData.bool (PyData.eqv (e.f x) (e.f y))) else none) = _
  rw [e.ok h, e.ok h, e.eqv]
  rfl
theorem c_ne (x y : α) (h : e.d ≤ 60 := by decide) : cmpD .ne (e.f x) (e.f y) = some (.bool (!(x == y))) := by
  show (if okD (e.f x) && okD (e.f y) then some (PyData.bool (!PyData.eqv (e.f x) (e.f y))) else none) = _
  rw [e.ok h, e.ok h, e.eqv]
  rfl
theorem c_inD (x : α) (l : List α) (h : e.d ≤ 60 := by decide) : inD (e.f x) (l.map e.f) = some (l.contains x) := by
  unfold inD
  rw [e.ok h, e.okL h, List.any_map]
  show some (l.any ((fun y => PyData.eqv y (e.f x)) ∘ e.f)) = _
  rw [show ((fun y => PyData.eqv y (e.f x)) ∘ e.f) = fun y => y == x from funext fun y => e.eqv y x]
  congr 1
  induction l with
  | nil => rfl
  | cons y l ih =>
    rw [List.any_cons, List.contains_cons, ih]
    congr 1
    exact Bool.eq_iff_iff.mpr ⟨fun h => beq_iff_eq.mpr (beq_iff_eq.mp h).symm, fun h => beq_iff_eq.mpr (beq_iff_eq.mp h).symm⟩
theorem c_inL (x : α) (l : List α) (h : e.d ≤ 60 := by decide) : cmpD .in_ (e.f x) ((eL e).f l) = some (.bool (l.contains x)) := by
  show (inD (e.f x) (l.map e.f)).map PyData.bool = _
  rw [c_inD e x l h]
  rfl
theorem c_ninL (x : α) (l : List α) (h : e.d ≤ 60 := by decide) : cmpD .nin (e.f x) ((eL e).f l) = some (.bool (!l.contains x)) := by
  show (inD (e.f x) (l.map e.f)).map (fun b => PyData.bool (!b)) = _
  rw [c_inD e x l h]
  rfl
theorem c_inT (x : Int) (l : List Int) : cmpD .in_ (.int x) (tupD l) = some (.bool (l.contains x)) := by
  show (inD (eI.f x) (l.map eI.f)).map PyData.bool = _
  rw [c_inD eI x l]
  rfl
theorem c_ninT (x : Int) (l : List Int) : cmpD .nin (.int x) (tupD l) = some (.bool (!l.contains x)) := by
  show (inD (eI.f x) (l.map eI.f)).map (fun b => PyData.bool (!b)) = _
  rw [c_inD eI x l]
  rfl
theorem cnt_L (l : List α) (x : α) (h : e.d ≤ 60 := by decide) : cntD ((eL e).f l) (e.f x) = some (.int (l.count x : Nat)) := by
  show (if okD (e.f x) && (l.map e.f).all okD then some (PyData.int ((l.map e.f).countP fun y => PyData.eqv y (e.f x) : Nat)) else none) = _
  rw [e.ok h, e.okL h, List.countP_map, show ((fun y => PyData.eqv y (e.f x)) ∘ e.f) = fun y => y == x from funext fun y => e.eqv y x]
  rfl
theorem ind_L (l : List α) (x : α) (hx : l.contains x = true) (h : e.d ≤ 60 := by decide) : indD ((eL e).f l) (e.f x) = some (.int (l.idxOf x : Nat)) := by
  show (if okD (e.f x) && (l.map e.f).all okD then ((l.map e.f).findIdx? fun y => PyData.eqv y (e.f x)).map fun (j : Nat) => PyData.int (j : Nat) else none) = _
  rw [e.ok h, e.okL h, List.findIdx?_map, show ((fun y => PyData.eqv y (e.f x)) ∘ e.f) = fun y => y == x from funext fun y => e.eqv y x]
  have hz : l.findIdx? (fun y => y == x) = some (l.idxOf x) := List.findIdx?_eq_some_of_exists ⟨x, List.contains_iff_mem.mp hx, beq_self_eq_true x⟩
  show (l.findIdx? fun y => y == x).map _ = _
  rw [hz]
  rfl
end
theorem b_addL (x y : List α) (h : x.length + y.length ≤ lineD) : binD .add ((eL e).f x) ((eL e).f y) = some ((eL e).f (x ++ y)) := by
  show (if (x.map e.f).length + (y.map e.f).length ≤ lineD then some (PyData.list (x.map e.f ++ y.map e.f)) else none) = _
  rw [List.length_map, List.length_map, if_pos h, ← List.map_append]
  rfl
theorem b_addT (x y : List Int) (h : x.length + y.length ≤ lineD) : binD .add (tupD x) (tupD y) = some (tupD (x ++ y)) := by
  show (if (x.map PyData.int).length + (y.map PyData.int).length ≤ lineD then some (PyData.tuple (x.map PyData.int ++ y.map PyData.int)) else none) = _
  rw [List.length_map, List.length_map, if_pos h, ← List.map_append]
  rfl
theorem b_repL (x : α) (k : Nat) (h : k ≤ lineD) : binD .mul ((eL e).f [x]) (.int k) = some ((eL e).f (List.replicate k x)) := by
  have h2 : k ≤ 1000000 := h
  have h3 : (decide (-(2 ^ 63) ≤ (k : Int)) && (decide ((k : Int) < 2 ^ 63) && decide ([e.f x].length * (k : Int).toNat ≤ lineD))) = true := by
    rw [Bool.and_eq_true, Bool.and_eq_true, decide_eq_true_eq, decide_eq_true_eq, decide_eq_true_eq, Int.toNat_natCast, List.length_singleton, Nat.one_mul]
    exact ⟨by omega, by omega, h⟩
  have h4 : binD .mul ((eL e).f [x]) (.int k) = if (decide (-(2 ^ 63) ≤ (k : Int)) && (decide ((k : Int) < 2 ^ 63) && decide ([e.f x].length * (k : Int).toNat ≤ lineD))) then some (PyData.list (List.replicate (k : Int).toNat [e.f x]).flatten) else none := rfl
  rw [h4, if_pos h3, Int.toNat_natCast]
  have h5 : (List.replicate k [e.f x]).flatten = (List.replicate k x).map e.f := by
    rw [List.map_replicate]
    clear h h2 h3 h4
    induction k with
    | zero => rfl
    | succ k ih => rw [List.replicate_succ, List.flatten_cons, ih, List.replicate_succ]; rfl
  rw [h5]
  rfl
theorem len_L (l : List α) : biD .len ((eL e).f l) = some (.int (l.length : Nat)) := len_map e.f l
theorem ix_L (l : List α) (k : Nat) (d0 : α) (h : k < l.length) : idxD ((eL e).f l) (.int k) = some (e.f (l.getD k d0)) := by
  show atI (l.map e.f) (k : Int) = _
  unfold atI
  rw [ix_at (by omega) (by rw [List.length_map]; omega), Int.toNat_natCast]
  show (l.map e.f)[k]? = _
  rw [List.getElem?_map, List.getD_eq_getElem?_getD, List.getElem?_eq_getElem h]
  rfl
theorem ix_T (l : List Int) (k : Nat) (h : k < l.length) : idxD (tupD l) (.int k) = some (.int (l.getD k 0)) := by
  show atI (l.map PyData.int) (k : Int) = _
  unfold atI
  rw [ix_at (by omega) (by rw [List.length_map]; omega), Int.toNat_natCast]
  show (l.map PyData.int)[k]? = _
  rw [List.getElem?_map, List.getD_eq_getElem?_getD, List.getElem?_eq_getElem h]
  rfl
theorem ix_LI (l : List α) (d0 : α) {t : Int} (h : 0 ≤ t ∧ t < (l.length : Int)) : idxD ((eL e).f l) (.int t) = some (e.f (l.getD t.toNat d0)) := by
  have z := ix_L e l t.toNat d0 (by omega)
  rw [Int.toNat_of_nonneg h.1] at z
  exact z
theorem ix_TI (l : List Int) {t : Int} (h : 0 ≤ t ∧ t < (l.length : Int)) : idxD (tupD l) (.int t) = some (.int (l.getD t.toNat 0)) := by
  have z := ix_T l t.toNat (by omega)
  rw [Int.toNat_of_nonneg h.1] at z
  exact z
/-- the last one -/
theorem ix_last (l : List α) (d0 : α) (h : 0 < l.length) : idxD ((eL e).f l) (.int (-1)) = some (e.f (l.getLast?.getD d0)) := by
  show atI (l.map e.f) (-1) = _
  unfold atI
  have hx : ixN (l.map e.f).length (-1) = some (l.length - 1) := by
    unfold ixN
    rw [List.length_map, if_neg (by decide), if_pos (by omega)]
    congr 1
    omega
  rw [hx]
  show (l.map e.f)[l.length - 1]? = _
  rw [List.getElem?_map, List.getLast?_eq_getElem?, List.getElem?_eq_getElem (by omega)]
  rfl
theorem sl_to (l : List α) (k : Nat) : slcD none (some (k : Int)) ((eL e).f l) = some ((eL e).f (l.take k)) := by
  show some (PyData.list (cutD (l.map e.f) none (some (k : Int)))) = some (PyData.list ((l.take k).map e.f))
  congr 2
  unfold cutD
  have h1 : HT.sIx (l.map e.f).length 0 none = 0 := rfl
  have h2 : HT.sIx (l.map e.f).length (l.map e.f).length (some (k : Int)) = min k l.length := by
    simp only [HT.sIx, List.length_map]
    split <;> omega
  rw [h1, h2, List.drop_zero, Nat.sub_zero, List.map_take]
  by_cases hk : k ≤ l.length
  · rw [Nat.min_eq_left hk]
  · rw [Nat.min_eq_right (by omega), List.take_of_length_le (by simp), List.take_of_length_le (by simp; omega)]
theorem sl_from (l : List α) (k : Nat) : slcD (some (k : Int)) none ((eL e).f l) = some ((eL e).f (l.drop k)) := by
  show some (PyData.list (cutD (l.map e.f) (some (k : Int)) none)) = some (PyData.list ((l.drop k).map e.f))
  congr 2
  unfold cutD
  have h1 : HT.sIx (l.map e.f).length 0 (some (k : Int)) = min k l.length := by
    simp only [HT.sIx, List.length_map]
    split <;> omega
  have h2 : HT.sIx (l.map e.f).length (l.map e.f).length none = l.length := by
    simp only [HT.sIx, List.length_map]
  rw [h1, h2, List.map_drop]
  by_cases hk : k ≤ l.length
  · rw [Nat.min_eq_left hk, List.take_of_length_le (by simp)]
  · rw [Nat.min_eq_right (by omega), List.drop_of_length_le (by simp), List.drop_of_length_le (by simp; omega)]
    simp
theorem sl_but (l : List α) : slcD none (some (-1)) ((eL e).f l) = some ((eL e).f l.dropLast) := by
  show some (PyData.list (cutD (l.map e.f) none (some (-1)))) = some (PyData.list (l.dropLast.map e.f))
  congr 2
  unfold cutD
  have h1 : HT.sIx (l.map e.f).length 0 none = 0 := rfl
  have h2 : HT.sIx (l.map e.f).length (l.map e.f).length (some (-1)) = l.length - 1 := by
    simp only [HT.sIx, List.length_map]
    split <;> omega
  rw [h1, h2, List.drop_zero, Nat.sub_zero, List.dropLast_eq_take, List.map_take]
end
def nI (k : Nat) : PyData := .int (k : Nat)
theorem rg_nat (n : Nat) (h : n ≤ 1000000) : rangeI (.int 0) (.int n) = some ((List.range n).map nI) := by
  rw [nat_rg n h]
  congr 2
  funext i
  show PyData.int _ = .int _
  rw [Int.zero_add]
theorem rg_int (x : Int) (h : -1000000 ≤ x ∧ x ≤ 1000000) : rangeI (.int 0) (.int x) = some ((List.range x.toNat).map nI) := by
  show rangeD 0 x = _
  unfold rangeD
  rw [if_pos (by simp only [Bool.and_eq_true, decide_eq_true_eq]; omega), Int.sub_zero]
  congr 2
  funext i
  show PyData.int _ = .int _
  rw [Int.zero_add]
/-- from a on, below b -/
theorem rg_from (a b : Nat) (h : a ≤ 1000000) (h2 : b ≤ 1000000) : rangeI (.int a) (.int b) = some ((List.range' a (b - a)).map nI) := by
  show rangeD a b = _
  unfold rangeD
  rw [if_pos (by simp only [Bool.and_eq_true, decide_eq_true_eq]; omega)]
  rw [show ((b : Int) - a).toNat = b - a by omega, List.range'_eq_map_range, List.map_map]
  congr 2
def rng (n : Nat) : List Int := (List.range n).map fun (i : Nat) => (i : Int)
theorem rg_tup (n : Nat) (h : n ≤ 1000000) : rangeI (.int 0) (.int n) = some ((rng n).map .int) := by
  rw [rg_nat n h]
  unfold rng
  rw [List.map_map]
  rfl
theorem enu_L {α : Type} (e : Emb α) (l : List α) : enumD ((eL e).f l) = some (((List.range l.length).zip l).map fun p => pairD (nI p.1) (e.f p.2)) := by
  show some (List.zipWith pairD ((List.range (l.map e.f).length).map fun i => PyData.int (i : Nat)) (l.map e.f)) = _
  rw [List.length_map, List.zipWith_map, List.zip, List.map_zipWith]
  rfl
theorem zip_L {α β : Type} (e : Emb α) (e' : Emb β) (l : List α) (m : List β) : zipD ((eL e).f l) ((eL e').f m) = some ((l.zip m).map fun p => pairD (e.f p.1) (e'.f p.2)) := by
  show some (List.zipWith pairD (l.map e.f) (m.map e'.f)) = _
  rw [List.zipWith_map, List.zip, List.map_zipWith]
theorem it_P {α β : Type} (e : Emb α) (e' : Emb β) (l : List (α × β)) : itemsD ((eL (eP e e')).f l) = some (l.map fun p => pairD (e.f p.1) (e'.f p.2)) := rfl
def mxL : List Int → Int
  | [] => 0
  | n :: r => maxI n r
def mnL : List Int → Int
  | [] => 0
  | n :: r => minI n r
theorem max_L (l : List Int) (h : l ≠ []) : biD .max (.list (l.map .int)) = some (.int (mxL l)) := by
  show (intsD (l.map PyData.int)).bind _ = _
  rw [intsD_map]
  cases l with
  | nil => exact absurd rfl h
  | cons n r => rfl
theorem min_L (l : List Int) (h : l ≠ []) : biD .min (.list (l.map .int)) = some (.int (mnL l)) := by
  show (intsD (l.map PyData.int)).bind _ = _
  rw [intsD_map]
  cases l with
  | nil => exact absurd rfl h
  | cons n r => rfl
theorem allB {α : Type} (p : α → Bool) (l : List α) : biD .all ((eL eB).f (l.map p)) = some (.bool (l.all p)) := by
  rw [show (eL eB).f (l.map p) = .list ((l.map p).map .bool) from rfl, all_map, List.all_map]
  rfl
theorem anyB {α : Type} (p : α → Bool) (l : List α) : biD .any ((eL eB).f (l.map p)) = some (.bool (l.any p)) := by
  rw [show (eL eB).f (l.map p) = .list ((l.map p).map .bool) from rfl, any_map, List.any_map]
  rfl
section
variable {α β ι σ : Type} {C : Nat → List PyData → M PyData} {K : Str → Option PyData} {δ δ' : En} {d x y z r : PyData} {a b c e : Ex} {es : Exs} {ds xs ys its : List PyData} {S S' S1 S2 S3 : Store} {f i j k : Nat} {t : Tg} {s : Src} {q : St} {ts p1 p2 : Sts}
theorem e_cmpL (eb : Emb β) {l : List ι} {g : ι → PyData} {v : ι → β} (hs : evS C K s δ S = .ok (l.map g) S') (h : ∀ u ∈ l, ∃ δ', t.set (g u) (wipeD δ t.vs) = some δ' ∧ ev C K e δ' S' = .ok (eb.f (v u)) S') : ev C K (.cmp0 s t e) δ S = .ok ((eL eb).f (l.map v)) S' := by
  have z := e_cmp0 (v := fun u => eb.f (v u)) hs h
  rw [z]
  show Res.ok (PyData.list _) _ = .ok (PyData.list ((l.map v).map eb.f)) _
  rw [List.map_map]
  rfl
theorem e_cmpF (eb : Emb β) {l : List ι} {g : ι → PyData} {v : ι → β} {p : ι → Bool} (hs : evS C K s δ S = .ok (l.map g) S') (h : ∀ u ∈ l, ∃ δ', t.set (g u) (wipeD δ t.vs) = some δ' ∧ ev C K c δ' S' = .ok (.bool (p u)) S' ∧ (p u = true → ev C K e δ' S' = .ok (eb.f (v u)) S')) : ev C K (.cmp1 s t c e) δ S = .ok ((eL eb).f ((l.filter p).map v)) S' := by
  show M.bnd (evS C K s δ) _ S = _
  rw [bnd_ok hs]
  show M.bnd (M.lst _ (l.map g)) _ S' = _
  rw [bnd_ok (lst_map (r := fun u => if p u then some (eb.f (v u)) else none) l fun u hu => by
    obtain ⟨δ', h1, h2, h3⟩ := h u hu
    rw [h1]
    show M.bnd (ev C K c δ') _ S' = _
    rw [bnd_ok h2]
    cases hp : p u with
    | true =>
      show M.bnd (ev C K e δ') _ S' = _
      rw [bnd_ok (h3 hp)]
      rfl
    | false => rfl)]
  have e1 : (l.filterMap fun u => if p u then some (eb.f (v u)) else none) = ((l.filter p).map v).map eb.f := by
    clear hs h
    induction l with
    | nil => rfl
    | cons u l ih =>
      rw [List.filterMap_cons, List.filter_cons]
      cases p u with
      | true => simpa using ih
      | false => simpa using ih
  rw [e1]
  rfl
/-- the items themselves -/
theorem e_cmpI (eb : Emb β) {l : List β} {p : β → Bool} (hs : evS C K s δ S = .ok (l.map eb.f) S') (h : ∀ u ∈ l, ∃ δ', t.set (eb.f u) (wipeD δ t.vs) = some δ' ∧ ev C K c δ' S' = .ok (.bool (p u)) S' ∧ (p u = true → ev C K e δ' S' = .ok (eb.f u) S')) : ev C K (.cmp1 s t c e) δ S = .ok ((eL eb).f (l.filter p)) S' := by
  have z := e_cmpF (v := fun u => u) eb hs h
  rw [z, List.map_id']
theorem e_bopGc {g pb : Bool} {e' : Ex} {qb : Bool} (h1 : ev C K e δ S = .ok (.bool pb) S) (h2 : pb = g → ev C K (.bop g (.cons e' es)) δ S = .ok (.bool qb) S) : ev C K (.bop g (.cons e (.cons e' es))) δ S = .ok (.bool (if g then pb && qb else pb || qb)) S := by
  cases g with
  | true =>
    cases pb with
    | true => exact e_bopG h1 (h2 rfl)
    | false => exact e_bopS (g := true) h1
  | false =>
    cases pb with
    | false => exact e_bopG (g := false) h1 (h2 rfl)
    | true => exact e_bopS (g := false) h1
theorem e_andC {pb qb : Bool} {e' : Ex} (h1 : ev C K e δ S = .ok (.bool pb) S) (h2 : pb = true → ev C K (.bop true (.cons e' es)) δ S = .ok (.bool qb) S) : ev C K (.bop true (.cons e (.cons e' es))) δ S = .ok (.bool (pb && qb)) S := e_bopGc (g := true) h1 h2
theorem e_orC {pb qb : Bool} {e' : Ex} (h1 : ev C K e δ S = .ok (.bool pb) S) (h2 : pb = false → ev C K (.bop false (.cons e' es)) δ S = .ok (.bool qb) S) : ev C K (.bop false (.cons e (.cons e' es))) δ S = .ok (.bool (pb || qb)) S := e_bopGc (g := false) h1 h2
theorem e_iteE (eb : Emb β) {pb : Bool} {u v : β} (h1 : ev C K c δ S = .ok (.bool pb) S) (h2 : pb = true → ev C K a δ S = .ok (eb.f u) S) (h3 : pb = false → ev C K b δ S = .ok (eb.f v) S) : ev C K (.ite c a b) δ S = .ok (eb.f (if pb then u else v)) S := by
  cases pb with
  | true => exact e_iteT h1 (h2 rfl)
  | false => exact e_iteF h1 (h3 rfl)
theorem e_max2 {m n : Int} (h1 : ev C K a δ S = .ok (.int m) S') (h2 : ev C K b δ S' = .ok (.int n) S2) : ev C K (.mx2 true a b) δ S = .ok (.int (max m n)) S2 := by
  rw [e_mx2 h1 h2]
  congr 2
  show (if n > m then n else m) = _
  split <;> omega
theorem e_min2 {m n : Int} (h1 : ev C K a δ S = .ok (.int m) S') (h2 : ev C K b δ S' = .ok (.int n) S2) : ev C K (.mx2 false a b) δ S = .ok (.int (min m n)) S2 := by
  rw [e_mx2 h1 h2]
  congr 2
  show (if n < m then n else m) = _
  split <;> omega
theorem t_unp (h : ev C K e δ S = .ok (.tuple [x, y]) S') : evT C K (.unp i j e) δ S = .nxt ((δ.set i (.val x)).set j (.val y)) S' := by
  show SRes.of (ev C K e δ S) _ _ = _
  rw [h]
  rfl
theorem t_reto (h : ev C K e δ S = .ok (.list ds) S') : evT C K (.reto e) δ S = .reto ds S' := by
  show SRes.of (ev C K e δ S) _ _ = _
  rw [h]
  rfl
theorem ts_reto (h : evT C K q δ S = .reto ds S') : evTs C K (.cons q ts) δ S = .reto ds S' := by
  show (evT C K q δ S).thn _ = _
  rw [h]
  rfl
theorem run_reto {D : DefI} {args : List PyData} (hl : args.length = D.ps.length) (h : evTs C K D.body (args.map .val ++ List.replicate (D.N.length - D.ps.length) .non) S = .reto ds S') : D.run C K args S = .ok (.list ds) S' := by
  unfold DefI.run
  rw [if_pos hl, h]
theorem t_pas : evT C K .pas δ S = .nxt δ S := rfl
theorem for_fold {bd : En → Store → SRes} {g : ι → PyData} (st : σ → En → Prop) (step : σ → ι → σ) : ∀ (l : List ι), (∀ u ∈ l, ∀ s δ, st s δ → ∃ δ1 δ2, t.set (g u) δ = some δ1 ∧ bd δ1 S = .nxt δ2 S ∧ st (step s u) δ2) → ∀ s δ, st s δ → ∃ δ', forD bd t (l.map g) δ S = .nxt δ' S ∧ st (l.foldl step s) δ'
  | [], _, s, δ, h => ⟨δ, rfl, h⟩
  | u :: l, hs, s, δ, h => by
    obtain ⟨δ1, δ2, h1, h2, h3⟩ := hs u List.mem_cons_self s δ h
    obtain ⟨δ', h4, h5⟩ := for_fold st step l (fun v hv => hs v (List.mem_cons_of_mem _ hv)) _ δ2 h3
    refine ⟨δ', ?_, h5⟩
    show (match t.set (g u) δ with
      | some δ' => (bd δ' S).thn (forD bd t (l.map g))
      | none => .bad) = _
    rw [h1]
    show (bd δ1 S).thn _ = _
    rw [h2]
    exact h4
/-- each turn goes on -/
theorem for_on {bd : En → Store → SRes} {g : ι → PyData} (st : En → Prop) (l : List ι) (hs : ∀ u ∈ l, ∀ δ, st δ → ∃ δ1 δ2, t.set (g u) δ = some δ1 ∧ bd δ1 S = .nxt δ2 S ∧ st δ2) (δ : En) (h : st δ) : ∃ δ', forD bd t (l.map g) δ S = .nxt δ' S ∧ st δ' := by
  obtain ⟨δ', h1, h2⟩ := for_fold (σ := Unit) (fun _ => st) (fun _ _ => ()) l (fun u hu _ δ h => hs u hu δ h) () δ h
  exact ⟨δ', h1, h2⟩
/-- each turn puts some behind -/
theorem for_flat {bd : En → Store → SRes} {g : ι → PyData} (m : Nat) (st : List β → En → Prop) (w : ι → List β) : ∀ (l : List ι), (∀ u ∈ l, ∀ ds, ds.length + (w u).length ≤ m → ∀ δ, st ds δ → ∃ δ1 δ2, t.set (g u) δ = some δ1 ∧ bd δ1 S = .nxt δ2 S ∧ st (ds ++ w u) δ2) → ∀ ds δ, ds.length + (l.flatMap w).length ≤ m → st ds δ → ∃ δ', forD bd t (l.map g) δ S = .nxt δ' S ∧ st (ds ++ l.flatMap w) δ'
  | [], _, ds, δ, _, h => ⟨δ, rfl, by rw [List.flatMap_nil, List.append_nil]; exact h⟩
  | u :: l, hs, ds, δ, hm, h => by
    rw [List.flatMap_cons, List.length_append] at hm
    obtain ⟨δ1, δ2, h1, h2, h3⟩ := hs u List.mem_cons_self ds (by omega) δ h
    obtain ⟨δ', h4, h5⟩ := for_flat m st w l (fun v hv => hs v (List.mem_cons_of_mem _ hv)) _ δ2 (by rw [List.length_append]; omega) h3
    refine ⟨δ', ?_, by rw [List.flatMap_cons, ← List.append_assoc]; exact h5⟩
    show (match t.set (g u) δ with
      | some δ' => (bd δ' S).thn (forD bd t (l.map g))
      | none => .bad) = _
    rw [h1]
    show (bd δ1 S).thn _ = _
    rw [h2]
    exact h4
/-- each turn appends one -/
theorem for_map {bd : En → Store → SRes} {g : ι → PyData} (m : Nat) (st : List β → En → Prop) (v : ι → β) (l : List ι) (hs : ∀ u ∈ l, ∀ ds, ds.length < m → ∀ δ, st ds δ → ∃ δ1 δ2, t.set (g u) δ = some δ1 ∧ bd δ1 S = .nxt δ2 S ∧ st (ds ++ [v u]) δ2) (δ : En) (hm : l.length ≤ m) (h : st [] δ) : ∃ δ', forD bd t (l.map g) δ S = .nxt δ' S ∧ st (l.map v) δ' := by
  have e : l.flatMap (fun u => [v u]) = l.map v := by
    induction l with
    | nil => rfl
    | cons u l ih => rw [List.flatMap_cons, List.map_cons, ih (fun u hu => hs u (List.mem_cons_of_mem _ hu)) (by simp at hm; omega)]; rfl
  obtain ⟨δ', h1, h2⟩ := for_flat (S := S) (t := t) (bd := bd) (g := g) m st (fun u => [v u]) l (fun u hu ds hl δ h => hs u hu ds (by simp at hl; omega) δ h) [] δ (by rw [e]; simpa using hm) h
  rw [e] at h2
  exact ⟨δ', h1, h2⟩
/-- the first turn that hands back ends the loop -/
theorem for_find {bd : En → Store → SRes} {g : ι → PyData} (st : En → Prop) (p : ι → Bool) (v : ι → PyData) : ∀ (l : List ι), (∀ u ∈ l, ∀ δ, st δ → ∃ δ1, t.set (g u) δ = some δ1 ∧ (p u = true → bd δ1 S = .ret (v u) S) ∧ (p u = false → ∃ δ2, bd δ1 S = .nxt δ2 S ∧ st δ2)) → ∀ δ, st δ →
    (∀ u, l.find? p = some u → forD bd t (l.map g) δ S = .ret (v u) S) ∧ (l.find? p = none → ∃ δ', forD bd t (l.map g) δ S = .nxt δ' S ∧ st δ')
  | [], _, δ, h => ⟨fun u e => by simp at e, fun _ => ⟨δ, rfl, h⟩⟩
  | u :: l, hs, δ, h => by
    obtain ⟨δ1, h1, h2, h3⟩ := hs u List.mem_cons_self δ h
    have e : forD bd t ((u :: l).map g) δ S = (bd δ1 S).thn (forD bd t (l.map g)) := by
      show (match t.set (g u) δ with
        | some δ' => (bd δ' S).thn (forD bd t (l.map g))
        | none => .bad) = _
      rw [h1]
    rw [e]
    cases hp : p u with
    | true =>
      rw [List.find?_cons_of_pos hp]
      refine ⟨fun w hw => ?_, fun z => by cases z⟩
      cases hw
      rw [h2 hp]
      rfl
    | false =>
      obtain ⟨δ2, h4, h5⟩ := h3 hp
      rw [List.find?_cons_of_neg (by rw [hp]; exact Bool.false_ne_true), h4]
      exact for_find st p v l (fun w hw => hs w (List.mem_cons_of_mem _ hw)) δ2 h5
end
end PyD

namespace PyD
open PySem PySem.Spec L2
structure W (Q : SRes → Prop) (r : SRes) : Prop where
  h : Q r
def NQ (S : Store) (P : En → Prop) : SRes → Prop := fun r => ∃ δ, r = .nxt δ S ∧ P δ
def RQd (d : PyData) (S : Store) : SRes → Prop := fun r => r = .ret d S
def RQo (ds : List PyData) (S : Store) : SRes → Prop := fun r => r = .reto ds S
def RQx (k : Nat) (S : Store) : SRes → Prop := fun r => ∃ δ, r = .exc k δ S
def RQn (S : Store) : SRes → Prop := fun r => ∃ δ, r = .nxt δ S
def apS : Sts → Sts → Sts
  | .nil, ts => ts
  | .cons q p, ts => .cons q (apS p ts)
theorem apS_nil (ts : Sts) : apS .nil ts = ts := rfl
theorem apS_cons (q : St) (p ts : Sts) : apS (.cons q p) ts = .cons q (apS p ts) := rfl
section
variable {α β ι σ : Type} {C : Nat → List PyData → M PyData} {K : Str → Option PyData} {δ δ' : En} {d x y z r : PyData} {a b c e : Ex} {es : Exs} {ds xs ys its : List PyData} {S S' S1 S2 S3 : Store} {f i j k m : Nat} {t : Tg} {s : Src} {q : St} {ts p1 p2 bd : Sts} {Q : SRes → Prop} {g : ι → PyData}
theorem evTs_ap : ∀ (p ts : Sts) (δ : En) (S : Store), evTs C K (apS p ts) δ S = (evTs C K p δ S).thn (evTs C K ts)
  | .nil, ts, δ, S => rfl
  | .cons q p, ts, δ, S => by
    show (evT C K q δ S).thn (evTs C K (apS p ts)) = ((evT C K q δ S).thn (evTs C K p)).thn (evTs C K ts)
    cases evT C K q δ S with
    | nxt δ' S' => exact evTs_ap p ts δ' S'
    | ret d s => rfl
    | reto d s => rfl
    | exc k δ s => rfl
    | bad => rfl
theorem okb {X : Res PyData} {p q : Bool} {S : Store} (h : X = .ok (.bool p) S) (e : p = q) : X = .ok (.bool q) S := e ▸ h
theorem okv {X : Res PyData} {x y : α} (em : Emb α) (h : X = .ok (em.f x) S) (e : x = y) : X = .ok (em.f y) S := e ▸ h
theorem q_nxt (h : evT C K q δ S = .nxt δ' S') (h2 : W Q (evTs C K ts δ' S')) : W Q (evTs C K (.cons q ts) δ S) := by
  rw [evTs_cons h]
  exact h2
theorem q_ifT (h : ev C K c δ S = .ok (.bool true) S') (h2 : W Q (evTs C K (apS p1 ts) δ S')) : W Q (evTs C K (.cons (.ifs c p1 p2) ts) δ S) := by
  rw [evTs_ap] at h2
  show W Q ((evT C K (.ifs c p1 p2) δ S).thn _)
  rw [t_ifT h rfl]
  exact h2
theorem q_ifF (h : ev C K c δ S = .ok (.bool false) S') (h2 : W Q (evTs C K (apS p2 ts) δ S')) : W Q (evTs C K (.cons (.ifs c p1 p2) ts) δ S) := by
  rw [evTs_ap] at h2
  show W Q ((evT C K (.ifs c p1 p2) δ S).thn _)
  rw [t_ifF h rfl]
  exact h2
theorem q_ret (h : ev C K e δ S = .ok d S') (h2 : Q (.ret d S')) : W Q (evTs C K (.cons (.ret e) ts) δ S) := by
  rw [ts_ret (t_ret h)]
  exact ⟨h2⟩
theorem q_reto (h : ev C K e δ S = .ok (.list ds) S') (h2 : Q (.reto ds S')) : W Q (evTs C K (.cons (.reto e) ts) δ S) := by
  rw [ts_reto (t_reto h)]
  exact ⟨h2⟩
theorem q_rse (h2 : Q (.exc k δ S)) : W Q (evTs C K (.cons (.rse k) ts) δ S) := by
  rw [ts_exc t_rse]
  exact ⟨h2⟩
theorem q_nil (h2 : Q (.nxt δ S)) : W Q (evTs C K .nil δ S) := ⟨h2⟩
theorem q_shr (h1 : δ[i]? = some (.own ds)) (h : W Q (evTs C K (.cons q ts) (δ.set i (.val (.list ds))) S)) : W Q (evTs C K (.cons (.shr i q) ts) δ S) := by
  show W Q ((evT C K (.shr i q) δ S).thn _)
  rw [t_shr h1 rfl]
  exact h
theorem q_for (hs : evS C K s δ S = .ok its S') (h : W Q ((forD (evTs C K bd) t its δ S').thn (evTs C K ts))) : W Q (evTs C K (.cons (.for_ s t bd) ts) δ S) := by
  show W Q ((evT C K (.for_ s t bd) δ S).thn _)
  rw [t_for hs rfl]
  exact h
/-- a fold over a state -/
theorem q_fold (st : σ → En → Prop) (step : σ → ι → σ) (l : List ι) (hs : evS C K s δ S = .ok (l.map g) S') (s0 : σ) (h0 : st s0 δ) (hb : ∀ u ∈ l, ∀ s δ, st s δ → ∃ δ1, t.set (g u) δ = some δ1 ∧ W (NQ S' (st (step s u))) (evTs C K bd δ1 S')) (hk : ∀ δ', st (l.foldl step s0) δ' → W Q (evTs C K ts δ' S')) : W Q (evTs C K (.cons (.for_ s t bd) ts) δ S) := by
  obtain ⟨δ', h1, h2⟩ := for_fold (S := S') (t := t) (bd := evTs C K bd) (g := g) st step l (fun u hu s δ h => by
    obtain ⟨δ1, e1, ⟨δ2, e2, e3⟩⟩ := hb u hu s δ h
    exact ⟨δ1, δ2, e1, e2, e3⟩) s0 δ h0
  refine q_for hs ?_
  rw [h1]
  exact hk δ' h2
/-- each turn appends one -/
theorem q_map (m : Nat) (st : List β → En → Prop) (v : ι → β) (l : List ι) (hs : evS C K s δ S = .ok (l.map g) S') (hm : l.length ≤ m) (h0 : st [] δ) (hb : ∀ u ∈ l, ∀ ds, ds.length < m → ∀ δ, st ds δ → ∃ δ1, t.set (g u) δ = some δ1 ∧ W (NQ S' (st (ds ++ [v u]))) (evTs C K bd δ1 S')) (hk : ∀ δ', st (l.map v) δ' → W Q (evTs C K ts δ' S')) : W Q (evTs C K (.cons (.for_ s t bd) ts) δ S) := by
  obtain ⟨δ', h1, h2⟩ := for_map (S := S') (t := t) (bd := evTs C K bd) (g := g) m st v l (fun u hu ds hl δ h => by
    obtain ⟨δ1, e1, ⟨δ2, e2, e3⟩⟩ := hb u hu ds hl δ h
    exact ⟨δ1, δ2, e1, e2, e3⟩) δ hm h0
  refine q_for hs ?_
  rw [h1]
  exact hk δ' h2
/-- each turn puts some behind -/
theorem q_flat (m : Nat) (st : List β → En → Prop) (w : ι → List β) (l : List ι) (hs : evS C K s δ S = .ok (l.map g) S') (hm : (l.flatMap w).length ≤ m) (h0 : st [] δ) (hb : ∀ u ∈ l, ∀ ds, ds.length + (w u).length ≤ m → ∀ δ, st ds δ → ∃ δ1, t.set (g u) δ = some δ1 ∧ W (NQ S' (st (ds ++ w u))) (evTs C K bd δ1 S')) (hk : ∀ δ', st (l.flatMap w) δ' → W Q (evTs C K ts δ' S')) : W Q (evTs C K (.cons (.for_ s t bd) ts) δ S) := by
  obtain ⟨δ', h1, h2⟩ := for_flat (S := S') (t := t) (bd := evTs C K bd) (g := g) m st w l (fun u hu ds hl δ h => by
    obtain ⟨δ1, e1, ⟨δ2, e2, e3⟩⟩ := hb u hu ds hl δ h
    exact ⟨δ1, δ2, e1, e2, e3⟩) [] δ (by simpa using hm) h0
  rw [List.nil_append] at h2
  refine q_for hs ?_
  rw [h1]
  exact hk δ' h2
/-- each turn goes on -/
theorem q_on (st : En → Prop) (l : List ι) (hs : evS C K s δ S = .ok (l.map g) S') (h0 : st δ) (hb : ∀ u ∈ l, ∀ δ, st δ → ∃ δ1, t.set (g u) δ = some δ1 ∧ W (NQ S' st) (evTs C K bd δ1 S')) (hk : ∀ δ', st δ' → W Q (evTs C K ts δ' S')) : W Q (evTs C K (.cons (.for_ s t bd) ts) δ S) :=
  q_fold (σ := Unit) (fun _ => st) (fun _ _ => ()) l hs () h0 (fun u hu _ δ h => hb u hu δ h) fun δ' h => hk δ' h
/-- as a fold, the turns behind known -/
theorem q_foldP (st : List ι → En → Prop) (l : List ι) (hs : evS C K s δ S = .ok (l.map g) S') (h0 : st [] δ) (hb : ∀ pre u post, l = pre ++ u :: post → ∀ δ, st pre δ → ∃ δ1, t.set (g u) δ = some δ1 ∧ W (NQ S' (st (pre ++ [u]))) (evTs C K bd δ1 S')) (hk : ∀ δ', st l δ' → W Q (evTs C K ts δ' S')) : W Q (evTs C K (.cons (.for_ s t bd) ts) δ S) := by
  have key : ∀ (post pre : List ι) (δ : En), l = pre ++ post → st pre δ → ∃ δ', forD (evTs C K bd) t (post.map g) δ S' = .nxt δ' S' ∧ st l δ' := by
    intro post
    induction post with
    | nil => intro pre δ e h; exact ⟨δ, rfl, by rw [e, List.append_nil]; exact h⟩
    | cons u post ih =>
      intro pre δ e h
      obtain ⟨δ1, e1, ⟨δ2, e2, e3⟩⟩ := hb pre u post e δ h
      obtain ⟨δ', e4, e5⟩ := ih (pre ++ [u]) δ2 (by rw [e, List.append_assoc]; rfl) e3
      refine ⟨δ', ?_, e5⟩
      show (match t.set (g u) δ with
        | some δ' => (evTs C K bd δ' S').thn (forD (evTs C K bd) t (post.map g))
        | none => .bad) = _
      rw [e1]
      show (evTs C K bd δ1 S').thn _ = _
      rw [e2]
      exact e4
  obtain ⟨δ', h1, h2⟩ := key l [] δ rfl h0
  refine q_for hs ?_
  rw [h1]
  exact hk δ' h2
/-- the first turn that hands back -/
theorem q_find (st : En → Prop) (p : ι → Bool) (v : ι → PyData) (l : List ι) (hs : evS C K s δ S = .ok (l.map g) S') (h0 : st δ) (hb : ∀ u ∈ l, ∀ δ, st δ → ∃ δ1, t.set (g u) δ = some δ1 ∧ (p u = true → W (RQd (v u) S') (evTs C K bd δ1 S')) ∧ (p u = false → W (NQ S' st) (evTs C K bd δ1 S'))) (hr : ∀ u, l.find? p = some u → Q (.ret (v u) S')) (hk : l.find? p = none → ∀ δ', st δ' → W Q (evTs C K ts δ' S')) : W Q (evTs C K (.cons (.for_ s t bd) ts) δ S) := by
  have z := for_find (S := S') (t := t) (bd := evTs C K bd) (g := g) st p v l (fun u hu δ h => by
    obtain ⟨δ1, e1, e2, e3⟩ := hb u hu δ h
    exact ⟨δ1, e1, fun q => (e2 q).h, fun q => (e3 q).h⟩) δ h0
  refine q_for hs ?_
  cases hf : l.find? p with
  | some u =>
    rw [z.1 u hf]
    exact ⟨hr u hf⟩
  | none =>
    obtain ⟨δ', h1, h2⟩ := z.2 hf
    rw [h1]
    exact hk hf δ' h2
theorem q_rseL (st : En → Prop) (bad : ι → Bool) (l : List ι) (hs : evS C K s δ S = .ok (l.map g) S') (h0 : st δ) (hbad : l.any bad = true) (hb : ∀ u ∈ l, ∀ δ, st δ → ∃ δ1, t.set (g u) δ = some δ1 ∧ (bad u = true → W (RQx k S') (evTs C K bd δ1 S')) ∧ (bad u = false → W (NQ S' st) (evTs C K bd δ1 S'))) (hq : ∀ δ, Q (.exc k δ S')) : W Q (evTs C K (.cons (.for_ s t bd) ts) δ S) := by
  refine q_for hs ?_
  have key : ∀ (m : List ι) (δ : En), (∀ u ∈ m, u ∈ l) → m.any bad = true → st δ → ∃ δ', forD (evTs C K bd) t (m.map g) δ S' = .exc k δ' S' := by
    intro m
    induction m with
    | nil => intro δ _ e _; cases e
    | cons u m ih =>
      intro δ hm e h
      obtain ⟨δ1, e1, e2, e3⟩ := hb u (hm u List.mem_cons_self) δ h
      cases hu : bad u with
      | true =>
        obtain ⟨δ2, e4⟩ := (e2 hu).h
        refine ⟨δ2, ?_⟩
        rw [List.map_cons]
        unfold forD
        rw [e1]
        show (evTs C K bd δ1 S').thn _ = _
        rw [e4]
        rfl
      | false =>
        obtain ⟨δ2, e4, e5⟩ := (e3 hu).h
        rw [List.any_cons, hu, Bool.false_or] at e
        obtain ⟨δ3, e6⟩ := ih δ2 (fun v hv => hm v (List.mem_cons_of_mem _ hv)) e e5
        refine ⟨δ3, ?_⟩
        rw [List.map_cons]
        unfold forD
        rw [e1]
        show (evTs C K bd δ1 S').thn _ = _
        rw [e4]
        exact e6
  obtain ⟨δ', e⟩ := key l δ (fun _ h => h) hbad h0
  rw [e]
  exact ⟨hq δ'⟩
def TryQ (C : Nat → List PyData → M PyData) (K : Str → Option PyData) (Q : SRes → Prop) (ts : Sts) (k n j : Nat) : SRes → Prop
  | .nxt δ S => W Q (evTs C K ts δ S)
  | .exc q δ S => q < 7 ∧ (if subE q k then W Q (evTs C K ts ((δ.set j (.val (excD q))).set n .non) S) else Q (.exc q δ S))
  | .ret d S => Q (.ret d S)
  | .reto d S => Q (.reto d S)
  | .bad => False
theorem q_try {n : Nat} (h : W (TryQ C K Q ts k n j) (evTs C K bd δ S)) : W Q (evTs C K (.cons (.try_ bd k n j) ts) δ S) := by
  obtain ⟨h⟩ := h
  show W Q ((match evTs C K bd δ S with
    | .exc q δ' s' => if q < 7 then (if subE q k then .nxt ((δ'.set j (.val (excD q))).set n .non) s' else .exc q δ' s') else .bad
    | r => r : SRes).thn (evTs C K ts))
  cases hr : evTs C K bd δ S with
  | nxt δ' S' => rw [hr] at h; exact h
  | ret d S' => rw [hr] at h; exact ⟨h⟩
  | reto d S' => rw [hr] at h; exact ⟨h⟩
  | bad => rw [hr] at h; exact h.elim
  | exc q δ' S' =>
    rw [hr] at h
    obtain ⟨h1, h2⟩ := h
    dsimp only
    rw [if_pos h1]
    split at h2
    · rename_i hb
      rw [if_pos hb]
      exact h2
    · rename_i hb
      rw [if_neg hb]
      exact ⟨h2⟩
theorem x_iteT (h1 : ev C K c δ S = .ok (.bool true) S') (h2 : ev C K a δ S' = .exc k S2) : ev C K (.ite c a b) δ S = .exc k S2 := by
  show M.bnd (ev C K c δ) _ S = _
  rw [bnd_ok h1]
  exact h2
theorem x_iteF (h1 : ev C K c δ S = .ok (.bool false) S') (h2 : ev C K b δ S' = .exc k S2) : ev C K (.ite c a b) δ S = .exc k S2 := by
  show M.bnd (ev C K c δ) _ S = _
  rw [bnd_ok h1]
  exact h2
theorem w_run {D : DefI} {args : List PyData} (hl : args.length = D.ps.length) (hf : D.fr = false) (h : W (RQd d S') (evTs C K D.body (args.map .val ++ List.replicate (D.N.length - D.ps.length) .non) S)) : D.run C K args S = .ok d S' := run_ret hl hf h.h
theorem w_runo {D : DefI} {args : List PyData} (hl : args.length = D.ps.length) (h : W (RQo ds S') (evTs C K D.body (args.map .val ++ List.replicate (D.N.length - D.ps.length) .non) S)) : D.run C K args S = .ok (.list ds) S' := run_reto hl h.h
theorem w_runn {D : DefI} {args : List PyData} (hl : args.length = D.ps.length) (hf : D.fr = false) (h : W (RQn S') (evTs C K D.body (args.map .val ++ List.replicate (D.N.length - D.ps.length) .non) S)) : D.run C K args S = .ok .none S' := by
  obtain ⟨δ, e⟩ := h.h
  exact run_nxt hl hf e
theorem w_runx {D : DefI} {args : List PyData} (hl : args.length = D.ps.length) (h : W (RQx k S') (evTs C K D.body (args.map .val ++ List.replicate (D.N.length - D.ps.length) .non) S)) : D.run C K args S = .exc k S' := by
  obtain ⟨δ, e⟩ := h.h
  exact run_exc hl e
theorem ec_call (h1 : evs C K es δ S = .ok ds S') (h2 : ds.all noTok = true) (h3 : C f ds [] = .exc k []) : ev C K (.call f es) δ S = .exc k S' := by
  show M.bnd (evs C K es δ) _ S = _
  rw [bnd_ok h1]
  show pureC ds (C f ds) S' = _
  unfold pureC
  rw [if_pos h2, h3]
theorem q_exc (h : evT C K q δ S = .exc k δ' S') (h2 : Q (.exc k δ' S')) : W Q (evTs C K (.cons q ts) δ S) := by
  rw [ts_exc h]
  exact ⟨h2⟩
theorem tx_asg (h : ev C K e δ S = .exc k S') : evT C K (.asg i e) δ S = .exc k δ S' := by
  show SRes.of (ev C K e δ S) _ _ = _
  rw [h]
  rfl
theorem tx_exp (h : ev C K e δ S = .exc k S') : evT C K (.exp e) δ S = .exc k δ S' := by
  show SRes.of (ev C K e δ S) _ _ = _
  rw [h]
  rfl
theorem tx_ret (h : ev C K e δ S = .exc k S') : evT C K (.ret e) δ S = .exc k δ S' := by
  show SRes.of (ev C K e δ S) _ _ = _
  rw [h]
  rfl
end
end PyD

namespace PyD
open PySem PySem.Spec L2
section
variable {n : Nat} (hn : n ∈ N4)
include hn
theorem n_cases : n = 1 ∨ n = 2 ∨ n = 3 ∨ n = 4 := by
  simp only [N4, List.mem_cons, List.mem_nil_iff, or_false] at hn
  exact hn
theorem E_nil : ([] : List Int) ∈ E n := by
  rcases n_cases hn with rfl | rfl | rfl | rfl <;> decide
theorem rng_E : rng n ∈ E n := by
  rcases n_cases hn with rfl | rfl | rfl | rfl <;> decide
theorem n_le : n ≤ 1000000 := by rcases n_cases hn with rfl | rfl | rfl | rfl <;> decide
theorem n1_le : n + 1 ≤ 1000000 := by rcases n_cases hn with rfl | rfl | rfl | rfl <;> decide
theorem El_16 : (E n).length ≤ 16 := by rcases n_cases hn with rfl | rfl | rfl | rfl <;> decide
theorem El_le : (E n).length ≤ 1000000 := Nat.le_trans (El_16 hn) (by decide)
theorem chk_E {p : Nat → List Int → Bool} (h : N4.all (fun n => (E n).all (p n)) = true) {a : List Int} (ha : a ∈ E n) : p n a = true := List.all_eq_true.mp (List.all_eq_true.mp h n hn) a ha
theorem chk_EE {p : Nat → List Int → List Int → Bool} (h : N4.all (fun n => (E n).all fun a => (E n).all (p n a)) = true) {a b : List Int} (ha : a ∈ E n) (hb : b ∈ E n) : p n a b = true := List.all_eq_true.mp (chk_E hn h ha) b hb
theorem chk_EEE {p : Nat → List Int → List Int → List Int → Bool} (h : N4.all (fun n => (E n).all fun a => (E n).all fun b => (E n).all (p n a b)) = true) {a b c : List Int} (ha : a ∈ E n) (hb : b ∈ E n) (hc : c ∈ E n) : p n a b c = true := List.all_eq_true.mp (chk_EE hn h ha hb) c hc
omit hn in
theorem k_len4 : N4.all (fun n => (E n).all fun a => decide (a.length ≤ 4)) = true := by decide +kernel
theorem E_len4 {a : List Int} (ha : a ∈ E n) : a.length ≤ 4 := of_decide_eq_true (chk_E hn k_len4 ha)
theorem tab_len {cs : List Int} (h : Tab n cs) : cs.length ≤ 20 := by
  rw [h.1]
  exact Nat.le_trans (El_16 hn) (by decide)
end
theorem ite_E {n : Nat} {c : Bool} {a b : List Int} (ha : a ∈ E n) (hb : b ∈ E n) : (if c then a else b) ∈ E n := by cases c <;> assumption
theorem getD_E {n k : Nat} {l : List (List Int)} (h : ∀ b ∈ l, b ∈ E n) (hk : k < l.length) : l.getD k [] ∈ E n := by
  rw [List.getD_eq_getElem?_getD, List.getElem?_eq_getElem hk]
  exact h _ (List.getElem_mem hk)
theorem map_R {ι : Type} {n : Nat} {l : List ι} {f : ι → List Int} (h : ∀ u ∈ l, f u ∈ E n) : ∀ b ∈ l.map f, b ∈ E n := fun b hb => by
  obtain ⟨u, hu, rfl⟩ := List.mem_map.mp hb
  exact h u hu
theorem map_pr1 {ι β : Type} {n : Nat} {l : List ι} {f : ι → List Int × β} (h : ∀ u ∈ l, (f u).1 ∈ E n) : ∀ p ∈ l.map f, p.1 ∈ E n := fun p hp => by
  obtain ⟨u, hu, rfl⟩ := List.mem_map.mp hp
  exact h u hu
theorem map_pr2 {ι β : Type} {n : Nat} {l : List ι} {f : ι → β × List Int} (h : ∀ u ∈ l, (f u).2 ∈ E n) : ∀ p ∈ l.map f, p.2 ∈ E n := fun p hp => by
  obtain ⟨u, hu, rfl⟩ := List.mem_map.mp hp
  exact h u hu
theorem app_b {ι : Type} {f : ι → PyData} {l : List ι} {k : Nat} (h : l.length < k) : (l.map f).length < k := by rw [List.length_map]; exact h
theorem ext_b {ι κ : Type} {f : ι → PyData} {g : κ → PyData} {l : List ι} {m : List κ} {k : Nat} (h : l.length + m.length ≤ k) : (l.map f).length + (m.map g).length ≤ k := by rw [List.length_map, List.length_map]; exact h
theorem b_repI {α : Type} (e : Emb α) (x : α) {k : Int} (h : -1000 ≤ k ∧ k ≤ 1000) : binD .mul ((eL e).f [x]) (.int k) = some ((eL e).f (List.replicate k.toNat x)) := by
  by_cases h0 : 0 ≤ k
  · have z := b_repL e x k.toNat (by unfold lineD; omega)
    rw [Int.toNat_of_nonneg h0] at z
    exact z
  · have h4 : binD .mul ((eL e).f [x]) (.int k) = if (decide (-(2 ^ 63) ≤ k) && (decide (k < 2 ^ 63) && decide ([e.f x].length * k.toNat ≤ lineD))) then some (PyData.list (List.replicate k.toNat [e.f x]).flatten) else none := rfl
    have hz : k.toNat = 0 := by omega
    rw [h4, hz, if_pos (by rw [Bool.and_eq_true, Bool.and_eq_true, decide_eq_true_eq, decide_eq_true_eq, decide_eq_true_eq]; exact ⟨by omega, by omega, by simp⟩)]
    rfl
theorem isn_of {d : PyData} {p : Bool} (h : cmpD .is_ d .none = some (.bool p)) : cmpD .isn d .none = some (.bool (!p)) := by
  cases d with
  | none => cases h; rfl
  | _ => cases h; rfl
theorem ne_str {x y : Str} (h : x ≠ y) : cmpD .ne (.str x) (.str y) = some (.bool true) := by
  have z := c_ne eStr x y
  rw [show (x == y) = false from beq_eq_false_iff_ne.mpr h] at z
  exact z
theorem eq_str {x y : Str} (h : x ≠ y) : cmpD .eq (.str x) (.str y) = some (.bool false) := by
  have z := c_eq eStr x y
  rw [show (x == y) = false from beq_eq_false_iff_ne.mpr h] at z
  exact z
theorem le_tr {a c : Nat} (b : Nat) (h : a ≤ b) (h2 : b ≤ c) : a ≤ c := Nat.le_trans h h2
theorem lt_tr {a c : Nat} (b : Nat) (h : a ≤ b) (h2 : b < c) : a < c := Nat.lt_of_le_of_lt h h2
theorem map_len {ι β : Type} {l : List ι} {f : ι → β} {k : Nat} (h : l.length ≤ k) : (l.map f).length ≤ k := by rw [List.length_map]; exact h
theorem fil_R {n : Nat} {l : List (List Int)} (p : List Int → Bool) (h : ∀ b ∈ l, b ∈ E n) : ∀ b ∈ l.filter p, b ∈ E n := fun b hb => h b (List.mem_filter.mp hb).1
theorem fil_len {ι : Type} {l : List ι} (p : ι → Bool) {k : Nat} (h : l.length ≤ k) : (l.filter p).length ≤ k := Nat.le_trans (List.length_filter_le p l) h
theorem take_len {ι : Type} (k : Nat) (l : List ι) : (l.take k).length ≤ l.length := by rw [List.length_take]; omega
theorem drop_len {ι : Type} (k : Nat) (l : List ι) : (l.drop k).length ≤ l.length := by rw [List.length_drop]; omega
theorem add_len {ι : Type} {a b : List ι} {j k : Nat} (h1 : a.length ≤ j) (h2 : b.length ≤ k) : (a ++ b).length ≤ j + k := by rw [List.length_append]; omega
theorem app_R {n : Nat} {a b : List (List Int)} (h1 : ∀ x ∈ a, x ∈ E n) (h2 : ∀ x ∈ b, x ∈ E n) : ∀ x ∈ a ++ b, x ∈ E n := fun x hx => (List.mem_append.mp hx).elim (h1 x) (h2 x)
theorem idx_lt {ι : Type} [BEq ι] [LawfulBEq ι] {l : List ι} {x : ι} (h : l.contains x = true) : l.idxOf x < l.length := List.idxOf_lt_length_iff.mpr (List.contains_iff_mem.mp h)
theorem insI_len (x : Int) : ∀ l : List Int, (insI x l).length ≤ l.length + 1
  | [] => by simp [insI]
  | y :: l => by
    unfold insI
    split
    · simp
    · split
      · simp
      · have := insI_len x l
        simp
        omega
theorem setI_len : ∀ l : List Int, (setI l).length ≤ l.length
  | [] => Nat.le_refl _
  | x :: l => by
    have h1 := insI_len x (setI l)
    have h2 := setI_len l
    show (insI x (setI l)).length ≤ _
    rw [List.length_cons]
    omega
theorem srs_S (a : List Int) (h : a.length ≤ 60) : srsD (tupD a) = some (.list ((setI a).map .int)) := by
  show (intsD (a.map PyData.int)).bind _ = _
  rw [intsD_map]
  have := setI_len a
  show (if (setI a).length ≤ 60 ∧ a.length ≤ 4000 then _ else _) = _
  rw [if_pos ⟨by omega, by omega⟩]
theorem srs_L (a : List Int) (h : (setI a).length ≤ 60 ∧ a.length ≤ 4000) : srsD (.list (a.map .int)) = some (.list ((setI a).map .int)) := by
  show (intsD (a.map PyData.int)).bind _ = _
  rw [intsD_map]
  show (if (setI a).length ≤ 60 ∧ a.length ≤ 4000 then _ else _) = _
  rw [if_pos h]
theorem rev_ok {α : Type} (e : Emb α) (l : List α) {S : Store} : Res.ok (.list (l.map e.f).reverse) S = .ok ((eL e).f l.reverse) S := by
  rw [← List.map_reverse]
  rfl
theorem rev_okS (l : List Int) {S : Store} : Res.ok (.tuple (l.map .int).reverse) S = .ok (tupD l.reverse) S := by
  rw [← List.map_reverse]
  rfl
def absI (i : Int) : Int := if i < 0 then -i else i
theorem b_mulI (i j : Int) (h : (-(2 ^ 64) < i ∧ i < 2 ^ 64)) : binD .mul (.int i) (.int j) = some (.int (i * j)) := by
  show (if (decide (-(2 ^ 64) < i) && decide (i < 2 ^ 64)) || (decide (-(2 ^ 64) < j) && decide (j < 2 ^ 64)) then some (PyData.int (i * j)) else none) = _
  rw [decide_eq_true h.1, decide_eq_true h.2]
  rfl
theorem b_mulR (i j : Int) (h : (-(2 ^ 64) < j ∧ j < 2 ^ 64)) : binD .mul (.int i) (.int j) = some (.int (i * j)) := by
  show (if (decide (-(2 ^ 64) < i) && decide (i < 2 ^ 64)) || (decide (-(2 ^ 64) < j) && decide (j < 2 ^ 64)) then some (PyData.int (i * j)) else none) = _
  rw [decide_eq_true h.1, decide_eq_true h.2, if_pos (by simp)]
theorem b_modI {i j : Int} (h : 0 < j) : binD .mod (.int i) (.int j) = some (.int (i % j)) := if_pos h
theorem b_fdvI {i j : Int} (h : 0 < j ∧ j < 1073741824) : binD .fdv (.int i) (.int j) = some (.int (i / j)) := by
  show (if decide (0 < j) && decide (j < 1073741824) then some (PyData.int (i / j)) else none) = _
  rw [decide_eq_true h.1, decide_eq_true h.2]
  rfl
section
variable {α : Type}
def insT (lt : α → α → Bool) (x : α) : List α → List α
  | [] => [x]
  | y :: ys => if lt y x then y :: insT lt x ys else x :: y :: ys
def srtT (lt : α → α → Bool) : List α → List α
  | [] => []
  | x :: xs => insT lt x (srtT lt xs)
theorem ins_map (e : Emb α) {lt : α → α → Bool} (h : ∀ x y, PySem.W.dataLt (e.f x) (e.f y) = lt x y) (x : α) : ∀ l, insD (e.f x) (l.map e.f) = (insT lt x l).map e.f
  | [] => rfl
  | y :: l => by
    show (if PySem.W.dataLt (e.f y) (e.f x) then e.f y :: insD (e.f x) (l.map e.f) else e.f x :: e.f y :: l.map e.f) = (if lt y x then y :: insT lt x l else x :: y :: l).map e.f
    rw [h, ins_map e h x l]
    cases lt y x <;> rfl
theorem sort_map (e : Emb α) {lt : α → α → Bool} (h : ∀ x y, PySem.W.dataLt (e.f x) (e.f y) = lt x y) : ∀ l, sortD (l.map e.f) = (srtT lt l).map e.f
  | [] => rfl
  | x :: l => by
    show insD (e.f x) (sortD (l.map e.f)) = (insT lt x (srtT lt l)).map e.f
    rw [sort_map e h l, ins_map e h]
theorem insT_perm (lt : α → α → Bool) (x : α) : ∀ l, (insT lt x l).Perm (x :: l)
  | [] => .refl _
  | y :: l => by
    unfold insT
    split
    · exact ((insT_perm lt x l).cons y).trans (.swap x y l)
    · exact .refl _
theorem srtT_perm (lt : α → α → Bool) : ∀ l, (srtT lt l).Perm l
  | [] => .refl _
  | x :: l => (insT_perm lt x _).trans ((srtT_perm lt l).cons x)
end
def ltI (a b : Int) : Bool := decide (a < b)
def lexI : List Int → List Int → Bool
  | [], [] => false
  | [], _ :: _ => true
  | _ :: _, [] => false
  | x :: a, y :: b => if x < y then true else if y < x then false else lexI a b
theorem dlt_int (a b : Int) : PySem.W.dataLt (.int a) (.int b) = decide (a < b) := PySem.W.dataLt_int a b
abbrev srtI (l : List Int) : List Int := srtT ltI l
theorem alike_ints (l : List Int) : alikeB (l.map .int) = true := by
  unfold alikeB
  rw [List.all_map, List.all_eq_true]
  intro a _
  show (l.map PyData.int).all _ = true
  rw [List.all_map, List.all_eq_true]
  intro b _
  rfl
theorem srtI_ok (l : List Int) : biD .srt (.list (l.map .int)) = some (.list ((srtI l).map .int)) := by
  show (if srtOk (l.map PyData.int) then some (PyData.list (sortD (l.map PyData.int))) else none) = _
  have h : srtOk (l.map PyData.int) = true := by
    unfold srtOk
    have e : (l.map PyData.int).all notNT = true := by
      rw [List.all_map, List.all_eq_true]
      exact fun _ _ => rfl
    have e2 : (l.map PyData.int).all okD = true := eI.okL (by decide) l
    rw [alike_ints, e, e2]
    simp
  rw [if_pos h]
  have z := sort_map eI (lt := ltI) (fun x y => dlt_int x y) l
  rw [show (l.map PyData.int) = l.map eI.f from rfl, z]
  rfl
end PyD

namespace PyD
open PySem PySem.Spec L2
theorem countP_fil {ι : Type} (p : ι → Bool) (l : List ι) : (((l.filter p).length : Nat) : Int) = ((l.countP p : Nat) : Int) := by rw [List.countP_eq_length_filter]
/-- how often a set is a basket -/
def xctB (r : List (List Int)) (a : List Int) : Int := ((r.count a : Nat) : Int)
theorem tab_xct {n m : Nat} {r : List (List Int)} (hl : r.length ≤ m) (hm : m ≤ 20 := by decide) : Tab n ((E n).map (xctB r)) := by
  refine ⟨List.length_map .., fun c hc => ?_⟩
  obtain ⟨a, _, rfl⟩ := List.mem_map.mp hc
  have := List.count_le_length (a := a) (l := r)
  unfold xctB
  omega
def cwoB (r : List (List Int)) (a o : List Int) : Int := ((r.countP fun b => subB a b && !(b.any fun i => o.contains i) : Nat) : Int)
def sizB (r : List (List Int)) (s : Nat) : Int := ((r.countP fun b => decide (b.length = s) : Nat) : Int)
theorem siz_fil (r : List (List Int)) (s : Nat) : (((r.filter fun b : List Int => ((b.length : Int) == (s : Int))).length : Nat) : Int) = sizB r s := by
  rw [countP_fil]
  unfold sizB
  congr 2
  funext b
  rw [Bool.eq_iff_iff]
  simp
  omega
def capS (a b : List Int) : List Int := a.filter fun i => b.contains i
def offS (a b : List Int) : List Int := a.filter fun i => !b.contains i
def orS (a b : List Int) : List Int := setI (a ++ b)
theorem k_cap : N4.all (fun n => (E n).all fun a => (E n).all fun b => (E n).contains (capS a b)) = true := by decide +kernel
theorem k_off : N4.all (fun n => (E n).all fun a => (E n).all fun b => (E n).contains (offS a b)) = true := by decide +kernel
theorem k_or : N4.all (fun n => (E n).all fun a => (E n).all fun b => (E n).contains (orS a b)) = true := by decide +kernel
section
variable {n : Nat} (hn : n ∈ N4) {a b : List Int} (ha : a ∈ E n) (hb : b ∈ E n)
include hn ha hb
theorem cap_E : capS a b ∈ E n := List.contains_iff_mem.mp (chk_EE hn k_cap ha hb)
theorem off_E : offS a b ∈ E n := List.contains_iff_mem.mp (chk_EE hn k_off ha hb)
theorem or_E : orS a b ∈ E n := List.contains_iff_mem.mp (chk_EE hn k_or ha hb)
end
section
variable {α : Type} {C : Nat → List PyData → M PyData} {K : Str → Option PyData} {δ : En} {a e : Ex} {S S' S2 S3 : Store}
theorem pick_any (em : Emb α) (l : List α) (h : Dr S) (h0 : 0 < l.length) (h1 : l.length < 1000000) : ∃ (k : Nat) (S' : Store), Dr S' ∧ k < l.length ∧ drawD (tokD 0) (.int ((l.map em.f).length : Nat)) S = .ok (k : Int) S' := by
  obtain ⟨k, S', h2, h3, h4⟩ := draw_any (l := ((l.map em.f).length : Nat)) h (by rw [List.length_map]; omega) (by rw [List.length_map]; omega)
  exact ⟨k, S', h2, by rw [List.length_map] at h3; omega, h4⟩
theorem e_pickL (em : Emb α) (d0 : α) {l : List α} {k : Nat} (h1 : ev C K a δ S = .ok (tokD 0) S') (h2 : ev C K e δ S' = .ok ((eL em).f l) S2) (hk : k < l.length) (h : drawD (tokD 0) (.int ((l.map em.f).length : Nat)) S2 = .ok (k : Int) S3) : ev C K (.pick a e) δ S = .ok (em.f (l.getD k d0)) S3 := by
  refine e_pick h1 h2 h ?_
  rw [Int.toNat_natCast, List.getElem?_map, List.getD_eq_getElem?_getD, List.getElem?_eq_getElem hk]
  rfl
end
end PyD

namespace PyD
open PySem PySem.Spec L2
section
variable {α β γ : Type}
theorem zip_rg_mem {l : List α} {p : Nat × α} (h : p ∈ (List.range l.length).zip l) : l[p.1]? = some p.2 := by
  obtain ⟨i, hi⟩ := List.getElem?_of_mem h
  have h1 := (List.getElem?_eq_some_iff.mp hi).1
  rw [List.length_zip, List.length_range, Nat.min_self] at h1
  rw [List.zip, List.getElem?_zipWith, List.getElem?_range h1, List.getElem?_eq_getElem h1] at hi
  cases hi
  exact List.getElem?_eq_getElem h1
theorem zip_rg_getD {l : List α} {f : α → β} {d : β} {p : Nat × α} (h : p ∈ (List.range l.length).zip l) : (l.map f).getD p.1 d = f p.2 := by
  rw [List.getD_eq_getElem?_getD, List.getElem?_map, zip_rg_mem h]
  rfl
theorem zip_rg_snd (l : List α) : ((List.range l.length).zip l).map Prod.snd = l := List.map_snd_zip (by rw [List.length_range]; exact Nat.le_refl _)
/-- enumerated, the place not asked for -/
theorem enum_map {l : List α} {G : Nat × α → β} (H : α → β) (h : ∀ p ∈ (List.range l.length).zip l, G p = H p.2) : ((List.range l.length).zip l).map G = l.map H := by
  rw [List.map_congr_left h, show (fun p : Nat × α => H p.2) = H ∘ Prod.snd from rfl, ← List.map_map, zip_rg_snd]
theorem foldl_congr' {l : List α} {F G : β → α → β} (h : ∀ s, ∀ p ∈ l, F s p = G s p) : ∀ s, l.foldl F s = l.foldl G s := by
  induction l with
  | nil => intro s; rfl
  | cons a l ih => intro s; rw [List.foldl_cons, List.foldl_cons, h s a List.mem_cons_self, ih fun s p hp => h s p (List.mem_cons_of_mem _ hp)]
theorem enum_foldl {l : List α} {F : β → Nat × α → β} (H : β → α → β) (h : ∀ s, ∀ p ∈ (List.range l.length).zip l, F s p = H s p.2) (s : β) : ((List.range l.length).zip l).foldl F s = l.foldl H s := by
  rw [foldl_congr' h]
  have e := zip_rg_snd l
  generalize hm : (List.range l.length).zip l = m at e
  clear hm h
  subst e
  rw [List.foldl_map]
theorem rg_getD (l : List α) (d : α) : (List.range l.length).map (fun k => l.getD k d) = l := by
  apply List.ext_getElem?
  intro i
  rw [List.getElem?_map]
  by_cases h : i < l.length
  · rw [List.getElem?_range h, List.getElem?_eq_getElem h]
    show some (l.getD i d) = _
    rw [List.getD_eq_getElem?_getD, List.getElem?_eq_getElem h]
    rfl
  · rw [List.getElem?_eq_none (by rw [List.length_range]; omega), List.getElem?_eq_none (by omega)]
    rfl
theorem map_getD (l : List α) (f : α → β) (d : α) (d' : β) {k : Nat} (h : k < l.length) : (l.map f).getD k d' = f (l.getD k d) := by
  rw [List.getD_eq_getElem?_getD, List.getElem?_map, List.getD_eq_getElem?_getD, List.getElem?_eq_getElem h]
  rfl
/-- by place, as over the list -/
theorem rg_map {l : List α} {G : Nat → β} (d : α) (H : α → β) (h : ∀ k, k < l.length → G k = H (l.getD k d)) : (List.range l.length).map G = l.map H := by
  rw [List.map_congr_left fun k hk => h k (List.mem_range.mp hk), show (fun k => H (l.getD k d)) = H ∘ (fun k => l.getD k d) from rfl, ← List.map_map, rg_getD]
theorem rg_fil {l : List α} {p : Nat → Bool} {G : Nat → β} (d : α) (P : α → Bool) (H : α → β) (hp : ∀ k, k < l.length → p k = P (l.getD k d)) (h : ∀ k, k < l.length → G k = H (l.getD k d)) : ((List.range l.length).filter p).map G = (l.filter P).map H := by
  rw [List.filter_congr fun k hk => hp k (List.mem_range.mp hk), List.map_congr_left fun k hk => h k (List.mem_range.mp (List.mem_filter.mp hk).1)]
  rw [show (fun k => H (l.getD k d)) = H ∘ (fun k => l.getD k d) from rfl, show (fun k => P (l.getD k d)) = P ∘ (fun k => l.getD k d) from rfl, ← List.map_map, ← List.filter_map, rg_getD]
theorem rg_foldl {l : List α} {F : β → Nat → β} (d : α) (H : β → α → β) (h : ∀ s k, k < l.length → F s k = H s (l.getD k d)) (s : β) : (List.range l.length).foldl F s = l.foldl H s := by
  rw [foldl_congr' fun s k hk => h s k (List.mem_range.mp hk)]
  have e := rg_getD l d
  generalize hm : List.range l.length = m at e
  have : l.foldl H s = (m.map fun k => l.getD k d).foldl H s := by rw [e]
  rw [this, List.foldl_map]
theorem cat_bd {ι β : Type} {l pre post : List ι} {u : ι} {w : ι → List β} {m : Nat} (h : l = pre ++ u :: post) (hm : (l.flatMap w).length ≤ m) : (pre.flatMap w).length + (w u).length ≤ m := by
  rw [h, List.flatMap_append, List.flatMap_cons, List.length_append, List.length_append] at hm
  omega
theorem rg_flat {l : List α} {G : Nat → List β} (d : α) (H : α → List β) (h : ∀ k, k < l.length → G k = H (l.getD k d)) : (List.range l.length).flatMap G = l.flatMap H := by
  rw [List.flatMap_def, rg_map d H h, List.flatMap_def]
theorem getD_idxOf [BEq α] [LawfulBEq α] {l : List α} {f : α → β} {d : β} {a : α} (h : a ∈ l) : (l.map f).getD (l.idxOf a) d = f a := by
  rw [List.getD_eq_getElem?_getD, List.getElem?_map, List.getElem?_eq_getElem (List.idxOf_lt_length_iff.mpr h), List.getElem_idxOf]
  rfl
end
theorem foldl_if {α : Type} (c : α → Bool) (v : α → Int) : ∀ (l : List α) (s : Int), l.foldl (fun s b => if c b then s + v b else s) s = s + (l.map fun b => if c b then v b else 0).sum
  | [], s => by simp
  | b :: l, s => by
    rw [List.foldl_cons, foldl_if c v l, List.map_cons, List.sum_cons]
    cases c b <;> simp <;> omega
theorem sum_fil {α : Type} (p : α → Bool) (v : α → Int) (l : List α) : ((l.filter p).map v).sum = (l.map fun b => if p b then v b else 0).sum := by
  induction l with
  | nil => rfl
  | cons b l ih =>
    rw [List.filter_cons, List.map_cons, List.sum_cons, ← ih]
    cases p b <;> simp
/-- the sum, over all sets, of weighted counts -/
theorem dot_cnt (l : List (List Int)) (w : List Int → Int) (r : List (List Int)) : dotE l w (cntB r) = sumR (fun x => dotE l w fun b => sup b x) r := by
  rw [show cntB r = fun b => sumR (sup b) r from funext fun b => cntB_sumR r b]
  exact dot_sumR l w sup r
theorem dot_xct (l : List (List Int)) (w : List Int → Int) (r : List (List Int)) : dotE l w (xctB r) = sumR (fun x => dotE l w fun b => isB x b) r := by
  rw [show xctB r = fun b => sumR (fun x => isB x b) r from funext fun b => count_sumR r b]
  exact dot_sumR l w (fun b x => isB x b) r
theorem sum_dotE {l : List (List Int)} {g w f : List Int → Int} (h : ∀ b ∈ l, g b = w b * f b) : (l.map g).sum = dotE l w f := by
  unfold dotE
  rw [List.map_congr_left h]
def cwo1 (a o x : List Int) : Int := if subB a x && !(x.any fun i => o.contains i) then 1 else 0
theorem cwo_sumR (r : List (List Int)) (a o : List Int) : cwoB r a o = sumR (cwo1 a o) r := sumR_countP _ r
theorem siz_sumR (r : List (List Int)) (s : Nat) : sizB r s = sumR (fun x => if decide (x.length = s) then 1 else 0) r := sumR_countP _ r
/-- sums over baskets of sets of few things, compared by the kernel -/
theorem sumR_chk {n : Nat} {r : List (List Int)} (hr : ∀ b ∈ r, b ∈ E n) {f g : List Int → Int} (h : ∀ x ∈ E n, f x = g x) : sumR f r = sumR g r := sumR_congr fun x hx => h x (hr x hx)
theorem sumR_chkle {n : Nat} {r : List (List Int)} (hr : ∀ b ∈ r, b ∈ E n) {f g : List Int → Int} (h : ∀ x ∈ E n, f x ≤ g x) : sumR f r ≤ sumR g r := sumR_le fun x hx => h x (hr x hx)
theorem sumR_app (f : List Int → Int) (r s : List (List Int)) : sumR f (r ++ s) = sumR f r + sumR f s := by simp [sumR]
theorem ne_false {α : Type} [BEq α] [LawfulBEq α] {x y : α} (h : x = y) : (!(x == y)) = false := by subst h; simp
theorem sumR_zero : ∀ r : List (List Int), sumR (fun _ => 0) r = 0
  | [] => rfl
  | x :: r => by rw [sumR_cons, sumR_zero r]; rfl
theorem cnt_nil (r : List (List Int)) : cntB r [] = (r.length : Int) := by
  unfold cntB
  congr 1
  exact List.countP_eq_length.mpr fun b _ => rfl
theorem sum_add {α : Type} (l : List α) (f g : α → Int) : (l.map fun s => f s + g s).sum = (l.map f).sum + (l.map g).sum := by
  induction l with
  | nil => rfl
  | cons s l ih =>
    simp only [List.map_cons, List.sum_cons]
    rw [ih]
    omega
/-- a sum over a list of sums over baskets -/
theorem sum_sumR {α : Type} (l : List α) (g : α → List Int → Int) (r : List (List Int)) : (l.map fun s => sumR (g s) r).sum = sumR (fun x => (l.map fun s => g s x).sum) r := by
  induction l with
  | nil =>
    show (0 : Int) = sumR (fun _ => 0) r
    induction r with
    | nil => rfl
    | cons x r ih => rw [sumR_cons, ← ih]; rfl
  | cons s l ih =>
    have e : (fun x => ((s :: l).map fun s => g s x).sum) = fun x => g s x + (l.map fun s => g s x).sum := by
      funext x
      simp
    rw [e, sumR_add, ← ih]
    simp
end PyD

namespace PyD
open PySem PySem.Spec L2
/-- what all baskets with a set have -/
def clo (n : Nat) (r : List (List Int)) (a : List Int) : List Int := (rng n).filter fun t => r.all fun b => !(subB a b) || b.contains t
theorem clo_fold (n : Nat) (r : List (List Int)) (a : List Int) : r.foldl (fun (s : List Int) (u : List Int) => (if (subB a u) then (s.filter (fun t : Int => (u.contains t))) else s)) (rng n) = clo n r a := by
  have key : ∀ (r : List (List Int)) (l : List Int), r.foldl (fun (s : List Int) (u : List Int) => (if (subB a u) then (s.filter (fun t : Int => (u.contains t))) else s)) l = l.filter fun t => r.all fun b => !(subB a b) || b.contains t := by
    intro r
    induction r with
    | nil => intro l; exact (List.filter_eq_self.mpr fun _ _ => rfl).symm
    | cons b r ih =>
      intro l
      rw [List.foldl_cons, ih]
      cases h : subB a b with
      | true =>
        rw [if_pos rfl, List.filter_filter]
        congr 1
        funext t
        rw [List.all_cons, h]
        simp [Bool.and_comm]
      | false =>
        rw [if_neg Bool.false_ne_true]
        congr 1
        funext t
        rw [List.all_cons, h]
        simp
  exact key r (rng n)
theorem fil_rng_E {n : Nat} (hn : n ∈ N4) (p : Int → Bool) : (rng n).filter p ∈ E n := by
  rcases n_cases hn with rfl | rfl | rfl | rfl
  · have e : rng 1 = [0] := rfl
    rw [e]; simp only [List.filter_cons, List.filter_nil]
    cases p 0 <;> decide
  · have e : rng 2 = [0, 1] := rfl
    rw [e]; simp only [List.filter_cons, List.filter_nil]
    cases p 0 <;> cases p 1 <;> decide
  · have e : rng 3 = [0, 1, 2] := rfl
    rw [e]; simp only [List.filter_cons, List.filter_nil]
    cases p 0 <;> cases p 1 <;> cases p 2 <;> decide
  · have e : rng 4 = [0, 1, 2, 3] := rfl
    rw [e]; simp only [List.filter_cons, List.filter_nil]
    cases p 0 <;> cases p 1 <;> cases p 2 <;> cases p 3 <;> decide
theorem clo_E {n : Nat} (hn : n ∈ N4) (r : List (List Int)) (a : List Int) : clo n r a ∈ E n := fil_rng_E hn _
theorem law_clo (n : Nat) (r : List (List Int)) (a : List Int) : (((List.range n).filter (fun u : Nat => (((r.filter (fun b : List Int => (subB a b))).filter (fun b : List Int => (!b.contains (u : Int)))) == []))).map (fun u : Nat => (u : Int))) = clo n r a := by
  unfold clo rng
  rw [List.filter_map]
  congr 1
  refine List.filter_congr fun t _ => ?_
  show _ = r.all fun b => !(subB a b) || b.contains (t : Int)
  rw [Bool.eq_iff_iff]
  simp only [beq_iff_eq, List.filter_eq_nil_iff, List.all_eq_true, List.mem_filter, and_imp, Bool.or_eq_true]
  constructor
  · intro h b hb
    cases hs : subB a b with
    | false => left; rfl
    | true => right; simpa using h b hb hs
  · intro h b hb hs
    rcases h b hb with q | q
    · rw [hs] at q; cases q
    · simpa using q
theorem subB_iff {a b : List Int} : subB a b = true ↔ ∀ t ∈ a, t ∈ b := by
  unfold subB
  simp
theorem sub_refl (a : List Int) : subB a a = true := subB_iff.mpr fun _ h => h
theorem sub_trans {a b c : List Int} (h1 : subB a b = true) (h2 : subB b c = true) : subB a c = true := subB_iff.mpr fun t h => subB_iff.mp h2 t (subB_iff.mp h1 t h)
theorem k_anti : N4.all (fun n => (E n).all fun a => (E n).all fun b => !(subB a b && subB b a) || a == b) = true := by decide +kernel
theorem k_full : N4.all (fun n => (E n).all fun a => subB a (rng n)) = true := by decide +kernel
theorem k_ext : N4.all (fun n => (E n).all fun a => (rng n).filter (fun t => a.contains t) == a) = true := by decide +kernel
section
variable {n : Nat} (hn : n ∈ N4) {r : List (List Int)} {a b : List Int}
include hn
theorem sub_anti (ha : a ∈ E n) (hb : b ∈ E n) (h1 : subB a b = true) (h2 : subB b a = true) : a = b := by
  have z := chk_EE hn k_anti ha hb
  rw [h1, h2] at z
  simpa using z
theorem sub_full (ha : a ∈ E n) : subB a (rng n) = true := chk_E hn k_full ha
theorem mem_rng {t : Int} (ha : a ∈ E n) (h : t ∈ a) : t ∈ rng n := subB_iff.mp (sub_full hn ha) t h
omit hn in
theorem mem_clo {t : Int} : t ∈ clo n r a ↔ t ∈ rng n ∧ ∀ b ∈ r, subB a b = true → t ∈ b := by
  unfold clo
  rw [List.mem_filter]
  simp only [List.all_eq_true, Bool.or_eq_true]
  constructor
  · rintro ⟨h1, h2⟩
    refine ⟨h1, fun b hb hs => ?_⟩
    rcases h2 b hb with q | q
    · rw [hs] at q; cases q
    · simpa using q
  · rintro ⟨h1, h2⟩
    refine ⟨h1, fun b hb => ?_⟩
    cases hs : subB a b with
    | false => left; rfl
    | true => right; simpa using h2 b hb hs
/-- a set is in its closure -/
theorem clo_ext (ha : a ∈ E n) : subB a (clo n r a) = true := subB_iff.mpr fun t h => mem_clo.mpr ⟨mem_rng hn ha h, fun b _ hs => subB_iff.mp hs t h⟩
omit hn in
theorem clo_mono (h : subB a b = true) : subB (clo n r a) (clo n r b) = true := subB_iff.mpr fun t ht => by
  obtain ⟨h1, h2⟩ := mem_clo.mp ht
  exact mem_clo.mpr ⟨h1, fun c hc hs => h2 c hc (sub_trans h hs)⟩
omit hn in
/-- the baskets with a set have its closure -/
theorem clo_sub {x : List Int} (hx : x ∈ r) : subB (clo n r a) x = true ↔ (∀ t ∈ clo n r a, t ∈ x) := subB_iff
theorem clo_in (ha : a ∈ E n) {x : List Int} (hx : x ∈ r) : subB (clo n r a) x = subB a x := by
  rw [Bool.eq_iff_iff]
  constructor
  · exact fun h => sub_trans (clo_ext hn ha) h
  · exact fun h => subB_iff.mpr fun t ht => (mem_clo.mp ht).2 x hx h
theorem clo_idem (ha : a ∈ E n) : clo n r (clo n r a) = clo n r a := by
  show (rng n).filter (fun t => r.all fun b => !(subB (clo n r a) b) || b.contains t) = (rng n).filter fun t => r.all fun b => !(subB a b) || b.contains t
  refine List.filter_congr fun t _ => ?_
  rw [Bool.eq_iff_iff]
  simp only [List.all_eq_true]
  constructor
  · intro h b hb
    have z := h b hb
    rw [show subB _ b = subB a b from clo_in hn ha hb] at z
    exact z
  · intro h b hb
    rw [show subB _ b = subB a b from clo_in hn ha hb]
    exact h b hb
theorem clo_cnt (ha : a ∈ E n) : cntB r (clo n r a) = cntB r a := by
  unfold cntB
  congr 1
  exact List.countP_congr fun x hx => by rw [clo_in hn ha hx]
end
def ltP (p q : Int × List Int) : Bool := if p.1 == q.1 then (if p.2 == q.2 then false else decide (p.2 < q.2)) else decide (p.1 < q.1)
abbrev srtP (l : List (Int × List Int)) : List (Int × List Int) := srtT ltP l
theorem alike_tup (a b : List Int) : PySem.W.alike (tupD a) (tupD b) = true := by
  show PySem.W.alikeAll (a.map .int) (b.map .int) = true
  induction a generalizing b with
  | nil => cases b <;> rfl
  | cons x a ih =>
    cases b with
    | nil => rfl
    | cons y b =>
      show (PySem.W.alike (.int x) (.int y) && PySem.W.alikeAll (a.map .int) (b.map .int)) = true
      rw [ih b]
      rfl
theorem dlt_tup (a b : List Int) : PySem.W.dataLt (tupD a) (tupD b) = decide (a < b) := by
  show PySem.W.dataLt (.tuple (a.map .int)) (.tuple (b.map .int)) = _
  rw [PySem.W.dataLt_tuple]
  exact PySem.W.dataLt_ints a b
theorem dlt_P (p q : Int × List Int) : PySem.W.dataLt ((eP eI eS).f p) ((eP eI eS).f q) = ltP p q := by
  show PySem.W.dataLt (.tuple [.int p.1, tupD p.2]) (.tuple [.int q.1, tupD q.2]) = _
  rw [PySem.W.dataLt_pair rfl (alike_tup _ _), dlt_tup, dlt_int]
  unfold ltP
  rw [show PyData.eqv (.int p.1) (.int q.1) = (p.1 == q.1) from eI.eqv _ _, show PyData.eqv (tupD p.2) (tupD q.2) = (p.2 == q.2) from eS.eqv _ _]
theorem srtP_ok (l : List (Int × List Int)) : biD .srt ((eL (eP eI eS)).f l) = some ((eL (eP eI eS)).f (srtP l)) := by
  show (if srtOk (l.map (eP eI eS).f) then some (PyData.list (sortD (l.map (eP eI eS).f))) else none) = _
  have h : srtOk (l.map (eP eI eS).f) = true := by
    have e1 : alikeB (l.map (eP eI eS).f) = true := by
      unfold alikeB
      rw [List.all_map, List.all_eq_true]
      intro a _
      show (l.map (eP eI eS).f).all _ = true
      rw [List.all_map, List.all_eq_true]
      intro b _
      show (PySem.W.alike (.int a.1) (.int b.1) && (PySem.W.alike (tupD a.2) (tupD b.2) && true)) = true
      rw [alike_tup]
      rfl
    have e : (l.map (eP eI eS).f).all tupNe = true := by
      rw [List.all_map, List.all_eq_true]
      exact fun _ _ => rfl
    have e2 : (l.map (eP eI eS).f).all okD = true := (eP eI eS).okL (by decide) l
    unfold srtOk
    rw [e1, e, e2]
    rfl
  rw [if_pos h, sort_map (eP eI eS) dlt_P l]
  rfl
def keyP (b : List Int) : Int × List Int := ((b.length : Int), b)
/-- baskets in the order of all sets -/
def ordB (r : List (List Int)) : List (List Int) := (srtP (r.map keyP)).map fun p => p.2
theorem ins_flat {α : Type} [BEq α] [LawfulBEq α] (lt : α → α → Bool) (hirr : ∀ x, lt x x = false) (x : α) (c : α → Nat) : ∀ L : List α, L.Pairwise (fun a b => lt a b = true ∧ lt b a = false) → x ∈ L →
    insT lt x (L.flatMap fun a => List.replicate (c a) a) = L.flatMap fun a => List.replicate (c a + if x == a then 1 else 0) a
  | [], _, h => by cases h
  | a :: L, hp, h => by
    obtain ⟨h1, h2⟩ := List.pairwise_cons.mp hp
    rw [List.flatMap_cons, List.flatMap_cons]
    by_cases e : x = a
    · subst e
      have e1 : (L.flatMap fun a => List.replicate (c a + if x == a then 1 else 0) a) = L.flatMap fun a => List.replicate (c a) a := by
        rw [List.flatMap_def, List.flatMap_def]
        congr 1
        refine List.map_congr_left fun b hb => ?_
        have ne : (x == b) = false := by
          rw [beq_eq_false_iff_ne]
          intro q
          have := (h1 b hb).1
          rw [← q, hirr] at this
          cases this
        rw [ne]
        rfl
      rw [e1, beq_self_eq_true, if_pos rfl, List.replicate_succ, List.cons_append]
      cases hk : c x with
      | succ k =>
        rw [List.replicate_succ, List.cons_append]
        show (if lt x x then _ else _) = _
        rw [hirr, if_neg Bool.false_ne_true]
      | zero =>
        rw [List.replicate_zero, List.nil_append]
        cases hr : L.flatMap fun a => List.replicate (c a) a with
        | nil => rfl
        | cons y ys =>
          show (if lt y x then _ else _) = _
          have hy : y ∈ L.flatMap fun a => List.replicate (c a) a := by rw [hr]; exact List.mem_cons_self
          obtain ⟨b, hb, hb2⟩ := List.mem_flatMap.mp hy
          rw [List.eq_of_mem_replicate hb2, (h1 b hb).2, if_neg Bool.false_ne_true]
    · have hx : x ∈ L := by
        rcases List.mem_cons.mp h with q | q
        · exact absurd q e
        · exact q
      have ne : (x == a) = false := beq_eq_false_iff_ne.mpr e
      rw [ne]
      have go : ∀ k, insT lt x (List.replicate k a ++ L.flatMap fun a => List.replicate (c a) a) = List.replicate k a ++ insT lt x (L.flatMap fun a => List.replicate (c a) a) := by
        intro k
        induction k with
        | zero => rfl
        | succ k ih =>
          rw [List.replicate_succ, List.cons_append]
          show (if lt a x then a :: insT lt x _ else _) = _
          rw [(h1 x hx).1, if_pos rfl, ih]
          rfl
      rw [go, ins_flat lt hirr x c L h2 hx]
      rfl
theorem ltP_irr (p : Int × List Int) : ltP p p = false := by simp [ltP]
theorem k_ord : N4.all (fun n => decide (((E n).map keyP).Pairwise (fun a b => ltP a b = true ∧ ltP b a = false))) = true := by decide +kernel
theorem beq_key (x a : List Int) : (keyP x == keyP a) = (x == a) := by
  rw [Bool.eq_iff_iff]
  simp only [beq_iff_eq]
  constructor
  · exact fun h => congrArg Prod.snd h
  · rintro rfl; rfl
theorem ord_key {n : Nat} (hn : n ∈ N4) : ∀ r : List (List Int), (∀ b ∈ r, b ∈ E n) → srtP (r.map keyP) = ((E n).map keyP).flatMap fun p => List.replicate (r.count p.2) p
  | [], _ => by
    exact (List.flatMap_eq_nil_iff.mpr fun p _ => rfl).symm
  | x :: r, h => by
    show insT ltP (keyP x) (srtP (r.map keyP)) = _
    rw [ord_key hn r fun b hb => h b (List.mem_cons_of_mem _ hb)]
    have hp : ((E n).map keyP).Pairwise (fun a b => ltP a b = true ∧ ltP b a = false) := of_decide_eq_true (List.all_eq_true.mp k_ord n hn)
    rw [ins_flat ltP ltP_irr (keyP x) (fun p => r.count p.2) _ hp (List.mem_map.mpr ⟨x, h x List.mem_cons_self, rfl⟩)]
    rw [List.flatMap_def, List.flatMap_def]
    congr 1
    refine List.map_congr_left fun p hp2 => ?_
    obtain ⟨b, hb, rfl⟩ := List.mem_map.mp hp2
    rw [beq_key, List.count_cons]
    rfl
/-- in order: each set as often as it is a basket -/
theorem ord_rep {n : Nat} (hn : n ∈ N4) {r : List (List Int)} (hr : ∀ b ∈ r, b ∈ E n) : ordB r = (E n).flatMap fun a => List.replicate (r.count a) a := by
  unfold ordB
  rw [ord_key hn r hr, List.map_flatMap, List.flatMap_map]
  rw [List.flatMap_def, List.flatMap_def]
  congr 1
  refine List.map_congr_left fun a _ => ?_
  rw [List.map_replicate]
  rfl
theorem ord_perm (r : List (List Int)) : (ordB r).Perm r := by
  have z := (srtT_perm ltP (r.map keyP)).map fun p : Int × List Int => p.2
  rw [List.map_map] at z
  have e : (fun p : Int × List Int => p.2) ∘ keyP = id := rfl
  rw [e, List.map_id] at z
  exact z
theorem ord_R {n : Nat} {r : List (List Int)} (hr : ∀ b ∈ r, b ∈ E n) : ∀ b ∈ ordB r, b ∈ E n := fun b hb => hr b ((ord_perm r).mem_iff.mp hb)
theorem ord_len {r : List (List Int)} {k : Nat} (h : r.length ≤ k) : (ordB r).length ≤ k := by rw [(ord_perm r).length_eq]; exact h
end PyD

namespace PyD
open PySem PySem.Spec L2
theorem maxI_sp : ∀ (l : List Int) (m : Int), m ≤ maxI m l ∧ (∀ x ∈ l, x ≤ maxI m l) ∧ (maxI m l = m ∨ maxI m l ∈ l)
  | [], m => ⟨Int.le_refl _, fun x h => (nomatch h), .inl rfl⟩
  | y :: l, m => by
    obtain ⟨h1, h2, h3⟩ := maxI_sp l (if m < y then y else m)
    have e : maxI m (y :: l) = maxI (if m < y then y else m) l := rfl
    rw [e]
    refine ⟨?_, fun x hx => ?_, ?_⟩
    · refine Int.le_trans ?_ h1
      split <;> omega
    · rcases List.mem_cons.mp hx with q | q
      · subst q
        refine Int.le_trans ?_ h1
        split <;> omega
      · exact h2 x q
    · rcases h3 with q | q
      · by_cases hm : m < y
        · rw [if_pos hm] at q
          rw [if_pos hm, q]
          exact .inr List.mem_cons_self
        · rw [if_neg hm] at q
          rw [if_neg hm, q]
          exact .inl rfl
      · exact .inr (List.mem_cons_of_mem _ q)
theorem mxL_spec {l : List Int} (h : l ≠ []) : (∀ x ∈ l, x ≤ mxL l) ∧ mxL l ∈ l := by
  cases l with
  | nil => exact absurd rfl h
  | cons m l =>
    obtain ⟨h1, h2, h3⟩ := maxI_sp l m
    refine ⟨fun x hx => ?_, ?_⟩
    · rcases List.mem_cons.mp hx with q | q
      · rw [q]; exact h1
      · exact h2 x q
    · rcases h3 with q | q
      · show maxI m l ∈ _
        rw [q]; exact List.mem_cons_self
      · exact List.mem_cons_of_mem _ q
theorem mxL_eq {l : List Int} {m : Int} (h1 : ∀ x ∈ l, x ≤ m) (h2 : m ∈ l) : mxL l = m := by
  obtain ⟨a, b⟩ := mxL_spec (l := l) (fun e => by rw [e] at h2; cases h2)
  have := a m h2
  have := h1 _ b
  omega
theorem minI_sp : ∀ (l : List Int) (m : Int), minI m l ≤ m ∧ (∀ x ∈ l, minI m l ≤ x) ∧ (minI m l = m ∨ minI m l ∈ l)
  | [], m => ⟨Int.le_refl _, fun x h => (nomatch h), .inl rfl⟩
  | y :: l, m => by
    obtain ⟨h1, h2, h3⟩ := minI_sp l (if y < m then y else m)
    have e : minI m (y :: l) = minI (if y < m then y else m) l := rfl
    rw [e]
    refine ⟨?_, fun x hx => ?_, ?_⟩
    · refine Int.le_trans h1 ?_
      split <;> omega
    · rcases List.mem_cons.mp hx with q | q
      · subst q
        refine Int.le_trans h1 ?_
        split <;> omega
      · exact h2 x q
    · rcases h3 with q | q
      · by_cases hm : y < m
        · rw [if_pos hm] at q
          rw [if_pos hm, q]
          exact .inr List.mem_cons_self
        · rw [if_neg hm] at q
          rw [if_neg hm, q]
          exact .inl rfl
      · exact .inr (List.mem_cons_of_mem _ q)
theorem mnL_spec {l : List Int} (h : l ≠ []) : (∀ x ∈ l, mnL l ≤ x) ∧ mnL l ∈ l := by
  cases l with
  | nil => exact absurd rfl h
  | cons m l =>
    obtain ⟨h1, h2, h3⟩ := minI_sp l m
    refine ⟨fun x hx => ?_, ?_⟩
    · rcases List.mem_cons.mp hx with q | q
      · rw [q]; exact h1
      · exact h2 x q
    · rcases h3 with q | q
      · show minI m l ∈ _
        rw [q]; exact List.mem_cons_self
      · exact List.mem_cons_of_mem _ q
/-- the least is not below k exactly if none is -/
theorem mnL_le {l : List Int} (h : l ≠ []) (k : Int) : decide (k ≤ mnL l) = l.all fun x => decide (k ≤ x) := by
  obtain ⟨a, b⟩ := mnL_spec h
  rw [Bool.eq_iff_iff, decide_eq_true_eq, List.all_eq_true]
  constructor
  · intro q x hx
    have := a x hx
    exact decide_eq_true (by omega)
  · exact fun q => of_decide_eq_true (q _ b)
theorem cnt_anti {r : List (List Int)} {a b : List Int} (h : subB a b = true) : cntB r b ≤ cntB r a := by
  unfold cntB
  have : r.countP (subB b) ≤ r.countP (subB a) := List.countP_mono_left fun x _ q => sub_trans h q
  omega
theorem cnt_same : ∀ {r : List (List Int)} {p q : List Int → Bool}, (∀ x ∈ r, p x = true → q x = true) → r.countP p = r.countP q → ∀ x ∈ r, q x = true → p x = true
  | [], _, _, _, _, x, hx, _ => by cases hx
  | y :: r, p, q, h, e, x, hx, hq => by
    have hm : r.countP p ≤ r.countP q := List.countP_mono_left fun z hz => h z (List.mem_cons_of_mem _ hz)
    rw [List.countP_cons, List.countP_cons] at e
    have hy := h y List.mem_cons_self
    cases hpy : p y with
    | true =>
      rw [hpy, hy hpy] at e
      rcases List.mem_cons.mp hx with z | z
      · rw [z]; exact hpy
      · exact cnt_same (fun z hz => h z (List.mem_cons_of_mem _ hz)) (by simpa using e) x z hq
    | false =>
      cases hqy : q y with
      | true =>
        rw [hpy, hqy] at e
        simp at e
        omega
      | false =>
        rw [hpy, hqy] at e
        rcases List.mem_cons.mp hx with z | z
        · rw [z, hqy] at hq; cases hq
        · exact cnt_same (fun z hz => h z (List.mem_cons_of_mem _ hz)) (by simpa using e) x z hq
section
variable {n : Nat} (hn : n ∈ N4) {r : List (List Int)} {a b : List Int}
include hn
theorem clo_full (r : List (List Int)) : clo n r (rng n) = rng n := by
  have h1 := clo_ext hn (r := r) (rng_E hn)
  exact sub_anti hn (clo_E hn r _) (rng_E hn) (sub_full hn (clo_E hn r _)) h1
theorem tbc_ne (r : List (List Int)) {u : List Int} (hu : u ∈ E n) : (((((E n).filter (fun u1 : List Int => ((clo n r u1) == u1))).map (fun u1 : List Int => (u1, (cntB r u1)))).filter (fun u6 : (List Int × Int) => (subB u u6.1))).map (fun u6 : (List Int × Int) => u6.2)) ≠ [] := by
  have h : (rng n, cntB r (rng n)) ∈ ((((E n).filter (fun u1 : List Int => ((clo n r u1) == u1))).map (fun u1 : List Int => (u1, (cntB r u1)))).filter (fun u6 : (List Int × Int) => (subB u u6.1))) :=
    List.mem_filter.mpr ⟨List.mem_map.mpr ⟨rng n, List.mem_filter.mpr ⟨rng_E hn, by rw [clo_full hn]; simp⟩, rfl⟩, sub_full hn hu⟩
  intro e
  rw [List.map_eq_nil_iff] at e
  rw [e] at h
  cases h
omit hn in
theorem tbc (hn : n ∈ N4) (hr : ∀ b ∈ r, b ∈ E n) : ((E n).map (fun u3 : List Int => (mxL (((((E n).filter (fun u1 : List Int => ((clo n r u1) == u1))).map (fun u1 : List Int => (u1, (cntB r u1)))).filter (fun u6 : (List Int × Int) => (subB u3 u6.1))).map (fun u6 : (List Int × Int) => u6.2))))) = ((E n).map (cntB r)) := by
  refine List.map_congr_left fun u hu => mxL_eq (fun x hx => ?_) ?_
  · obtain ⟨p, hp, rfl⟩ := List.mem_map.mp hx
    obtain ⟨hp1, hp2⟩ := List.mem_filter.mp hp
    obtain ⟨v, hv, rfl⟩ := List.mem_map.mp hp1
    exact cnt_anti hp2
  · refine List.mem_map.mpr ⟨(clo n r u, cntB r (clo n r u)), List.mem_filter.mpr ⟨List.mem_map.mpr ⟨clo n r u, List.mem_filter.mpr ⟨clo_E hn r u, by rw [clo_idem hn hu]; simp⟩, rfl⟩, clo_ext hn hu⟩, clo_cnt hn hu⟩
end
def keysB (n : Nat) (r : List (List Int)) (a : List Int) : List (List Int) := ((E n).filter (fun u => clo n r u == clo n r a)).filter fun u => !(((E n).filter (fun u => clo n r u == clo n r a)).any fun v => (!(v == u)) && subB v u)
def clsB (n : Nat) (r : List (List Int)) : List (List (List Int)) := ((E n).filter fun u => clo n r u == u).map fun g => (E n).filter fun u => clo n r u == g
/-- none of a list that.. -/
theorem fil_any {α : Type} [BEq α] [LawfulBEq α] (p : α → Bool) (l : List α) : (l.filter p == []) = !l.any p := by
  rw [Bool.eq_iff_iff]
  simp [List.filter_eq_nil_iff]
theorem sum_one {α : Type} [BEq α] [LawfulBEq α] {x : α} : ∀ {G : List α}, G.Nodup → x ∈ G → (G.map fun g => if x == g then (1 : Int) else 0).sum = 1
  | [], _, h => by cases h
  | g :: G, hn, h => by
    obtain ⟨h1, h2⟩ := List.nodup_cons.mp hn
    rw [List.map_cons, List.sum_cons]
    by_cases e : x = g
    · subst e
      have z : (G.map fun g => if x == g then (1 : Int) else 0).sum = 0 := by
        have : G.map (fun g => if x == g then (1 : Int) else 0) = G.map fun _ => 0 := List.map_congr_left fun g hg => by
          rw [if_neg]
          intro q
          rw [beq_iff_eq] at q
          exact h1 (q ▸ hg)
        rw [this]
        clear this h1 h2 hn h
        induction G with
        | nil => rfl
        | cons g G ih => rw [List.map_cons, List.sum_cons, ih]; rfl
      rw [z, beq_self_eq_true]
      rfl
    · rw [if_neg (by rw [beq_iff_eq]; exact e), sum_one h2 ((List.mem_cons.mp h).resolve_left e)]
      rfl
/-- all things sorted by what f makes of them -/
theorem sum_cls {α β : Type} [BEq β] [LawfulBEq β] (f : α → β) {G : List β} (hG : G.Nodup) : ∀ l : List α, (∀ u ∈ l, f u ∈ G) → (G.map fun g => (((l.filter fun u => f u == g).length : Nat) : Int)).sum = (l.length : Int)
  | [], _ => by
    have z : ∀ G : List β, (G.map fun _ => (0 : Int)).sum = 0 := by
      intro G
      induction G with
      | nil => rfl
      | cons g G ih => rw [List.map_cons, List.sum_cons, ih]; rfl
    exact z G
  | u :: l, h => by
    have e : (fun g => ((((u :: l).filter fun u => f u == g).length : Nat) : Int)) = fun g => (((l.filter fun u => f u == g).length : Nat) : Int) + (if f u == g then 1 else 0) := by
      funext g
      rw [List.filter_cons]
      split <;> simp
    rw [e, sum_add, sum_cls f hG l fun v hv => h v (List.mem_cons_of_mem _ hv), sum_one hG (h u List.mem_cons_self), List.length_cons]
    omega
theorem k_nd : N4.all (fun n => decide (E n).Nodup) = true := by decide +kernel
theorem E_nd {n : Nat} (hn : n ∈ N4) : (E n).Nodup := of_decide_eq_true (List.all_eq_true.mp k_nd n hn)
end PyD

namespace PyD
open PySem PySem.Spec L2
def oftB (n : Nat) (r : List (List Int)) (x : Int) : List (List Int) := (E n).filter fun u => decide (x ≤ cntB r u)
def topB (n : Nat) (r : List (List Int)) (x : Int) : List (List Int) := (oftB n r x).filter fun u => !((oftB n r x).any fun v => (!(v == u)) && subB u v)
def rareB (n : Nat) (r : List (List Int)) (x : Int) : List (List Int) := (E n).filter fun u => !(oftB n r x).contains u
def lowB (n : Nat) (r : List (List Int)) (x : Int) : List (List Int) := (rareB n r x).filter fun u => !((rareB n r x).any fun v => (!(v == u)) && subB v u)
def glmB (n : Nat) (r : List (List Int)) (s : Nat) : Int := mxL (((E n).filter fun u => decide ((s : Int) ≤ (u.length : Int))).map fun u => cntB r u)
def nblB (n : Nat) (r : List (List Int)) : List Int := (List.range' 1 (r.length + 1 - 1)).map fun u : Nat => (((oftB n r (u : Int)).length : Nat) : Int)
theorem rng_len (n : Nat) : (rng n).length = n := by simp [rng]
theorem glm_mem {n : Nat} (hn : n ∈ N4) {s : Nat} (hs : s ≤ n) : rng n ∈ (E n).filter fun u : List Int => decide ((s : Int) ≤ (u.length : Int)) := List.mem_filter.mpr ⟨rng_E hn, decide_eq_true (by rw [rng_len]; omega)⟩
theorem glm_ne {n : Nat} {r : List (List Int)} (hn : n ∈ N4) {s : Nat} (hs : s ≤ n) : (((E n).filter fun u : List Int => decide ((s : Int) ≤ (u.length : Int))).map fun u : List Int => cntB r u) ≠ [] := fun e => by
  rw [List.map_eq_nil_iff] at e
  have := glm_mem hn hs
  rw [e] at this
  cases this
end PyD

namespace PyD
open PySem PySem.Spec L2
theorem k_idx : N4.all (fun n => (E n).map (fun b => (E n).idxOf b) == List.range (E n).length) = true := by decide +kernel
/-- a table's count of a set -/
def tf (n : Nat) (cs : List Int) (b : List Int) : Int := cs.getD ((E n).idxOf b) 0
theorem dot_dot (l : List (List Int)) (w : List Int → Int) (g : List Int → List Int → Int) (t : List Int → Int) : dotE l w (fun b => dotE l (g b) t) = dotE l (fun c => dotE l w fun b => g b c) t := by
  unfold dotE
  have key : ∀ (l m : List (List Int)), (l.map fun b => w b * (m.map fun c => g b c * t c).sum).sum = (m.map fun c => (l.map fun b => w b * g b c).sum * t c).sum := by
    intro l m
    induction m with
    | nil =>
      simp only [List.map_nil, List.sum_nil, Int.mul_zero]
      induction l with
      | nil => rfl
      | cons b l ih => rw [List.map_cons, List.sum_cons, ih]; rfl
    | cons c m ih =>
      simp only [List.map_cons, List.sum_cons]
      rw [← ih]
      rw [show (l.map fun b => w b * (g b c * t c + (m.map fun c => g b c * t c).sum)) = l.map fun b => w b * g b c * t c + w b * (m.map fun c => g b c * t c).sum from List.map_congr_left fun b _ => by rw [Int.mul_add, Int.mul_assoc], sum_add]
      congr 1
      clear ih
      induction l with
      | nil => simp
      | cons b l ih => rw [List.map_cons, List.map_cons, List.sum_cons, List.sum_cons, ih, Int.add_mul]
  exact key l l
theorem dot_pick {l : List (List Int)} (hl : l.Nodup) {a : List Int} (ha : a ∈ l) (t : List Int → Int) : dotE l (fun c => if a == c then 1 else 0) t = t a := by
  unfold dotE
  induction l with
  | nil => cases ha
  | cons b l ih =>
    obtain ⟨h1, h2⟩ := List.nodup_cons.mp hl
    rw [List.map_cons, List.sum_cons]
    dsimp only at ih ⊢
    by_cases e : a = b
    · subst e
      have z : (l.map fun c => (if a == c then (1 : Int) else 0) * t c) = l.map fun _ => 0 := List.map_congr_left fun c hc => by
        rw [if_neg (by rw [beq_iff_eq]; intro q; exact h1 (q ▸ hc))]
        simp
      have z2 : ∀ l : List (List Int), (l.map fun _ => (0 : Int)).sum = 0 := by
        intro l
        induction l with
        | nil => rfl
        | cons c l ih => rw [List.map_cons, List.sum_cons, ih]; rfl
      rw [z, z2, beq_self_eq_true]
      simp
    · rw [if_neg (by rw [beq_iff_eq]; exact e), ih h2 ((List.mem_cons.mp ha).resolve_left e)]
      simp
theorem dot_wcongr {l : List (List Int)} {w v : List Int → Int} (h : ∀ b ∈ l, w b = v b) (t : List Int → Int) : dotE l w t = dotE l v t := by
  unfold dotE
  rw [List.map_congr_left fun b hb => by rw [h b hb]]
theorem dot_bd {l : List (List Int)} {w t : List Int → Int} (h : ∀ b ∈ l, -20 ≤ w b * t b ∧ w b * t b ≤ 20) : -20 * (l.length : Int) ≤ dotE l w t ∧ dotE l w t ≤ 20 * (l.length : Int) := by
  unfold dotE
  induction l with
  | nil => simp
  | cons b l ih =>
    rw [List.map_cons, List.sum_cons, List.length_cons]
    have h1 := h b List.mem_cons_self
    have h2 := ih fun c hc => h c (List.mem_cons_of_mem _ hc)
    omega
theorem flat_len {α : Type} (k : α → Nat) (m : Nat) : ∀ l : List α, (∀ a ∈ l, k a ≤ m) → (l.flatMap fun a => List.replicate (k a) a).length ≤ l.length * m
  | [], _ => by simp
  | a :: l, h => by
    rw [List.flatMap_cons, List.length_append, List.length_replicate, List.length_cons, Nat.add_mul]
    have h1 := h a List.mem_cons_self
    have h2 := flat_len k m l fun b hb => h b (List.mem_cons_of_mem _ hb)
    omega
theorem count_flat (k : List Int → Nat) {a : List Int} : ∀ {l : List (List Int)}, l.Nodup → a ∈ l → (l.flatMap fun b => List.replicate (k b) b).count a = k a
  | [], _, h => by cases h
  | b :: l, hn, h => by
    obtain ⟨h1, h2⟩ := List.nodup_cons.mp hn
    rw [List.flatMap_cons, List.count_append, List.count_replicate]
    by_cases e : a = b
    · subst e
      have z : (l.flatMap fun b => List.replicate (k b) b).count a = 0 := List.count_eq_zero.mpr fun q => by
        obtain ⟨c, hc, hc2⟩ := List.mem_flatMap.mp q
        rw [List.eq_of_mem_replicate hc2] at h1
        exact h1 hc
      rw [z, beq_self_eq_true]
      simp
    · rw [if_neg (by rw [beq_iff_eq]; exact fun q => e q.symm), count_flat k h2 ((List.mem_cons.mp h).resolve_left e)]
      simp
def canB (n : Nat) (cs : List Int) : Bool := ((E n).map (mobA n cs)).all fun x => decide ((0 : Int) ≤ x)
def bfB (n : Nat) (cs : List Int) : List (List Int) := ((E n).zip ((E n).map (mobA n cs))).flatMap fun u => List.replicate u.2.toNat u.1
def fbD (n : Nat) (cs : List Int) : PyData := match ((E n).zip ((E n).map (mobA n cs))).find? fun u => decide (u.2 < (0 : Int)) with
  | some u => (eP eS eI).f u
  | none => .none
theorem fb_some {n : Nat} {cs : List Int} {u : List Int × Int} (h : ((E n).zip ((E n).map (mobA n cs))).find? (fun u => decide (u.2 < (0 : Int))) = some u) : SRes.ret (fbD n cs) [] = SRes.ret ((eP eS eI).f u) [] := by
  unfold fbD
  rw [h]
theorem fb_non {n : Nat} {cs : List Int} (h : ((E n).zip ((E n).map (mobA n cs))).find? (fun u => decide (u.2 < (0 : Int))) = none) : fbD n cs = .none := by
  unfold fbD
  rw [h]
theorem can_find (n : Nat) (cs : List Int) : canB n cs = (((E n).zip ((E n).map (mobA n cs))).find? (fun u => decide (u.2 < (0 : Int)))).isNone := by
  rw [zip_map']
  unfold canB
  generalize E n = l
  induction l with
  | nil => rfl
  | cons b l ih =>
    rw [List.map_cons, List.all_cons, List.map_cons, ih]
    by_cases h : mobA n cs b < 0
    · rw [List.find?_cons_of_pos (by exact decide_eq_true h), decide_eq_false (by omega)]
      rfl
    · rw [List.find?_cons_of_neg (by show ¬ decide _ = true; rw [decide_eq_false h]; exact Bool.false_ne_true), decide_eq_true (by omega), Bool.true_and]
theorem fb_none (n : Nat) (cs : List Int) : cmpD .is_ (fbD n cs) .none = some (.bool (canB n cs)) := by
  rw [can_find]
  unfold fbD
  cases ((E n).zip ((E n).map (mobA n cs))).find? fun u => decide (u.2 < (0 : Int)) with
  | some u => rfl
  | none => rfl
theorem fb_nt (n : Nat) (cs : List Int) : noTok (fbD n cs) = true := by
  unfold fbD
  split
  · exact (eP eS eI).nt _
  · rfl
theorem zip_fst {n : Nat} {l : List Int} {u : List Int × Int} (h : u ∈ (E n).zip l) : u.1 ∈ E n := (List.of_mem_zip h).1
theorem bf_flat (n : Nat) (cs : List Int) : bfB n cs = (E n).flatMap fun a => List.replicate (mobA n cs a).toNat a := by
  unfold bfB
  rw [zip_map', List.flatMap_map]
theorem bf_R (n : Nat) (cs : List Int) : ∀ b ∈ bfB n cs, b ∈ E n := fun b hb => by
  rw [bf_flat] at hb
  obtain ⟨c, hc, hc2⟩ := List.mem_flatMap.mp hb
  rw [List.eq_of_mem_replicate hc2]
  exact hc
theorem k_mob : N4.all (fun n => (E n).all fun a => (E n).all fun c => decide (dotE (E n) (sup a) (fun b => coef b c) = if a == c then 1 else 0)) = true := by decide +kernel
theorem k_coef : N4.all (fun n => (E n).all fun a => (E n).all fun c => decide (dotE (E n) (fun _ => 1) (fun b => coef b c) = if ([] : List Int) == c then 1 else 0)) = true := by decide +kernel
theorem k_c1 : N4.all (fun n => (E n).all fun a => (E n).all fun c => decide (coef a c = 1 ∨ coef a c = 0 ∨ coef a c = -1)) = true := by decide +kernel
section
variable {n : Nat} (hn : n ∈ N4) {cs : List Int}
include hn
theorem tf_map (h : cs.length = (E n).length) : (E n).map (tf n cs) = cs := by
  have e : (E n).map (tf n cs) = ((E n).map fun b => (E n).idxOf b).map fun k => cs.getD k 0 := by
    rw [List.map_map]
    rfl
  rw [e, beq_iff_eq.mp (List.all_eq_true.mp k_idx n hn), ← h, rg_getD]
theorem tf_bd (h : Tab n cs) {b : List Int} (hb : b ∈ E n) : 0 ≤ tf n cs b ∧ tf n cs b ≤ 20 := by
  refine h.2 _ ?_
  have : tf n cs b ∈ (E n).map (tf n cs) := List.mem_map.mpr ⟨b, hb, rfl⟩
  rw [tf_map hn h.1] at this
  exact this
theorem mob_tf (h : cs.length = (E n).length) (a : List Int) : mobA n cs a = dotE (E n) (coef a) (tf n cs) := by
  have z := mob_dot n (tf n cs) a
  rw [tf_map hn h] at z
  exact z
omit hn in
theorem mob_ne (hn : n ∈ N4) (cs : List Int) : (E n).map (mobA n cs) ≠ [] := fun e => by
  rw [List.map_eq_nil_iff] at e
  have := E_nil hn
  rw [e] at this
  cases this
theorem mob_bd320 (h : Tab n cs) {a : List Int} (ha : a ∈ E n) : -320 ≤ mobA n cs a ∧ mobA n cs a ≤ 320 := by
  rw [mob_tf hn h.1]
  have z := dot_bd (l := E n) (w := coef a) (t := tf n cs) fun b hb => by
    have h1 := tf_bd hn h hb
    rcases of_decide_eq_true (chk_EE hn k_c1 ha hb) with e | e | e <;> rw [e] <;> omega
  have l := El_16 hn
  omega
theorem mob_bd (h : Tab n cs) {u : List Int × Int} (ha : u.1 ∈ E n) (hu : u ∈ (E n).zip ((E n).map (mobA n cs))) : -1000 ≤ u.2 ∧ u.2 ≤ 1000 := by
  rw [zip_map'] at hu
  obtain ⟨b, hb, rfl⟩ := List.mem_map.mp hu
  have := mob_bd320 hn h hb
  dsimp only
  omega
theorem mn_ge (h : canB n cs = true) : (decide ((mnL ((E n).map (mobA n cs))) < (0 : Int))) = false := by
  have z := mnL_le (mob_ne hn cs) 0
  rw [show ((E n).map (mobA n cs)).all (fun x => decide ((0 : Int) ≤ x)) = true from h, decide_eq_true_eq] at z
  exact decide_eq_false (by omega)
theorem mn_lt (h : canB n cs = false) : (decide ((mnL ((E n).map (mobA n cs))) < (0 : Int))) = true := by
  have z := mnL_le (mob_ne hn cs) 0
  rw [show ((E n).map (mobA n cs)).all (fun x => decide ((0 : Int) ≤ x)) = false from h, decide_eq_false_iff_not] at z
  exact decide_eq_true (by omega)
theorem bf_len' (h : Tab n cs) : (bfB n cs).length ≤ 5120 := by
  rw [bf_flat]
  have z := flat_len (fun a => (mobA n cs a).toNat) 320 (E n) fun a ha => by have := mob_bd320 hn h ha; omega
  have l := El_16 hn
  have : (E n).length * 320 ≤ 16 * 320 := Nat.mul_le_mul_right _ l
  omega
theorem bf_len (h : Tab n cs) : (((E n).zip ((E n).map (mobA n cs))).flatMap (fun u1 : (List Int × Int) => (List.replicate u1.2.toNat u1.1))).length ≤ lineD := Nat.le_trans (bf_len' hn h) (by decide)
/-- back from the numbers to the table -/
theorem sum_mob (h : cs.length = (E n).length) {a : List Int} (ha : a ∈ E n) : sumA n ((E n).map (mobA n cs)) a = tf n cs a := by
  rw [sum_dot, show mobA n cs = fun b => dotE (E n) (coef b) (tf n cs) from funext fun b => mob_tf hn h b, dot_dot]
  rw [dot_wcongr (v := fun c => if a == c then 1 else 0) (fun c hc => of_decide_eq_true (chk_EE hn k_mob ha hc))]
  exact dot_pick (E_nd hn) ha _
theorem mob_sum (h : cs.length = (E n).length) : ((E n).map (mobA n cs)).sum = tf n cs [] := by
  have z : ((E n).map (mobA n cs)).sum = dotE (E n) (fun _ => 1) (mobA n cs) := sum_dotE (w := fun _ => 1) fun b _ => by omega
  rw [z, show mobA n cs = fun b => dotE (E n) (coef b) (tf n cs) from funext fun b => mob_tf hn h b, dot_dot]
  rw [dot_wcongr (v := fun c => if ([] : List Int) == c then 1 else 0) (fun c hc => of_decide_eq_true (chk_EE hn k_coef (E_nil hn) hc))]
  exact dot_pick (E_nd hn) (E_nil hn) _
theorem tf_nil (h : cs.length = (E n).length) : tf n cs [] = cs.getD 0 0 := by
  unfold tf
  rcases n_cases hn with rfl | rfl | rfl | rfl <;> rfl
theorem can_mob (h : canB n cs = true) {a : List Int} (ha : a ∈ E n) : 0 ≤ mobA n cs a := of_decide_eq_true (List.all_eq_true.mp h _ (List.mem_map.mpr ⟨a, ha, rfl⟩))
omit hn in
theorem le_sum {f : List Int → Int} : ∀ {l : List (List Int)}, (∀ b ∈ l, 0 ≤ f b) → 0 ≤ (l.map f).sum ∧ ∀ a ∈ l, f a ≤ (l.map f).sum
  | [], _ => ⟨Int.le_refl _, fun a h => (nomatch h)⟩
  | b :: l, h => by
    have h1 := h b List.mem_cons_self
    obtain ⟨h2, h3⟩ := le_sum fun c hc => h c (List.mem_cons_of_mem _ hc)
    rw [List.map_cons, List.sum_cons]
    refine ⟨by omega, fun a ha => ?_⟩
    rcases List.mem_cons.mp ha with q | q
    · rw [q]; omega
    · have := h3 a q; omega
/-- the numbers of a table of baskets are a table, too -/
theorem mob_tab (ht : Tab n cs) (h : canB n cs = true) : Tab n ((E n).map (mobA n cs)) := by
  refine ⟨List.length_map .., fun c hc => ?_⟩
  obtain ⟨a, ha, rfl⟩ := List.mem_map.mp hc
  obtain ⟨h1, h2⟩ := le_sum (f := mobA n cs) (l := E n) fun b hb => can_mob hn h hb
  have h3 := h2 a ha
  rw [mob_sum hn ht.1] at h3
  have := tf_bd hn ht (E_nil hn)
  have := can_mob hn h ha
  omega
theorem mob_sum20 (ht : Tab n cs) : ((E n).map (mobA n cs)).sum ≤ 20 := by
  rw [mob_sum hn ht.1]
  exact (tf_bd hn ht (E_nil hn)).2
/-- the baskets' numbers -/
theorem xct_bf (h : canB n cs = true) {a : List Int} (ha : a ∈ E n) : xctB (bfB n cs) a = mobA n cs a := by
  unfold xctB
  rw [bf_flat, count_flat (fun a => (mobA n cs a).toNat) (E_nd hn) ha]
  have := can_mob hn h ha
  omega
theorem cnt_bf (ht : Tab n cs) (h : canB n cs = true) {a : List Int} (ha : a ∈ E n) : cntB (bfB n cs) a = tf n cs a := by
  rw [← sum_exact hn (bf_R n cs) ha]
  rw [show (E n).map (fun b => (((bfB n cs).count b : Nat) : Int)) = (E n).map (mobA n cs) from List.map_congr_left fun b hb => xct_bf hn h hb]
  exact sum_mob hn ht.1 ha
theorem bf_len20 (ht : Tab n cs) (h : canB n cs = true) : (bfB n cs).length ≤ 20 := by
  have z := sum_counts hn (bf_R n cs)
  rw [show (E n).map (fun b => (((bfB n cs).count b : Nat) : Int)) = (E n).map (mobA n cs) from List.map_congr_left fun b hb => xct_bf hn h hb] at z
  have := mob_sum20 hn ht
  omega
variable {r : List (List Int)} (hr : ∀ b ∈ r, b ∈ E n)
include hr
theorem mobs_rows : (E n).map (mobA n ((E n).map (cntB r))) = (E n).map (xctB r) := List.map_congr_left fun a ha => mob_table hn hr ha
theorem can_rows : canB n ((E n).map (cntB r)) = true := by
  unfold canB
  rw [mobs_rows hn hr, List.all_eq_true]
  intro x hx
  obtain ⟨a, _, rfl⟩ := List.mem_map.mp hx
  exact decide_eq_true (by unfold xctB; omega)
theorem bf_rows : bfB n ((E n).map (cntB r)) = ordB r := by
  rw [bf_flat, ord_rep hn hr, List.flatMap_def, List.flatMap_def]
  congr 1
  refine List.map_congr_left fun a ha => ?_
  rw [mob_table hn hr ha]
  rfl
end
end PyD

namespace PyD
open PySem PySem.Spec L2
theorem zip_add {α : Type} {l : List α} {f g h : α → Int} (e : ∀ a ∈ l, f a + g a = h a) : (((l.map f).zip (l.map g)).map (fun u1 : (Int × Int) => (u1.1 + u1.2))) = l.map h := by
  induction l with
  | nil => rfl
  | cons a l ih =>
    rw [List.map_cons, List.map_cons, List.zip_cons_cons, List.map_cons, List.map_cons, ih fun b hb => e b (List.mem_cons_of_mem _ hb), e a List.mem_cons_self]
theorem cnt_app (r s : List (List Int)) (a : List Int) : cntB r a + cntB s a = cntB (r ++ s) a := by
  unfold cntB
  rw [List.countP_append]
  omega
theorem xct_app (r s : List (List Int)) (a : List Int) : xctB r a + xctB s a = xctB (r ++ s) a := by
  unfold xctB
  rw [List.count_append]
  omega
theorem siz_app (r s : List (List Int)) (k : Nat) : sizB r k + sizB s k = sizB (r ++ s) k := by
  unfold sizB
  rw [List.countP_append]
  omega
theorem clo_app (n : Nat) (r s : List (List Int)) (a : List Int) : capS (clo n r a) (clo n s a) = clo n (r ++ s) a := by
  unfold capS clo
  rw [List.filter_filter]
  refine List.filter_congr fun t ht => ?_
  rw [List.all_append, Bool.eq_iff_iff, Bool.and_eq_true, Bool.and_eq_true, List.contains_iff_mem, List.mem_filter]
  exact ⟨fun h => ⟨h.2, h.1.2⟩, fun h => ⟨⟨ht, h.2⟩, h.1⟩⟩
namespace K18
section
variable {n : Nat} (hn : n ∈ N4) {r s : List (List Int)} {cs : List Int}
include hn
omit hn in
theorem wide {u : Nat × List Int} (hu : u ∈ (List.range (E n).length).zip (E n)) (a : List Int) : ((((E n).map (cntB (r ++ [a]))).getD u.1 0) - (((E n).map (cntB r)).getD u.1 0)) = (if (subB u.2 a) then (1 : Int) else (0 : Int)) := by
  rw [zip_rg_getD hu, zip_rg_getD hu, ← cnt_app]
  have : cntB [a] u.2 = if (subB u.2 a) then (1 : Int) else (0 : Int) := by
    unfold cntB
    rw [List.countP_singleton]
    cases subB u.2 a <;> rfl
  rw [this]
  omega
theorem table (ht : Tab n cs) : (E n).map (sumA n ((E n).map (mobA n cs))) = cs := by
  rw [List.map_congr_left fun a ha => sum_mob hn ht.1 ha, tf_map hn ht.1]
theorem inside (ht : Tab n cs) {u : Nat × List Int} (hu : u ∈ (List.range (E n).length).zip (E n)) : (((((List.range (E n).length).zip (E n)).filter (fun v : (Nat × List Int) => (subB u.2 v.2))).map (fun v : (Nat × List Int) => (v.1 : Int))).map (fun j : Int => ((E n).map (mobA n cs)).getD j.toNat 0)).sum = cs.getD u.1 0 := by
  rw [List.map_map]
  have hu2 : u.2 ∈ E n := (List.of_mem_zip hu).2
  have e : ((((List.range (E n).length).zip (E n)).filter (fun v : (Nat × List Int) => (subB u.2 v.2))).map ((fun j : Int => ((E n).map (mobA n cs)).getD j.toNat 0) ∘ fun v : (Nat × List Int) => (v.1 : Int))) = (((E n).filter (subB u.2)).map (mobA n cs)) := by
    rw [List.map_congr_left (g := mobA n cs ∘ Prod.snd) fun v hv => by
      show ((E n).map (mobA n cs)).getD ((v.1 : Int)).toNat 0 = mobA n cs v.2
      rw [Int.toNat_natCast, zip_rg_getD (List.mem_filter.mp hv).1]]
    rw [← List.map_map, show (fun v : (Nat × List Int) => (subB u.2 v.2)) = subB u.2 ∘ Prod.snd from rfl, ← List.filter_map, zip_rg_snd]
  rw [e]
  have e2 : (((E n).filter (subB u.2)).map (mobA n cs)).sum = sumA n ((E n).map (mobA n cs)) u.2 := by
    unfold sumA
    rw [zip_map', List.filter_map, List.map_map]
    rfl
  rw [e2, sum_mob hn ht.1 hu2]
  have e3 : (E n).map (tf n cs) = cs := tf_map hn ht.1
  have z : ((E n).map (tf n cs)).getD u.1 0 = tf n cs u.2 := zip_rg_getD hu
  rw [e3] at z
  exact z.symm
end
end K18
end PyD

namespace PyD
open PySem PySem.Spec L2
def cntN (r : List (List Int)) (a : List Int) : Nat := r.countP (subB a)
theorem cntN_mem {r : List (List Int)} (h : r.length ≤ 20) (a : List Int) : cntN r a ∈ List.range 21 := List.mem_range.mpr (by
  have := List.countP_le_length (p := subB a) (l := r)
  unfold cntN
  omega)
def shrB (r : List (List Int)) (a b : List Int) : List Int := [cntB r (orS a b) / ((Nat.gcd (cntN r a) (cntN r (orS a b)) : Nat) : Int), cntB r a / ((Nat.gcd (cntN r a) (cntN r (orS a b)) : Nat) : Int)]
def excB' (r : List (List Int)) (a b : List Int) : Int := (r.length : Int) * cntB r (orS a b) - cntB r a * cntB r b
def agB (r : List (List Int)) (a b : List Int) : List Int := (((List.range r.length).zip r).filter fun u => subB a u.2 && !subB b u.2).map fun u => (u.1 : Int)
theorem shr_pos {r : List (List Int)} {a b : List Int} (h : cntB r a ≠ 0) (hl : r.length ≤ 20 := by assumption) : (0 : Int) < ((Nat.gcd (cntN r a) (cntN r (orS a b)) : Nat) : Int) ∧ ((Nat.gcd (cntN r a) (cntN r (orS a b)) : Nat) : Int) < 1073741824 := by
  have h0 : 0 < cntN r a := by
    unfold cntB at h
    unfold cntN
    omega
  have h1 := Nat.gcd_pos_of_pos_left (cntN r (orS a b)) h0
  have h2 := Nat.gcd_le_left (cntN r (orS a b)) h0
  have h3 := List.mem_range.mp (cntN_mem hl a)
  omega
theorem mem_insI (t x : Int) : ∀ l : List Int, t ∈ insI x l ↔ t = x ∨ t ∈ l
  | [] => by simp [insI]
  | y :: l => by
    unfold insI
    split
    · simp
    · split
      · rename_i h; subst h; simp
      · rw [List.mem_cons, mem_insI t x l, List.mem_cons]
        constructor
        · rintro (h | h | h)
          · exact .inr (.inl h)
          · exact .inl h
          · exact .inr (.inr h)
        · rintro (h | h | h)
          · exact .inr (.inl h)
          · exact .inl h
          · exact .inr (.inr h)
theorem mem_setI (t : Int) : ∀ l : List Int, t ∈ setI l ↔ t ∈ l
  | [] => by simp [setI]
  | x :: l => by
    show t ∈ insI x (setI l) ↔ _
    rw [mem_insI, mem_setI t l, List.mem_cons]
theorem sub_or (a b x : List Int) : subB (orS a b) x = (subB a x && subB b x) := by
  rw [Bool.eq_iff_iff, Bool.and_eq_true, subB_iff, subB_iff, subB_iff]
  constructor
  · exact fun h => ⟨fun t ht => h t ((mem_setI t _).mpr (List.mem_append_left _ ht)), fun t ht => h t ((mem_setI t _).mpr (List.mem_append_right _ ht))⟩
  · rintro ⟨h1, h2⟩ t ht
    rcases List.mem_append.mp ((mem_setI t _).mp ht) with q | q
    · exact h1 t q
    · exact h2 t q
theorem cnt_or (r : List (List Int)) (a b : List Int) : cntB (r.filter (subB a)) b = cntB r (orS a b) := by
  unfold cntB
  rw [List.countP_filter]
  congr 1
  exact List.countP_congr fun x _ => by rw [sub_or, Bool.and_comm]
theorem clo_or (n : Nat) (r : List (List Int)) (a b : List Int) : clo n (r.filter (subB a)) b = clo n r (orS a b) := by
  unfold clo
  refine List.filter_congr fun t _ => ?_
  rw [List.all_filter, Bool.eq_iff_iff]
  simp only [List.all_eq_true]
  constructor
  · intro h x hx
    have z := h x hx
    rw [sub_or]
    cases h1 : subB a x <;> cases h2 : subB b x <;> simp_all
  · intro h x hx
    have z := h x hx
    rw [sub_or] at z
    cases h1 : subB a x <;> cases h2 : subB b x <;> simp_all
theorem ag_len (r : List (List Int)) (a b : List Int) : ((agB r a b).length : Int) = cntB r a - cntB r (orS a b) := by
  unfold agB
  rw [List.length_map, show (fun u : Nat × List Int => subB a u.2 && !subB b u.2) = (fun x => subB a x && !subB b x) ∘ Prod.snd from rfl]
  have e : ((((List.range r.length).zip r).filter ((fun x => subB a x && !subB b x) ∘ Prod.snd)).length) = (r.filter fun x => subB a x && !subB b x).length := by
    have z := congrArg List.length (List.filter_map (p := fun x => subB a x && !subB b x) (f := Prod.snd) (l := (List.range r.length).zip r))
    rw [zip_rg_snd, List.length_map] at z
    exact z.symm
  rw [e, ← List.countP_eq_length_filter, sumR_countP, cntB_sumR, cntB_sumR, ← sumR_sub]
  exact sumR_congr fun x _ => by
    unfold sup
    rw [sub_or]
    cases subB a x <;> cases subB b x <;> rfl
end PyD

namespace Lw
open PySem PySem.Spec PyProof.Rows L2 PyD
def top (i : Nat) : Stmt := PySem.Challenge.pw_oftensets_k11_whole_tills.main.body.getD i (.Pass ⟨0, 0, 0, 0⟩)
def T : Tb := ⟨[(0, Fn.d_is_int), (1, Fn.d_check_things), (2, Fn.d_is_set), (3, Fn.d_check_set), (4, Fn.d_sets_of), (6, Fn.d_within), (24, Fn.d_counted), (76, Fn.d__law_error), (15, Fn.d__law_sets), (16, Fn.d__law_set), (17, Fn.d__law_in), (34, Fn.d__law_count), (53, Fn.d__law_table_v2), (126, Fn.d__law_call), (130, Fn.d_law_v17)], [("MOST_THINGS", .int 4), ("MOST_BASKETS", .int 20)], ["len", "list", "tuple", "sorted", "max", "all", "int", "range", "isinstance", "bool", "ValueError"], [(0, "BasketError"), (1, "BadNumber"), (2, "BadBaskets"), (3, "BadSet"), (4, "BadTable"), (5, "BadText"), (6, "NotFound")], true, true, [(123, Fn.d_Till__push), (127, Fn.d_Till__count), (129, Fn.d_Till__table), (125, Fn.d_Till__most_often), (124, Fn.d_Till__undo), (128, Fn.d_Till__baskets)], some (9001, 9000, 1)⟩
def dd (x : Str) (i : Nat) : He.DefD := ⟨(x, none), x, x, defArgs (top i), defBody (top i), defScope (top i), [], []⟩
def dm (x q : Str) (j : Nat) : He.DefD := ⟨("Till", some x), x, q, defArgs (inClass (top 20) j), defBody (inClass (top 20) j), defScope (inClass (top 20) j), [], []⟩
def fn : List He.DefD := [dd "is_int" 10, dd "check_things" 11, dd "is_set" 12, dd "check_set" 13, dd "sets_of" 15, dd "within" 16, dd "counted" 18, dd "_law_error" 25, dd "_law_sets" 26, dd "_law_set" 27, dd "_law_in" 28, dd "_law_count" 29, dd "_law_table" 30, dd "_law_call" 31, dd "law" 32, dd "_law_start" 22, dd "_law_draw" 23, dd "_law_pick" 24, dm "push" "Till.push" 1, dm "count" "Till.count" 2, dm "table" "Till.table" 3, dm "most_often" "Till.most_often" 4, dm "undo" "Till.undo" 5, dm "baskets" "Till.baskets" 6, dm "__init__" "Till.__init__" 0, dm "__len__" "Till.__len__" 7]
def fa : List He.Fa := facts T ++ [.glo "_law_start", .glo "_law_draw", .glo "_law_pick", .glo "Till", .cls "Till", .noat "Till" "things", .noat "Till" "line", .mkr "Till", .meth "Till" "__len__", .meth "Till" "push", .meth "Till" "count", .meth "Till" "table", .meth "Till" "most_often", .meth "Till" "undo", .meth "Till" "baskets"]
abbrev R : PySem.W.OpenRow := PySem.W.OpenLaw.row PySem.Challenge.rw_oftensets_k11_whole_tills
abbrev hk : PySem.W.Hook := hookE 5 fa fn (xiB T.es)
def ob (s : PySem.W.SharedT) : AlE := obsE 5 fa fn (xiB T.es) (HandSHeadRun.getT s)
theorem ob_eq (s : PySem.W.SharedT) : ob s = hk.obs s.abs := obsE_eq (HandSHeadRun.getT_eq s)
def loose : List Str := (["BadBaskets", "BadNumber", "BadSet", "BadTable", "BadText", "BasketError", "MOST_BASKETS", "MOST_THINGS", "NotFound", "Till", "_law_call", "_law_count", "_law_draw", "_law_error", "_law_in", "_law_pick", "_law_set", "_law_sets", "_law_start", "_law_table", "check_set", "check_things", "counted", "is_int", "is_set", "sets_of", "within"] : List Str)
theorem run (w : World) : HandSHeadRun.RunEq R (PySem.W.view R.prog [32]) hk ob 6000 loose w := by
  intro os
  kernel_rfl
theorem m_is_int : mSs T Fn.d_is_int.N Fn.d_is_int.body (defScope (top 10)) (defBody (top 10)) = true := by decide +kernel
theorem s_is_int : FnScope Fn.d_is_int.N Fn.d_is_int.ps (defScope (top 10)) := ⟨rfl, rfl, rfl, by decide +kernel, rfl, by decide +kernel, by decide +kernel⟩
theorem m_check_things : mSs T Fn.d_check_things.N Fn.d_check_things.body (defScope (top 11)) (defBody (top 11)) = true := by decide +kernel
theorem s_check_things : FnScope Fn.d_check_things.N Fn.d_check_things.ps (defScope (top 11)) := ⟨rfl, rfl, rfl, by decide +kernel, rfl, by decide +kernel, by decide +kernel⟩
theorem m_is_set : mSs T Fn.d_is_set.N Fn.d_is_set.body (defScope (top 12)) (defBody (top 12)) = true := by decide +kernel
theorem s_is_set : FnScope Fn.d_is_set.N Fn.d_is_set.ps (defScope (top 12)) := ⟨rfl, rfl, rfl, by decide +kernel, rfl, by decide +kernel, by decide +kernel⟩
theorem m_check_set : mSs T Fn.d_check_set.N Fn.d_check_set.body (defScope (top 13)) (defBody (top 13)) = true := by decide +kernel
theorem s_check_set : FnScope Fn.d_check_set.N Fn.d_check_set.ps (defScope (top 13)) := ⟨rfl, rfl, rfl, by decide +kernel, rfl, by decide +kernel, by decide +kernel⟩
theorem m_sets_of : mSs T Fn.d_sets_of.N Fn.d_sets_of.body (defScope (top 15)) (defBody (top 15)) = true := by decide +kernel
theorem s_sets_of : FnScope Fn.d_sets_of.N Fn.d_sets_of.ps (defScope (top 15)) := ⟨rfl, rfl, rfl, by decide +kernel, rfl, by decide +kernel, by decide +kernel⟩
theorem m_within : mSs T Fn.d_within.N Fn.d_within.body (defScope (top 16)) (defBody (top 16)) = true := by decide +kernel
theorem s_within : FnScope Fn.d_within.N Fn.d_within.ps (defScope (top 16)) := ⟨rfl, rfl, rfl, by decide +kernel, rfl, by decide +kernel, by decide +kernel⟩
theorem m_counted : mSs T Fn.d_counted.N Fn.d_counted.body (defScope (top 18)) (defBody (top 18)) = true := by decide +kernel
theorem s_counted : FnScope Fn.d_counted.N Fn.d_counted.ps (defScope (top 18)) := ⟨rfl, rfl, rfl, by decide +kernel, rfl, by decide +kernel, by decide +kernel⟩
theorem m__law_error : mSs T Fn.d__law_error.N Fn.d__law_error.body (defScope (top 25)) (defBody (top 25)) = true := by decide +kernel
theorem s__law_error : FnScope Fn.d__law_error.N Fn.d__law_error.ps (defScope (top 25)) := ⟨rfl, rfl, rfl, by decide +kernel, rfl, by decide +kernel, by decide +kernel⟩
theorem m__law_sets : mSs T Fn.d__law_sets.N Fn.d__law_sets.body (defScope (top 26)) (defBody (top 26)) = true := by decide +kernel
theorem s__law_sets : FnScope Fn.d__law_sets.N Fn.d__law_sets.ps (defScope (top 26)) := ⟨rfl, rfl, rfl, by decide +kernel, rfl, by decide +kernel, by decide +kernel⟩
theorem m__law_set : mSs T Fn.d__law_set.N Fn.d__law_set.body (defScope (top 27)) (defBody (top 27)) = true := by decide +kernel
theorem s__law_set : FnScope Fn.d__law_set.N Fn.d__law_set.ps (defScope (top 27)) := ⟨rfl, rfl, rfl, by decide +kernel, rfl, by decide +kernel, by decide +kernel⟩
theorem m__law_in : mSs T Fn.d__law_in.N Fn.d__law_in.body (defScope (top 28)) (defBody (top 28)) = true := by decide +kernel
theorem s__law_in : FnScope Fn.d__law_in.N Fn.d__law_in.ps (defScope (top 28)) := ⟨rfl, rfl, rfl, by decide +kernel, rfl, by decide +kernel, by decide +kernel⟩
theorem m__law_count : mSs T Fn.d__law_count.N Fn.d__law_count.body (defScope (top 29)) (defBody (top 29)) = true := by decide +kernel
theorem s__law_count : FnScope Fn.d__law_count.N Fn.d__law_count.ps (defScope (top 29)) := ⟨rfl, rfl, rfl, by decide +kernel, rfl, by decide +kernel, by decide +kernel⟩
theorem m__law_table : mSs T Fn.d__law_table_v2.N Fn.d__law_table_v2.body (defScope (top 30)) (defBody (top 30)) = true := by decide +kernel
theorem s__law_table : FnScope Fn.d__law_table_v2.N Fn.d__law_table_v2.ps (defScope (top 30)) := ⟨rfl, rfl, rfl, by decide +kernel, rfl, by decide +kernel, by decide +kernel⟩
theorem m__law_call : mSs T Fn.d__law_call.N Fn.d__law_call.body (defScope (top 31)) (defBody (top 31)) = true := by decide +kernel
theorem s__law_call : FnScope Fn.d__law_call.N Fn.d__law_call.ps (defScope (top 31)) := ⟨rfl, rfl, rfl, by decide +kernel, rfl, by decide +kernel, by decide +kernel⟩
theorem m_law : mSs T Fn.d_law_v17.N Fn.d_law_v17.body (defScope (top 32)) (defBody (top 32)) = true := by decide +kernel
theorem s_law : FnScope Fn.d_law_v17.N Fn.d_law_v17.ps (defScope (top 32)) := ⟨rfl, rfl, rfl, by decide +kernel, rfl, by decide +kernel, by decide +kernel⟩
theorem m_Till__push : mSs T Fn.d_Till__push.N Fn.d_Till__push.body (defScope (inClass (top 20) 1)) (defBody (inClass (top 20) 1)) = true := by decide +kernel
theorem s_Till__push : FnScope Fn.d_Till__push.N Fn.d_Till__push.ps (defScope (inClass (top 20) 1)) := ⟨rfl, rfl, rfl, by decide +kernel, rfl, by decide +kernel, by decide +kernel⟩
theorem m_Till__count : mSs T Fn.d_Till__count.N Fn.d_Till__count.body (defScope (inClass (top 20) 2)) (defBody (inClass (top 20) 2)) = true := by decide +kernel
theorem s_Till__count : FnScope Fn.d_Till__count.N Fn.d_Till__count.ps (defScope (inClass (top 20) 2)) := ⟨rfl, rfl, rfl, by decide +kernel, rfl, by decide +kernel, by decide +kernel⟩
theorem m_Till__table : mSs T Fn.d_Till__table.N Fn.d_Till__table.body (defScope (inClass (top 20) 3)) (defBody (inClass (top 20) 3)) = true := by decide +kernel
theorem s_Till__table : FnScope Fn.d_Till__table.N Fn.d_Till__table.ps (defScope (inClass (top 20) 3)) := ⟨rfl, rfl, rfl, by decide +kernel, rfl, by decide +kernel, by decide +kernel⟩
theorem m_Till__most_often : mSs T Fn.d_Till__most_often.N Fn.d_Till__most_often.body (defScope (inClass (top 20) 4)) (defBody (inClass (top 20) 4)) = true := by decide +kernel
theorem s_Till__most_often : FnScope Fn.d_Till__most_often.N Fn.d_Till__most_often.ps (defScope (inClass (top 20) 4)) := ⟨rfl, rfl, rfl, by decide +kernel, rfl, by decide +kernel, by decide +kernel⟩
theorem m_Till__undo : mSs T Fn.d_Till__undo.N Fn.d_Till__undo.body (defScope (inClass (top 20) 5)) (defBody (inClass (top 20) 5)) = true := by decide +kernel
theorem s_Till__undo : FnScope Fn.d_Till__undo.N Fn.d_Till__undo.ps (defScope (inClass (top 20) 5)) := ⟨rfl, rfl, rfl, by decide +kernel, rfl, by decide +kernel, by decide +kernel⟩
theorem m_Till__baskets : mSs T Fn.d_Till__baskets.N Fn.d_Till__baskets.body (defScope (inClass (top 20) 6)) (defBody (inClass (top 20) 6)) = true := by decide +kernel
theorem s_Till__baskets : FnScope Fn.d_Till__baskets.N Fn.d_Till__baskets.ps (defScope (inClass (top 20) 6)) := ⟨rfl, rfl, rfl, by decide +kernel, rfl, by decide +kernel, by decide +kernel⟩
section
variable {P : Program} {w : World} {K : PySem.W.Frag} {mg : Str → Option Value} {base : Heap}
theorem t_Till__push (c : He.SaysD fa fn K) (X : K.In base) (Gn : base.Ns mainGlobals mg) : MtD (gx K T.es) T Fn.d_Till__push := by
  obtain ⟨fd, F⟩ := c.def_ 18 (d := dm "push" "Till.push" 1) rfl
  exact ⟨_, _, _, _, _, fd, F, He.meth_ok (says_mem c (List.mem_append_right _ (List.mem_of_getElem? (i := 9) rfl))), s_Till__push, m_Till__push, F.bindsN fun _ _ _ _ _ _ us hl => match us, hl with | [_, _], _ => rfl⟩
theorem t_Till__count (c : He.SaysD fa fn K) (X : K.In base) (Gn : base.Ns mainGlobals mg) : MtD (gx K T.es) T Fn.d_Till__count := by
  obtain ⟨fd, F⟩ := c.def_ 19 (d := dm "count" "Till.count" 2) rfl
  exact ⟨_, _, _, _, _, fd, F, He.meth_ok (says_mem c (List.mem_append_right _ (List.mem_of_getElem? (i := 10) rfl))), s_Till__count, m_Till__count, F.bindsN fun _ _ _ _ _ _ us hl => match us, hl with | [_, _], _ => rfl⟩
theorem t_Till__table (c : He.SaysD fa fn K) (X : K.In base) (Gn : base.Ns mainGlobals mg) : MtD (gx K T.es) T Fn.d_Till__table := by
  obtain ⟨fd, F⟩ := c.def_ 20 (d := dm "table" "Till.table" 3) rfl
  exact ⟨_, _, _, _, _, fd, F, He.meth_ok (says_mem c (List.mem_append_right _ (List.mem_of_getElem? (i := 11) rfl))), s_Till__table, m_Till__table, F.bindsN fun _ _ _ _ _ _ us hl => match us, hl with | [_], _ => rfl⟩
theorem t_Till__most_often (c : He.SaysD fa fn K) (X : K.In base) (Gn : base.Ns mainGlobals mg) : MtD (gx K T.es) T Fn.d_Till__most_often := by
  obtain ⟨fd, F⟩ := c.def_ 21 (d := dm "most_often" "Till.most_often" 4) rfl
  exact ⟨_, _, _, _, _, fd, F, He.meth_ok (says_mem c (List.mem_append_right _ (List.mem_of_getElem? (i := 12) rfl))), s_Till__most_often, m_Till__most_often, F.bindsN fun _ _ _ _ _ _ us hl => match us, hl with | [_, _], _ => rfl⟩
theorem t_Till__undo (c : He.SaysD fa fn K) (X : K.In base) (Gn : base.Ns mainGlobals mg) : MtD (gx K T.es) T Fn.d_Till__undo := by
  obtain ⟨fd, F⟩ := c.def_ 22 (d := dm "undo" "Till.undo" 5) rfl
  exact ⟨_, _, _, _, _, fd, F, He.meth_ok (says_mem c (List.mem_append_right _ (List.mem_of_getElem? (i := 13) rfl))), s_Till__undo, m_Till__undo, F.bindsN fun _ _ _ _ _ _ us hl => match us, hl with | [_], _ => rfl⟩
theorem t_Till__baskets (c : He.SaysD fa fn K) (X : K.In base) (Gn : base.Ns mainGlobals mg) : MtD (gx K T.es) T Fn.d_Till__baskets := by
  obtain ⟨fd, F⟩ := c.def_ 23 (d := dm "baskets" "Till.baskets" 6) rfl
  exact ⟨_, _, _, _, _, fd, F, He.meth_ok (says_mem c (List.mem_append_right _ (List.mem_of_getElem? (i := 14) rfl))), s_Till__baskets, m_Till__baskets, F.bindsN fun _ _ _ _ _ _ us hl => match us, hl with | [_], _ => rfl⟩
theorem t_is_int (c : He.SaysD fa fn K) (X : K.In base) (Gn : base.Ns mainGlobals mg) : DefT K mg T Fn.d_is_int := by
  obtain ⟨fd, F⟩ := c.def_ 0 (d := dd "is_int" 10) rfl
  exact ⟨_, _, _, _, _, fd, F, He.glo_ok X Gn (says_mem c (List.mem_append_left _ (List.mem_append_left _ (List.mem_map.mpr ⟨(0, Fn.d_is_int), List.mem_of_getElem? (i := 0) rfl, rfl⟩)))), s_is_int, m_is_int, F.bindsN fun _ _ _ _ _ _ us hl => match us, hl with | [_, _, _], _ => rfl⟩
theorem t_check_things (c : He.SaysD fa fn K) (X : K.In base) (Gn : base.Ns mainGlobals mg) : DefT K mg T Fn.d_check_things := by
  obtain ⟨fd, F⟩ := c.def_ 1 (d := dd "check_things" 11) rfl
  exact ⟨_, _, _, _, _, fd, F, He.glo_ok X Gn (says_mem c (List.mem_append_left _ (List.mem_append_left _ (List.mem_map.mpr ⟨(1, Fn.d_check_things), List.mem_of_getElem? (i := 1) rfl, rfl⟩)))), s_check_things, m_check_things, F.bindsN fun _ _ _ _ _ _ us hl => match us, hl with | [_], _ => rfl⟩
theorem t_is_set (c : He.SaysD fa fn K) (X : K.In base) (Gn : base.Ns mainGlobals mg) : DefT K mg T Fn.d_is_set := by
  obtain ⟨fd, F⟩ := c.def_ 2 (d := dd "is_set" 12) rfl
  exact ⟨_, _, _, _, _, fd, F, He.glo_ok X Gn (says_mem c (List.mem_append_left _ (List.mem_append_left _ (List.mem_map.mpr ⟨(2, Fn.d_is_set), List.mem_of_getElem? (i := 2) rfl, rfl⟩)))), s_is_set, m_is_set, F.bindsN fun _ _ _ _ _ _ us hl => match us, hl with | [_, _], _ => rfl⟩
theorem t_check_set (c : He.SaysD fa fn K) (X : K.In base) (Gn : base.Ns mainGlobals mg) : DefT K mg T Fn.d_check_set := by
  obtain ⟨fd, F⟩ := c.def_ 3 (d := dd "check_set" 13) rfl
  exact ⟨_, _, _, _, _, fd, F, He.glo_ok X Gn (says_mem c (List.mem_append_left _ (List.mem_append_left _ (List.mem_map.mpr ⟨(3, Fn.d_check_set), List.mem_of_getElem? (i := 3) rfl, rfl⟩)))), s_check_set, m_check_set, F.bindsN fun _ _ _ _ _ _ us hl => match us, hl with | [_, _], _ => rfl⟩
theorem t_sets_of (c : He.SaysD fa fn K) (X : K.In base) (Gn : base.Ns mainGlobals mg) : DefT K mg T Fn.d_sets_of := by
  obtain ⟨fd, F⟩ := c.def_ 4 (d := dd "sets_of" 15) rfl
  exact ⟨_, _, _, _, _, fd, F, He.glo_ok X Gn (says_mem c (List.mem_append_left _ (List.mem_append_left _ (List.mem_map.mpr ⟨(4, Fn.d_sets_of), List.mem_of_getElem? (i := 4) rfl, rfl⟩)))), s_sets_of, m_sets_of, F.bindsN fun _ _ _ _ _ _ us hl => match us, hl with | [_], _ => rfl⟩
theorem t_within (c : He.SaysD fa fn K) (X : K.In base) (Gn : base.Ns mainGlobals mg) : DefT K mg T Fn.d_within := by
  obtain ⟨fd, F⟩ := c.def_ 5 (d := dd "within" 16) rfl
  exact ⟨_, _, _, _, _, fd, F, He.glo_ok X Gn (says_mem c (List.mem_append_left _ (List.mem_append_left _ (List.mem_map.mpr ⟨(6, Fn.d_within), List.mem_of_getElem? (i := 5) rfl, rfl⟩)))), s_within, m_within, F.bindsN fun _ _ _ _ _ _ us hl => match us, hl with | [_, _], _ => rfl⟩
theorem t_counted (c : He.SaysD fa fn K) (X : K.In base) (Gn : base.Ns mainGlobals mg) : DefT K mg T Fn.d_counted := by
  obtain ⟨fd, F⟩ := c.def_ 6 (d := dd "counted" 18) rfl
  exact ⟨_, _, _, _, _, fd, F, He.glo_ok X Gn (says_mem c (List.mem_append_left _ (List.mem_append_left _ (List.mem_map.mpr ⟨(24, Fn.d_counted), List.mem_of_getElem? (i := 6) rfl, rfl⟩)))), s_counted, m_counted, F.bindsN fun _ _ _ _ _ _ us hl => match us, hl with | [_, _], _ => rfl⟩
theorem t__law_error (c : He.SaysD fa fn K) (X : K.In base) (Gn : base.Ns mainGlobals mg) : DefT K mg T Fn.d__law_error := by
  obtain ⟨fd, F⟩ := c.def_ 7 (d := dd "_law_error" 25) rfl
  exact ⟨_, _, _, _, _, fd, F, He.glo_ok X Gn (says_mem c (List.mem_append_left _ (List.mem_append_left _ (List.mem_map.mpr ⟨(76, Fn.d__law_error), List.mem_of_getElem? (i := 7) rfl, rfl⟩)))), s__law_error, m__law_error, F.bindsN fun _ _ _ _ _ _ us hl => match us, hl with | [_], _ => rfl⟩
theorem t__law_sets (c : He.SaysD fa fn K) (X : K.In base) (Gn : base.Ns mainGlobals mg) : DefT K mg T Fn.d__law_sets := by
  obtain ⟨fd, F⟩ := c.def_ 8 (d := dd "_law_sets" 26) rfl
  exact ⟨_, _, _, _, _, fd, F, He.glo_ok X Gn (says_mem c (List.mem_append_left _ (List.mem_append_left _ (List.mem_map.mpr ⟨(15, Fn.d__law_sets), List.mem_of_getElem? (i := 8) rfl, rfl⟩)))), s__law_sets, m__law_sets, F.bindsN fun _ _ _ _ _ _ us hl => match us, hl with | [_], _ => rfl⟩
theorem t__law_set (c : He.SaysD fa fn K) (X : K.In base) (Gn : base.Ns mainGlobals mg) : DefT K mg T Fn.d__law_set := by
  obtain ⟨fd, F⟩ := c.def_ 9 (d := dd "_law_set" 27) rfl
  exact ⟨_, _, _, _, _, fd, F, He.glo_ok X Gn (says_mem c (List.mem_append_left _ (List.mem_append_left _ (List.mem_map.mpr ⟨(16, Fn.d__law_set), List.mem_of_getElem? (i := 9) rfl, rfl⟩)))), s__law_set, m__law_set, F.bindsN fun _ _ _ _ _ _ us hl => match us, hl with | [_, _], _ => rfl⟩
theorem t__law_in (c : He.SaysD fa fn K) (X : K.In base) (Gn : base.Ns mainGlobals mg) : DefT K mg T Fn.d__law_in := by
  obtain ⟨fd, F⟩ := c.def_ 10 (d := dd "_law_in" 28) rfl
  exact ⟨_, _, _, _, _, fd, F, He.glo_ok X Gn (says_mem c (List.mem_append_left _ (List.mem_append_left _ (List.mem_map.mpr ⟨(17, Fn.d__law_in), List.mem_of_getElem? (i := 10) rfl, rfl⟩)))), s__law_in, m__law_in, F.bindsN fun _ _ _ _ _ _ us hl => match us, hl with | [_, _], _ => rfl⟩
theorem t__law_count (c : He.SaysD fa fn K) (X : K.In base) (Gn : base.Ns mainGlobals mg) : DefT K mg T Fn.d__law_count := by
  obtain ⟨fd, F⟩ := c.def_ 11 (d := dd "_law_count" 29) rfl
  exact ⟨_, _, _, _, _, fd, F, He.glo_ok X Gn (says_mem c (List.mem_append_left _ (List.mem_append_left _ (List.mem_map.mpr ⟨(34, Fn.d__law_count), List.mem_of_getElem? (i := 11) rfl, rfl⟩)))), s__law_count, m__law_count, F.bindsN fun _ _ _ _ _ _ us hl => match us, hl with | [_, _], _ => rfl⟩
theorem t__law_table (c : He.SaysD fa fn K) (X : K.In base) (Gn : base.Ns mainGlobals mg) : DefT K mg T Fn.d__law_table_v2 := by
  obtain ⟨fd, F⟩ := c.def_ 12 (d := dd "_law_table" 30) rfl
  exact ⟨_, _, _, _, _, fd, F, He.glo_ok X Gn (says_mem c (List.mem_append_left _ (List.mem_append_left _ (List.mem_map.mpr ⟨(53, Fn.d__law_table_v2), List.mem_of_getElem? (i := 12) rfl, rfl⟩)))), s__law_table, m__law_table, F.bindsN fun _ _ _ _ _ _ us hl => match us, hl with | [_, _], _ => rfl⟩
theorem t__law_call (c : He.SaysD fa fn K) (X : K.In base) (Gn : base.Ns mainGlobals mg) : DefT K mg T Fn.d__law_call := by
  obtain ⟨fd, F⟩ := c.def_ 13 (d := dd "_law_call" 31) rfl
  exact ⟨_, _, _, _, _, fd, F, He.glo_ok X Gn (says_mem c (List.mem_append_left _ (List.mem_append_left _ (List.mem_map.mpr ⟨(126, Fn.d__law_call), List.mem_of_getElem? (i := 13) rfl, rfl⟩)))), s__law_call, m__law_call, F.bindsN fun _ _ _ _ _ _ us hl => match us, hl with | [_, _, _], _ => rfl⟩
theorem t_law (c : He.SaysD fa fn K) (X : K.In base) (Gn : base.Ns mainGlobals mg) : DefT K mg T Fn.d_law_v17 := by
  obtain ⟨fd, F⟩ := c.def_ 14 (d := dd "law" 32) rfl
  exact ⟨_, _, _, _, _, fd, F, He.glo_ok X Gn (says_mem c (List.mem_append_left _ (List.mem_append_left _ (List.mem_map.mpr ⟨(130, Fn.d_law_v17), List.mem_of_getElem? (i := 14) rfl, rfl⟩)))), s_law, m_law, F.bindsN fun _ _ _ _ _ _ us hl => match us, hl with | [_], _ => rfl⟩
theorem blt (c : He.SaysD fa fn K) (X : K.In base) (Gn : base.Ns mainGlobals mg) {x : Str} (h : T.bl.contains x = true) : mg x = none :=
  He.free_ok X Gn (says_mem c (List.mem_append_left _ (List.mem_append_right _ (List.mem_append_left _ (List.mem_map.mpr ⟨x, List.contains_iff_mem.mp h, rfl⟩)))))
theorem sc_start : FnScope ["_law_script"] ["_law_script"] (defScope (top 22)) := ⟨rfl, rfl, rfl, by decide +kernel, rfl, by decide +kernel, by decide +kernel⟩
theorem sc_draw : FnScope ["_law_draws", "_law_limit", "_law_numbers", "_law_at", "_law_cell", "_law_mixed"] ["_law_draws", "_law_limit"] (defScope (top 23)) := ⟨rfl, rfl, rfl, by decide +kernel, rfl, by decide +kernel, by decide +kernel⟩
theorem f_start (c : He.SaysD fa fn K) (X : K.In base) (Gn : base.Ns mainGlobals mg) : FnT P w (gx K T.es) mg base 1 "_law_start" ["_law_script"] (spStart (gx K T.es)) := by
  obtain ⟨fd, F⟩ := c.def_ 15 (d := dd "_law_start" 22) rfl
  exact ⟨_, fd, start_fn (G := gx K T.es) F sc_start (fun cdv A outer s H E hr => pss_one (ps_ret (pe_lst (pa_cons (pe_ifExp (pt_cmpR (op_neA (by have := hr.un; omega)) (pv 0) (pe_lst pa_nil) (nomark _)) (pe_callTy call_list_of rfl (blt c X Gn (by decide +kernel)) boot_list (pa_cons (pv 0) pa_nil)) (pe_lst (pa_cons pe_int pa_nil))) (pa_cons pe_int pa_nil))))),
    He.glo_ok X Gn (says_mem c (List.mem_append_right _ (.head _))), F.kp, F.bindsN fun _ _ _ _ _ _ us hl => match us, hl with | [_], _ => rfl⟩
theorem f_draw (c : He.SaysD fa fn K) (X : K.In base) (Gn : base.Ns mainGlobals mg) : FnT P w (gx K T.es) mg base 1 "_law_draw" ["_law_draws", "_law_limit"] spDraw := by
  obtain ⟨fd, F⟩ := c.def_ 16 (d := dd "_law_draw" 23) rfl
  exact ⟨_, fd, draw_fn (G := gx K T.es) rfl F sc_draw (fun cdv A outer s H E =>
    pss_cons (ps_set (i := 2) sc_draw.nd rfl (Or.inl rfl) (pe_ix ix_list (pv 0) pe_int fun _ _ => rfl))
    (pss_cons (ps_asg (pe_op op_add (pe_ix ix_list (pv 0) pe_int fun _ _ => rfl) pe_int) (pg_sub (pv 0) pe_int set_list))
    (pss_cons (ps_set (i := 3) sc_draw.nd rfl (Or.inl rfl) (pe_op op_mod (pe_ix ix_list (pv 0) pe_int fun _ _ => rfl) (pe_callB call_len rfl (blt c X Gn (by decide +kernel)) boot_len (pa_cons (pv 2) pa_nil))))
    (pss_cons (ps_set (i := 4) sc_draw.nd rfl (Or.inl rfl) (pe_ix ix_list (pv 2) (pv 3) fun _ _ => rfl))
    (pss_cons (ps_if (pt_cmpR op_ge (pv 4) pe_int (nomark _)) (pss_cons (ps_asg (pe_op op_fdiv (pv 4) (pv 1)) (pg_sub (pv 2) (pv 3) set_list)) (pss_one (ps_ret (pe_op op_mod (pv 4) (pv 1))))) pss_nil)
    (pss_cons (ps_set (i := 5) sc_draw.nd rfl (Or.inl rfl) (pe_op op_mod (pe_op op_add (pv 4) (pe_op op_mul pe_int (pe_ix ix_list (pv 0) pe_int fun _ _ => rfl))) pe_int))
    (pss_cons (ps_set (i := 5) sc_draw.nd rfl (Or.inl rfl) (pe_op op_mod (pe_op op_pow (pv 5) pe_int) pe_int))
    (pss_one (ps_ret (pe_op op_mod (pe_op op_fdiv (pe_op op_mod (pe_op op_add (pe_op op_mul (pe_op op_fdiv (pv 5) pe_int) pe_int) (pv 5)) pe_int) pe_int) (pv 1))))))))))),
    He.glo_ok X Gn (says_mem c (List.mem_append_right _ (.tail _ (.head _)))), F.kp, F.bindsN fun _ _ _ _ _ _ us hl => match us, hl with | [_, _], _ => rfl⟩
theorem sc_pick : FnScope ["_law_draws", "_law_choices"] ["_law_draws", "_law_choices"] (defScope (top 24)) := ⟨rfl, rfl, rfl, by decide +kernel, rfl, by decide +kernel, by decide +kernel⟩
theorem f_pick (c : He.SaysD fa fn K) (X : K.In base) (Gn : base.Ns mainGlobals mg) : FnT P w (gx K T.es) mg base 2 "_law_pick" ["_law_draws", "_law_choices"] spPick := by
  obtain ⟨fd, F⟩ := c.def_ 17 (d := dd "_law_pick" 24) rfl
  obtain ⟨a0, fd0, h1, h2, h3, h4⟩ := (f_draw (P := P) (w := w) c X Gn).ex
  exact ⟨_, fd, pick_fn (G := gx K T.es) F sc_pick (fun cdv A outer s H E hr => pss_one (ps_ret (pe_ix ix_list (pv 1) (pe_callS h1 hr rfl h2 h3 h4 (fun σ => passAt takes0 σ) (pa_cons (pv 0) (pa_cons (pe_callB call_len rfl (blt c X Gn (by decide +kernel)) boot_len (pa_cons (pv 1) pa_nil)) pa_nil))) fun _ _ => rfl))),
    He.glo_ok X Gn (says_mem c (List.mem_append_right _ (.tail _ (.tail _ (.head _))))), F.kp, F.bindsN fun _ _ _ _ _ _ us hl => match us, hl with | [_, _], _ => rfl⟩
theorem defs_ok (c : He.SaysD fa fn K) (X : K.In base) (Gn : base.Ns mainGlobals mg) : ∀ d ∈ T.ds, DefT K mg T d.2 := List.forall_mem_cons.mpr ⟨t_is_int c X Gn, List.forall_mem_cons.mpr ⟨t_check_things c X Gn, List.forall_mem_cons.mpr ⟨t_is_set c X Gn, List.forall_mem_cons.mpr ⟨t_check_set c X Gn, List.forall_mem_cons.mpr ⟨t_sets_of c X Gn, List.forall_mem_cons.mpr ⟨t_within c X Gn, List.forall_mem_cons.mpr ⟨t_counted c X Gn, List.forall_mem_cons.mpr ⟨t__law_error c X Gn, List.forall_mem_cons.mpr ⟨t__law_sets c X Gn, List.forall_mem_cons.mpr ⟨t__law_set c X Gn, List.forall_mem_cons.mpr ⟨t__law_in c X Gn, List.forall_mem_cons.mpr ⟨t__law_count c X Gn, List.forall_mem_cons.mpr ⟨t__law_table c X Gn, List.forall_mem_cons.mpr ⟨t__law_call c X Gn, List.forall_mem_cons.mpr ⟨t_law c X Gn, fun _ h => nomatch h⟩⟩⟩⟩⟩⟩⟩⟩⟩⟩⟩⟩⟩⟩⟩
theorem mts_ok (c : He.SaysD fa fn K) (X : K.In base) (Gn : base.Ns mainGlobals mg) : ∀ d ∈ T.mt, MtD (gx K T.es) T d.2 := List.forall_mem_cons.mpr ⟨t_Till__push c X Gn, List.forall_mem_cons.mpr ⟨t_Till__count c X Gn, List.forall_mem_cons.mpr ⟨t_Till__table c X Gn, List.forall_mem_cons.mpr ⟨t_Till__most_often c X Gn, List.forall_mem_cons.mpr ⟨t_Till__undo c X Gn, List.forall_mem_cons.mpr ⟨t_Till__baskets c X Gn, fun _ h => nomatch h⟩⟩⟩⟩⟩⟩
theorem sc_init : FnScope ["self", "things"] ["self", "things"] (defScope (inClass (top 20) 0)) := ⟨rfl, rfl, rfl, by decide +kernel, rfl, by decide +kernel, by decide +kernel⟩
theorem sc_len : FnScope ["self"] ["self"] (defScope (inClass (top 20) 7)) := ⟨rfl, rfl, rfl, by decide +kernel, rfl, by decide +kernel, by decide +kernel⟩
theorem tl_ok (c : He.SaysD fa fn K) (X : K.In base) (Gn : base.Ns mainGlobals mg) : ∀ fT fI chk : Nat, T.tl = some (fT, fI, chk) → tlB T = true → TlD P w (gx K T.es) mg base T fT := by
  intro fT fI chk htl hB
  obtain ⟨fdi, Fi⟩ := c.def_ 24 (d := dm "__init__" "Till.__init__" 0) rfl
  obtain ⟨fdl, Fl⟩ := c.def_ 25 (d := dm "__len__" "Till.__len__" 7) rfl
  have tc : TillC (gx K T.es) := ⟨He.cls_ok (says_mem c (List.mem_append_right _ (List.mem_of_getElem? (i := 4) rfl))), He.noat_ok (says_mem c (List.mem_append_right _ (List.mem_of_getElem? (i := 5) rfl))), He.noat_ok (says_mem c (List.mem_append_right _ (List.mem_of_getElem? (i := 6) rfl)))⟩
  refine ⟨tc, He.glo_ok X Gn (says_mem c (List.mem_append_right _ (List.mem_of_getElem? (i := 3) rfl))), ⟨_, fdl, He.meth_ok (says_mem c (List.mem_append_right _ (List.mem_of_getElem? (i := 8) rfl))), len_fn (G := gx K T.es) tc Fl sc_len (fun cdv A outer s H E => pss_one (ps_ret (pe_callB call_len_seq rfl (blt c X Gn (by decide +kernel)) boot_len (pa_cons (pe_fld (pv 0) rfl) pa_nil)))), Fl.bindsN fun _ _ _ _ _ _ us hl => match us, hl with | [_], _ => rfl⟩,
    _, fdi, He.mkr_ok (says_mem c (List.mem_append_right _ (List.mem_of_getElem? (i := 7) rfl))), Fi.bindsN fun _ _ _ _ _ _ us hl => match us, hl with | [_, _], _ => rfl, fun n tb => init_fn (G := gx K T.es) tb tc htl hB Fi sc_init fun cdv A outer s H E ps fr FC ok => pss_cons (ps_expr (pe_callT ok FC rfl (by decide +kernel) (pa_cons (pv 1) pa_nil) rfl)) (pss_cons (ps_fld (pv 0) (pv 1) rfl) (pss_one (ps_fld (pv 0) (pe_lst pa_nil) rfl)))⟩
theorem base_ok (c : SaysE fa fn (xiB T.es) K) (X : K.In base) (Gn : base.Ns mainGlobals mg) : TbBase P w (gx K T.es) mg base T :=
  tb_base c.d X Gn (fun f h => List.mem_append_left _ h) (List.forall_mem_cons.mpr ⟨.inl ⟨_, rfl⟩, List.forall_mem_cons.mpr ⟨.inl ⟨_, rfl⟩, fun _ h => nomatch h⟩⟩) (defs_ok c.d X Gn) (fun _ k x h => xi_ok c.more k x h) (f_start c.d X Gn) (f_draw c.d X Gn) (fun _ => f_pick c.d X Gn) (mts_ok c.d X Gn) (tl_ok c.d X Gn)
end
theorem facts_ok {P : Program} {w : World} {K : PySem.W.Frag} {h : Heap} {mg : Str → Option Value} {f : Addr} (X : K.In h) (G : h.Ns mainGlobals mg) (hfa : mg ("law" : Str) = some (.ref f)) (c : SaysE fa fn (xiB T.es) K)
    (plain : ∀ ns : List Int, ns.length ≤ 63 → ∃ S, Fn.d_law_v17.run (T.call 12) T.kf [scrD ns] [] = .ok (.bool true) S) :
    ∃ fd : FuncData, (∀ (s : Shared) (v : Value), BindsTo s fd ⟨[v], []⟩ [("_law_script", v)]) ∧ ∀ base : Heap, K.In base → base.Ns mainGlobals mg → FnOk P w K mg base CX0 15 f fd ["_law_script"] (spLaw K) := by
  obtain ⟨fd, F⟩ := c.d.def_ 14 (d := dd "law" 32) rfl
  have e := hfa.symm.trans (He.glo_ok X G (says_mem c.d (List.mem_append_left _ (List.mem_append_left _ (List.mem_map.mpr ⟨(130, Fn.d_law_v17), List.mem_of_getElem? (i := 14) rfl, rfl⟩)))))
  cases e
  have b := FunD.bindsA (ps := ["_law_script"]) F fun _ _ _ _ _ _ us hl => match us, hl with | [_], _ => rfl
  exact ⟨fd, fun s v => b s [v] rfl, fun base B Gb => law_end (G := gx K T.es) (tb_ok (base_ok c B Gb) 12) F s_law m_law rfl rfl plain⟩
end Lw
open PySem PySem.W PySem.Calls PyProof.Rows in
theorem Lw.holds_of (plain : ∀ ns : List Int, ns.length ≤ 63 → ∃ S, Fn.d_law_v17.run (Lw.T.call 12) Lw.T.kf [PyD.scrD ns] [] = .ok (.bool true) S) : PySem.Challenge.rw_oftensets_k11_whole_tills.Holds := by
  w_on; o_law
  refine HandSHeadRun.head_any (r := OpenLaw.row PySem.Challenge.rw_oftensets_k11_whole_tills) (q := view (OpenLaw.row PySem.Challenge.rw_oftensets_k11_whole_tills).prog [32]) (H := Lw.hk) (ob := Lw.ob) (M := 6000) (loose := Lw.loose) (d := HandSHeadRun.topDef (OpenLaw.row PySem.Challenge.rw_oftensets_k11_whole_tills).prog 32) (kwd := []) Lw.ob_eq
    (by kernel_rfl) (fun s => by kernel_rfl) Lw.run (by kernel_rfl) (by kernel_rfl) (by kernel_rfl) (by rfl) (by first | assumption | decide +kernel) (by decide +kernel) ⟨rfl, rfl, rfl, rfl, rfl, by decide +kernel⟩ ?hw ?hc
  case hw => w_witness2
  case hc =>
    refine L2.walk_ofE (l := PySem.Challenge.rw_oftensets_k11_whole_tills) (n := 63) (k := 15) (x := "_law_script") (CX := L2.CX0) rfl (by decide) (by kernel_rfl) ⟨rfl, by decide, by decide⟩ ?F (fun _ _ _ _ z => z)
    intro w mg fa h Y G hmg0
    obtain ⟨K, KX, c⟩ := Y
    have hmg : mg ("law" : PySem.Str) = some (.ref fa) := by
      have e : (HandSHeadRun.topDef (OpenLaw.row PySem.Challenge.rw_oftensets_k11_whole_tills).prog 32).name = ("law" : PySem.Str) := by kernel_rfl
      rw [← e]
      exact hmg0
    obtain ⟨fd, hb, hF⟩ := Lw.facts_ok (P := (PySem.Challenge.rw_oftensets_k11_whole_tills).prog) (w := w) KX G hmg c plain
    exact ⟨K, fd, PyD.spLaw K, KX, hb, fun H a ns hl _ hS => ⟨a, ns, rfl, hS, hl, fun _ => rfl⟩, hF⟩

namespace PyD
open PySem PySem.Spec L2
section
variable {C : Nat → List PyData → M PyData} {K : Str → Option PyData} {δ δ' : En} {d x y z r t : PyData} {a b c e : Ex} {ds xs rows : List PyData} {S S' S1 S2 : Store} {f i j k m : Nat} {n : Int} {q : St} {ts : Sts} {R : Res PyData}
theorem till_at (h : δ[i]? = some (.val t)) (ht : tokAt t S = some (k, .till n rows)) : tillAt δ i S = some (k, n, rows) := by
  unfold tillAt
  rw [h]
  dsimp only
  rw [ht]
theorem val_at (h : δ[j]? = some (.val y)) : valAt δ j = some y := by
  unfold valAt
  rw [h]
theorem with_t {α : Type} {g : Nat → Int → List PyData → M α} (h : tillAt δ i S = some (k, n, rows)) : withT δ i g S = g k n rows S := by
  unfold withT
  rw [h]
theorem e_thg (h : tillAt δ i S = some (k, n, rows)) : ev C K (.thg i) δ S = .ok (.int n) S := with_t h
theorem e_lcal (h : tillAt δ i S = some (k, n, rows)) (hv : valAt δ j = some y) (hp : [PyData.list rows, y].all noTok = true) (hc : C f [.list rows, y] [] = .ok r []) (hs : sclD r = true) : ev C K (.lcal f i j) δ S = .ok r S := by
  refine (with_t h).trans ?_
  rw [hv]
  show pureC [.list rows, y] (sclR (C f [.list rows, y])) S = _
  unfold pureC sclR
  rw [if_pos hp, hc]
  dsimp only
  rw [if_pos hs]
theorem e_llen (h : tillAt δ i S = some (k, n, rows)) : ev C K (.llen i) δ S = .ok (.int rows.length) S := with_t h
theorem e_lemp {p : Bool} (h : tillAt δ i S = some (k, n, rows)) (hp : cmpD .eq (.list rows) (.list []) = some (.bool p)) : ev C K (.lemp i) δ S = .ok (.bool p) S := by
  refine (with_t h).trans ?_
  rw [hp]
  rfl
theorem e_lcpy (h : tillAt δ i S = some (k, n, rows)) : ev C K (.lcpy i) δ S = .ok (.list rows) S := with_t h
theorem e_lpop (h : tillAt δ i S = some (k, n, rows)) (hd : rows[rows.length - 1]? = some d) : ev C K (.lpop i) δ S = .ok d (S.set k (.till n rows.dropLast)) := by
  refine (with_t h).trans ?_
  unfold popD
  rw [hd]
theorem is_t (h : tokAt x S = some (k, .till n rows)) : isT x S = .ok () S := by
  unfold isT
  rw [h]
theorem e_mc0 (h1 : ev C K a δ S = .ok x S') (h2 : tokAt x S' = some (k, .till n rows)) (h3 : C f [x] S' = R) : ev C K (.mc0 f a) δ S = R := by
  show M.bnd (ev C K a δ) (fun x => M.bnd (isT x) fun _ => C f [x]) S = _
  rw [bnd_ok h1, bnd_ok (is_t h2), h3]
theorem e_mc1 (h1 : ev C K a δ S = .ok x S') (h2 : tokAt x S' = some (k, .till n rows)) (h4 : ev C K b δ S' = .ok y S2) (h3 : C f [x, y] S2 = R) : ev C K (.mc1 f a b) δ S = R := by
  show M.bnd (ev C K a δ) (fun x => M.bnd (isT x) fun _ => M.bnd (ev C K b δ) fun y => C f [x, y]) S = _
  rw [bnd_ok h1, bnd_ok (is_t h2), bnd_ok h4, h3]
theorem e_mln (h1 : ev C K a δ S = .ok x S') (h2 : tokAt x S' = some (k, .till n rows)) : ev C K (.mln a) δ S = .ok (.int rows.length) S' := by
  show M.bnd (ev C K a δ) lenT S = _
  rw [bnd_ok h1]
  unfold lenT
  rw [h2]
theorem e_tnew (h1 : ev C K a δ S = .ok x S') (h3 : C f [x] S' = R) : ev C K (.tnew f a) δ S = R := by
  show M.bnd (ev C K a δ) (fun x => C f [x]) S = _
  rw [bnd_ok h1, h3]
theorem t_lapp (h : tillAt δ i S = some (k, n, rows)) (hv : valAt δ j = some y) (hl : rows.length < lineD) : evT C K (.lapp i j) δ S = .nxt δ (S.set k (.till n (rows ++ [y]))) := by
  show (match tillAt δ i S, valAt δ j with
    | some (k, n, rows), some y => if rows.length < lineD then SRes.nxt δ (S.set k (.till n (rows ++ [y]))) else .bad
    | _, _ => .bad) = _
  rw [h, hv]
  exact if_pos hl
theorem e_nlst (h : ev C K e δ S = .ok (.list ds) S') : ev C K (.nlst e) δ S = .ok (tokD S'.length) (S' ++ [.lst ds]) := by
  show M.bnd (ev C K e δ) (fun x => match x with
    | .list ds => newL ds
    | _ => M.bad) S = _
  rw [bnd_ok h]
  rfl
theorem tok_last {B : Store} {o : SObj} : tokAt (tokD B.length) (B ++ [o]) = some (B.length, o) := by
  show ((B ++ [o])[(B.length : Int).toNat]?).map (fun o => ((B.length : Int).toNat, o)) = _
  rw [Int.toNat_natCast, List.getElem?_append_right (Nat.le_refl _), Nat.sub_self]
  rfl
theorem t_tapp (h1 : ev C K a δ S = .ok x S1) (h2 : tokAt x S1 = some (k, .lst ds)) (h3 : ev C K b δ S1 = .ok y S1) (hl : ds.length < lineD) : evT C K (.tapp a b) δ S = .nxt δ (S1.set k (.lst (ds ++ [y]))) := by
  show SRes.of (M.bnd (ev C K a δ) (fun x => M.bnd (isL x) fun _ => M.bnd (ev C K b δ) fun y => M.ret (x, y)) S) δ _ = _
  have hi : isL x S1 = .ok () S1 := by
    unfold isL
    rw [h2]
  rw [bnd_ok h1, bnd_ok hi, bnd_ok h3]
  show (match tokAt x S1 with
    | some (k, .lst ds) => if ds.length < lineD then SRes.nxt δ (S1.set k (.lst (ds ++ [y]))) else .bad
    | _ => .bad) = _
  rw [h2]
  exact if_pos hl
/-- a new list, changed and dropped -/
theorem t_tappN (h : ev C K e δ S = .ok (.list ds) S) (h3 : ev C K b δ (S ++ [.lst ds]) = .ok y (S ++ [.lst ds])) (hl : ds.length < lineD) : evT C K (.tapp (.nlst e) b) δ S = .nxt δ (S ++ [.lst (ds ++ [y])]) := by
  rw [t_tapp (e_nlst h) tok_last h3 hl]
  congr 1
  rw [List.set_append_right _ _ (Nat.le_refl _), Nat.sub_self]
  rfl
theorem e_tcal (h : valAt δ i = some t) (h2 : tokAt t S = some (k, .lst ds)) (hv : valAt δ j = some y) (hp : [PyData.list ds, y].all noTok = true) (hc : C f [.list ds, y] [] = .ok r []) (hs : sclD r = true) : ev C K (.tcal f i j) δ S = .ok r S := by
  show withL δ i (fun ds => match valAt δ j with
    | some y => pureC [.list ds, y] (sclR (C f [.list ds, y]))
    | none => M.bad) S = _
  unfold withL
  rw [h]
  dsimp only
  rw [h2]
  dsimp only
  rw [hv]
  show pureC [.list ds, y] (sclR (C f [.list ds, y])) S = _
  unfold pureC sclR
  rw [if_pos hp, hc]
  dsimp only
  rw [if_pos hs]
theorem t_retv (h : δ[i]? = some (.own ds)) : evT C K (.retv i) δ S = .reto ds S := by
  show ownAt δ i _ = _
  unfold ownAt
  rw [h]
theorem t_tryN {bd : Sts} {k n j : Nat} (h : evTs C K bd δ S = .nxt δ' S') : evT C K (.try_ bd k n j) δ S = .nxt δ' S' := by
  show (match evTs C K bd δ S with
    | .exc q δ' s' => if q < 7 then (if subE q k then SRes.nxt ((δ'.set j (.val (excD q))).set n .non) s' else .exc q δ' s') else .bad
    | r => r) = _
  rw [h]
theorem t_tryX {bd : Sts} {k n j q : Nat} (h : evTs C K bd δ S = .exc q δ' S') (h7 : q < 7) (hs : subE q k = true) : evT C K (.try_ bd k n j) δ S = .nxt ((δ'.set j (.val (excD q))).set n .non) S' := by
  show (match evTs C K bd δ S with
    | .exc q δ' s' => if q < 7 then (if subE q k then SRes.nxt ((δ'.set j (.val (excD q))).set n .non) s' else .exc q δ' s') else .bad
    | r => r) = _
  rw [h]
  dsimp only
  rw [if_pos h7, if_pos hs]
theorem ts_ifT {p q : Sts} (h : ev C K c δ S = .ok (.bool true) S') (h2 : evTs C K (apS p ts) δ S' = R') : evTs C K (.cons (.ifs c p q) ts) δ S = R' := by
  rw [evTs_ap] at h2
  show (evT C K (.ifs c p q) δ S).thn _ = _
  rw [t_ifT h rfl]
  exact h2
theorem ts_ifF {p q : Sts} (h : ev C K c δ S = .ok (.bool false) S') (h2 : evTs C K (apS q ts) δ S' = R') : evTs C K (.cons (.ifs c p q) ts) δ S = R' := by
  rw [evTs_ap] at h2
  show (evT C K (.ifs c p q) δ S).thn _ = _
  rw [t_ifF h rfl]
  exact h2
end
def DrB (B : Store) (S : Store) : Prop := ∃ ns c, S = .draws ns c :: B ∧ ns ≠ []
theorem drB_of {S : Store} (h : Dr S) : DrB [] S := h
theorem draw_B {B S : Store} {l : Int} (h : DrB B S) (h0 : 0 < l) (h1 : l < 1000000) : ∃ (k : Nat) (S' : Store), DrB B S' ∧ (k : Int) < l ∧ drawD (tokD 0) (.int l) S = .ok (k : Int) S' := by
  obtain ⟨ns, c, rfl, hne⟩ := h
  obtain ⟨r, ns', c', h2, h3, h4, h5⟩ := draw_cons (c := c) (B := B) hne h0 h1
  exact ⟨r.toNat, _, ⟨ns', c', rfl, h2⟩, by omega, by rw [h5]; congr 1; omega⟩
theorem lst_subsB {B : Store} {f : PyData → M (Option PyData)} : ∀ (its : List PyData), (∀ x ∈ its, ∀ S, DrB B S → ∃ r S', DrB B S' ∧ (r = none ∨ r = some x) ∧ f x S = .ok r S') → ∀ S, DrB B S → ∃ sub S', DrB B S' ∧ sub ∈ subsD its ∧ M.lst f its S = .ok sub S'
  | [], _, S, h => ⟨[], S, h, List.mem_cons_self, rfl⟩
  | x :: xs, hf, S, h => by
    obtain ⟨r, S1, h1, hr, e1⟩ := hf x List.mem_cons_self S h
    obtain ⟨sub, S2, h2, hs, e2⟩ := lst_subsB xs (fun y hy => hf y (List.mem_cons_of_mem _ hy)) S1 h1
    refine ⟨consO r sub, S2, h2, ?_, ?_⟩
    · rcases hr with rfl | rfl
      · exact List.mem_append_right _ hs
      · exact List.mem_append_left _ (List.mem_map.mpr ⟨sub, hs, rfl⟩)
    · show M.bnd (M.nox (f x)) (fun r => M.bnd (M.lst f xs) fun rs => M.ret (consO r rs)) S = _
      rw [bnd_ok (a := r) (S' := S1) (by unfold M.nox; rw [e1]), bnd_ok e2]
      rfl
theorem set_drawnB {C : Nat → List PyData → M PyData} {K : Str → Option PyData} {B S : Store} {n : Nat} (hn : n ∈ N4) (h : DrB B S) : ∃ (a : List Int) (S' : Store), DrB B S' ∧ a ∈ E n ∧ Fn.d__law_set.run C K [tokD 0, .int n] S = .ok (tupD a) S' := by
  have hF : ∀ x ∈ ((List.range n).map fun (i : Nat) => (i : Int)).map PyData.int, ∀ S, DrB B S → ∃ r S', DrB B S' ∧ (r = none ∨ r = some x) ∧ itmF (.one 2) (ev C K (.cmp .eq (.draw (.var 0) (.cst (.int 2))) (.cst (.int 0)))) (ev C K (.var 2)) [.val (tokD 0), .val (.int n), .non] x S = .ok r S' := fun x _ S h => by
    obtain ⟨r, S', h', _, e⟩ := draw_B (l := 2) h (by decide) (by decide)
    have e1 : ev C K (.cmp .eq (.draw (.var 0) (.cst (.int 2))) (.cst (.int 0))) [.val (tokD 0), .val (.int n), .val x] S = .ok (.bool (PyData.eqv (.int (r : Int)) (.int 0))) S' := e_cmp (e_draw (e_var rfl) e_cst e) e_cst rfl
    show ∃ r S', DrB B S' ∧ (r = none ∨ r = some x) ∧ M.bnd (ev C K (.cmp .eq (.draw (.var 0) (.cst (.int 2))) (.cst (.int 0))) [.val (tokD 0), .val (.int n), .val x]) _ S = _
    rw [bnd_ok e1]
    cases PyData.eqv (.int (r : Int)) (.int 0) with
    | true => exact ⟨some x, S', h', .inr rfl, rfl⟩
    | false => exact ⟨none, S', h', .inl rfl, rfl⟩
  obtain ⟨sub, S', h', hs, e⟩ := lst_subsB _ hF S h
  rw [subsD_map] at hs
  obtain ⟨a, ha, rfl⟩ := List.mem_map.mp hs
  have haE : a ∈ E n := List.contains_iff_mem.mp (List.all_eq_true.mp (List.all_eq_true.mp subs_E n hn) a ha)
  refine ⟨a, S', h', haE, run_ret rfl rfl (ts_ret (t_ret (e_bi (x := .list (a.map .int)) ?_ rfl)))⟩
  have e4 : evS C K (.rg1 (.var 1)) [.val (tokD 0), .val (.int n), .non] S = .ok (((List.range n).map fun (i : Nat) => (i : Int)).map PyData.int) S := by
    refine s_rg1 (e_var rfl) ?_
    simp only [N4, List.mem_cons, List.mem_nil_iff, or_false] at hn
    rcases hn with rfl | rfl | rfl | rfl <;> rfl
  exact e_cmp1S e4 e
theorem max_ind {cs : List Int} (h : cs ≠ []) : ∃ m j : Nat, j < cs.length ∧ ∃ mx : Int, biD .max (.list (cs.map .int)) = some (.int mx) ∧ indD (.list (cs.map .int)) (.int mx) = some (.int (j : Nat)) := by
  cases cs with
  | nil => exact absurd rfl h
  | cons c0 cs =>
    have e1 : biD .max (.list ((c0 :: cs).map .int)) = some (.int (maxI c0 cs)) := by
      show (intsD ((c0 :: cs).map PyData.int)).bind _ = _
      rw [intsD_map]
      rfl
    have hm : maxI c0 cs ∈ c0 :: cs := by
      rcases (maxI_spec cs c0).1 with z | z
      · rw [z]; exact List.mem_cons_self
      · exact List.mem_cons_of_mem _ z
    have hok : okD (.int (maxI c0 cs)) = true := rfl
    have hall : ((c0 :: cs).map PyData.int).all okD = true := by
      rw [List.all_eq_true]
      intro x hx
      obtain ⟨i, _, rfl⟩ := List.mem_map.mp hx
      rfl
    cases e2 : ((c0 :: cs).map PyData.int).findIdx? (fun y => PyData.eqv y (.int (maxI c0 cs))) with
    | none =>
      rw [List.findIdx?_eq_none_iff] at e2
      have z := e2 (.int (maxI c0 cs)) (List.mem_map.mpr ⟨_, hm, rfl⟩)
      rw [show PyData.eqv (.int (maxI c0 cs)) (.int (maxI c0 cs)) = true from eqv_same hok] at z
      cases z
    | some j =>
      have hj := (List.findIdx?_eq_some_iff_getElem.mp e2).1
      rw [List.length_map] at hj
      refine ⟨0, j, hj, maxI c0 cs, e1, ?_⟩
      show (if okD (.int (maxI c0 cs)) && ((c0 :: cs).map PyData.int).all okD then (((c0 :: cs).map PyData.int).findIdx? fun y => PyData.eqv y (.int (maxI c0 cs))).map fun (j : Nat) => PyData.int (j : Nat) else none) = _
      rw [hok, hall, e2]
      rfl
theorem idx_nat {α : Type} {g : α → PyData} {l : List α} {j : Nat} (h : j < l.length) : idxD (.list (l.map g)) (.int (j : Nat)) = some (g l[j]) := by
  show atI (l.map g) (j : Int) = _
  unfold atI
  rw [ix_at (by omega) (by rw [List.length_map]; omega)]
  show (l.map g)[((j : Int)).toNat]? = _
  rw [Int.toNat_natCast, List.getElem?_map, List.getElem?_eq_getElem h]
  rfl
end PyD

namespace Lw
open PySem PySem.Spec L2 PyD
theorem kg_MOST_THINGS : T.kf "MOST_THINGS" = some (.int 4) := by kernel_rfl
theorem kg_MOST_BASKETS : T.kf "MOST_BASKETS" = some (.int 20) := by kernel_rfl
theorem c_is_int (x : Int) (lo : Int) (hi : Int) (m : Nat) : T.call (m + 1) 0 [(.int x), (.int lo), (.int hi)] [] = .ok (.bool (decide (lo ≤ x) && decide (x ≤ hi))) [] := is_int_ok (C := T.call m) (K := T.kf) x lo hi
theorem k_check_things (m : Nat) : (N4.all (fun n => isOk (T.call (m + 2) 1 [(.int (n : Int))] []) .none)) = true := by kernel_rfl
theorem c_check_things {n : Nat} (hn : n ∈ N4) (m : Nat) : T.call (m + 2) 1 [(.int (n : Int))] [] = .ok .none [] := isOk_eq (List.all_eq_true.mp (k_check_things m) n hn)
theorem k_is_set (m : Nat) : (N4.all (fun n => (E n).all (fun a => isOk (T.call (m + 2) 2 [(tupD a), (.int (n : Int))] []) (.bool true)))) = true := by kernel_rfl
theorem c_is_set {n : Nat} (hn : n ∈ N4) {a : List Int} (ha : a ∈ E n) (m : Nat) : T.call (m + 2) 2 [(tupD a), (.int (n : Int))] [] = .ok (.bool true) [] := isOk_eq (List.all_eq_true.mp (List.all_eq_true.mp (k_is_set m) n hn) a ha)
theorem k_check_set (m : Nat) : (N4.all (fun n => (E n).all (fun a => isOk (T.call (m + 3) 3 [(tupD a), (.int (n : Int))] []) .none))) = true := by kernel_rfl
theorem c_check_set {n : Nat} (hn : n ∈ N4) {a : List Int} (ha : a ∈ E n) (m : Nat) : T.call (m + 3) 3 [(tupD a), (.int (n : Int))] [] = .ok .none [] := isOk_eq (List.all_eq_true.mp (List.all_eq_true.mp (k_check_set m) n hn) a ha)
theorem k_sets_of (m : Nat) : (N4.all (fun n => isOk (T.call (m + 1) 4 [(.int (n : Int))] []) (rowD (E n)))) = true := by kernel_rfl
theorem c_sets_of {n : Nat} (hn : n ∈ N4) (m : Nat) : T.call (m + 1) 4 [(.int (n : Int))] [] = .ok (rowD (E n)) [] := isOk_eq (List.all_eq_true.mp (k_sets_of m) n hn)
theorem k_within (m : Nat) : (N4.all (fun n => (E n).all (fun a => (E n).all (fun b => isOk (T.call (m + 1) 6 [(tupD a), (tupD b)] []) (.bool (subB a b)))))) = true := by kernel_rfl
theorem c_within {n : Nat} (hn : n ∈ N4) {a : List Int} (ha : a ∈ E n) {b : List Int} (hb : b ∈ E n) (m : Nat) : T.call (m + 1) 6 [(tupD a), (tupD b)] [] = .ok (.bool (subB a b)) [] := isOk_eq (List.all_eq_true.mp (List.all_eq_true.mp (List.all_eq_true.mp (k_within m) n hn) a ha) b hb)
theorem c_counted {n : Nat} (hn : n ∈ N4) {r : List (List Int)} (hr : ∀ b ∈ r, b ∈ E n) {a : List Int} (ha : a ∈ E n) (m : Nat) : T.call (m + 2) 24 [(rowD r), (tupD a)] [] = .ok (.int (cntB r a)) [] := by
  show Fn.d_counted.run (T.call (m + 1)) T.kf [(rowD r), (tupD a)] [] = _
  refine w_run rfl rfl ?_
  refine q_ret (e_bi (e_cmpI eS (l := r) (p := (fun u1 : List Int => (subB a u1))) (s_it (e_var rfl) rfl) fun u1 hu1 => ⟨_, rfl, (e_call (e_cons (e_var rfl) (e_cons (e_var rfl) e_nil)) (nt_cons (eS.nt a) (nt_cons (eS.nt u1) nt_nil)) (c_within hn ha (hr u1 hu1) m)), fun hp2 => (e_var rfl)⟩) (len_L eS (r.filter (fun u1 : List Int => (subB a u1))))) ?_
  exact congrArg (fun z => SRes.ret (eI.f z) []) (show (((r.filter (fun u1 : List Int => (subB a u1))).length) : Int) = cntB r a from countP_fil _ _)
theorem c__law_error_1  (m : Nat) : T.call (m + 1) 76 [(excD 1)] [] = .ok (eStr.f ("number" : Str)) [] := isOk_eq (by kernel_rfl)
theorem c__law_error_2  (m : Nat) : T.call (m + 1) 76 [(excD 2)] [] = .ok (eStr.f ("baskets" : Str)) [] := isOk_eq (by kernel_rfl)
theorem c__law_error_3  (m : Nat) : T.call (m + 1) 76 [(excD 3)] [] = .ok (eStr.f ("set" : Str)) [] := isOk_eq (by kernel_rfl)
theorem c__law_error_4  (m : Nat) : T.call (m + 1) 76 [(excD 4)] [] = .ok (eStr.f ("table" : Str)) [] := isOk_eq (by kernel_rfl)
theorem c__law_error_5  (m : Nat) : T.call (m + 1) 76 [(excD 5)] [] = .ok (eStr.f ("text" : Str)) [] := isOk_eq (by kernel_rfl)
theorem c__law_error_6  (m : Nat) : T.call (m + 1) 76 [(excD 6)] [] = .ok (eStr.f ("none" : Str)) [] := isOk_eq (by kernel_rfl)

theorem k__law_sets (m : Nat) : (N4.all (fun n => isOk (T.call (m + 1) 15 [(.int (n : Int))] []) (rowD (E n)))) = true := by kernel_rfl
theorem c__law_sets {n : Nat} (hn : n ∈ N4) (m : Nat) : T.call (m + 1) 15 [(.int (n : Int))] [] = .ok (rowD (E n)) [] := isOk_eq (List.all_eq_true.mp (k__law_sets m) n hn)
theorem c__law_set {n : Nat} (hn : n ∈ N4) (m : Nat) : ∀ S, Dr S → ∃ (a : List Int) (S' : Store), Dr S' ∧ a ∈ E n ∧ T.call (m + 1) 16 [tokD 0, .int n] S = .ok (tupD a) S' := fun S h => set_drawn (C := T.call m) (K := T.kf) hn h
theorem k__law_in (m : Nat) : (N4.all (fun n => (E n).all (fun a => (E n).all (fun b => isOk (T.call (m + 1) 17 [(tupD a), (tupD b)] []) (.bool (subB a b)))))) = true := by kernel_rfl
theorem c__law_in {n : Nat} (hn : n ∈ N4) {a : List Int} (ha : a ∈ E n) {b : List Int} (hb : b ∈ E n) (m : Nat) : T.call (m + 1) 17 [(tupD a), (tupD b)] [] = .ok (.bool (subB a b)) [] := isOk_eq (List.all_eq_true.mp (List.all_eq_true.mp (List.all_eq_true.mp (k__law_in m) n hn) a ha) b hb)
theorem c__law_count {n : Nat} (hn : n ∈ N4) {r : List (List Int)} (hr : ∀ b ∈ r, b ∈ E n) {a : List Int} (ha : a ∈ E n) (m : Nat) : T.call (m + 2) 34 [(rowD r), (tupD a)] [] = .ok (.int (cntB r a)) [] := by
  show Fn.d__law_count.run (T.call (m + 1)) T.kf [(rowD r), (tupD a)] [] = _
  refine w_run rfl rfl ?_
  refine q_ret (e_bi (e_cmpI eS (l := r) (p := (fun u1 : List Int => (subB a u1))) (s_it (e_var rfl) rfl) fun u1 hu1 => ⟨_, rfl, (e_call (e_cons (e_var rfl) (e_cons (e_var rfl) e_nil)) (nt_cons (eS.nt a) (nt_cons (eS.nt u1) nt_nil)) (c__law_in hn ha (hr u1 hu1) m)), fun hp2 => (e_var rfl)⟩) (len_L eS (r.filter (fun u1 : List Int => (subB a u1))))) ?_
  exact congrArg (fun z => SRes.ret (eI.f z) []) (show (((r.filter (fun u1 : List Int => (subB a u1))).length) : Int) = cntB r a from countP_fil _ _)
theorem c__law_table {n : Nat} (hn : n ∈ N4) {r : List (List Int)} (hr : ∀ b ∈ r, b ∈ E n) (m : Nat) : T.call (m + 3) 53 [(.int (n : Int)), (rowD r)] [] = .ok (.list (((E n).map (cntB r)).map .int)) [] := by
  show Fn.d__law_table_v2.run (T.call (m + 2)) T.kf [(.int (n : Int)), (rowD r)] [] = _
  refine w_run rfl rfl ?_
  refine q_ret (e_cmpL eI (l := (E n)) (g := eS.f) (v := (fun u1 : List Int => (cntB r u1))) (s_it (e_call (e_cons (e_var rfl) e_nil) (nt_cons (eI.nt (n : Int)) nt_nil) (c__law_sets hn (m + 1))) rfl) fun u1 hu1 => ⟨_, rfl, (e_call (e_cons (e_var rfl) (e_cons (e_var rfl) e_nil)) (nt_cons ((eL eS).nt r) (nt_cons (eS.nt u1) nt_nil)) (c__law_count hn hr ((fun b hb => hb) u1 hu1) m))⟩) ?_
  exact congrArg (fun z => SRes.ret ((eL eI).f z) []) (show ((E n).map (fun u1 : List Int => (cntB r u1))) = (E n).map (cntB r) from (by first | rfl | (simp only [if_true, if_false, Bool.false_eq_true]; done)))

abbrev TS (ns : List Int) (c : Int) (n : Nat) (rows : List (List Int)) : Store := [.draws ns c, .till n (rows.map tupD)]
theorem set_ts {ns : List Int} {c : Int} {n : Nat} {rows rows' : List (List Int)} : (TS ns c n rows).set 1 (.till n (rows'.map tupD)) = TS ns c n rows' := rfl
theorem map_snoc (rows : List (List Int)) (a : List Int) : (rows ++ [a]).map tupD = rows.map tupD ++ [tupD a] := by rw [List.map_append]; rfl
theorem nt_row' (rows : List (List Int)) : noTok (.list (rows.map tupD)) = true := noTok_plain (plain_row rows)
theorem nt2 (rows : List (List Int)) (a : List Int) : [PyData.list (rows.map tupD), tupD a].all noTok = true := by
  rw [List.all_cons, List.all_cons, nt_row', show noTok (tupD a) = true from eS.nt a]
  rfl
section
variable {ns : List Int} {c : Int} {n : Nat} {rows : List (List Int)} {a : List Int}
theorem in_snoc (hr : ∀ b ∈ rows, b ∈ E n) (ha : a ∈ E n) : ∀ b ∈ rows ++ [a], b ∈ E n := fun b hb => by
  rcases List.mem_append.mp hb with h | h
  · exact hr b h
  · rw [List.mem_singleton.mp h]; exact ha
theorem c_push (hn : n ∈ N4) (hr : ∀ b ∈ rows, b ∈ E n) (ha : a ∈ E n) (hl : rows.length < 20) (m : Nat) : T.call (m + 4) 123 [tokD 1, tupD a] (TS ns c n rows) = .ok (.int (cntB (rows ++ [a]) a)) (TS ns c n (rows ++ [a])) := by
  show Fn.d_Till__push.run (T.call (m + 3)) T.kf [tokD 1, tupD a] (TS ns c n rows) = _
  have h1 : cmpD .eq (.int ((rows.map tupD).length : Nat)) (.int 20) = some (.bool false) := by
    rw [List.length_map, show cmpD .eq (.int (rows.length : Nat)) (.int 20) = some (.bool ((rows.length : Int) == 20)) from c_eq eI _ _, show ((rows.length : Int) == 20) = false from beq_eq_false_iff_ne.mpr (by omega)]
  refine run_ret rfl rfl (ts_nxt (t_exp (e_call (e_cons (e_var rfl) (e_cons (e_thg (till_at rfl rfl)) e_nil)) (nt_cons (eS.nt a) (nt_cons rfl nt_nil)) (c_check_set hn ha m))) (ts_nxt (t_ifF (e_cmp (e_llen (till_at rfl rfl)) (e_glo kg_MOST_BASKETS) h1) ts_nil) ?_))
  refine ts_nxt (t_lapp (till_at rfl rfl) (val_at rfl) (by rw [List.length_map]; show rows.length < 1000000; omega)) ?_
  rw [← map_snoc]
  exact ts_ret (t_ret (e_lcal (till_at rfl rfl) (val_at rfl) (nt2 _ a) (c_counted hn (in_snoc hr ha) ha (m + 1)) rfl))
theorem c_push20 (hn : n ∈ N4) (ha : a ∈ E n) (hl : rows.length = 20) (m : Nat) : T.call (m + 4) 123 [tokD 1, tupD a] (TS ns c n rows) = .exc 2 (TS ns c n rows) := by
  show Fn.d_Till__push.run (T.call (m + 3)) T.kf [tokD 1, tupD a] (TS ns c n rows) = _
  have h1 : cmpD .eq (.int ((rows.map tupD).length : Nat)) (.int 20) = some (.bool true) := by
    rw [List.length_map, show cmpD .eq (.int (rows.length : Nat)) (.int 20) = some (.bool ((rows.length : Int) == 20)) from c_eq eI _ _, hl]
    rfl
  exact run_exc rfl (ts_nxt (t_exp (e_call (e_cons (e_var rfl) (e_cons (e_thg (till_at rfl rfl)) e_nil)) (nt_cons (eS.nt a) (nt_cons rfl nt_nil)) (c_check_set hn ha m))) (ts_exc (t_ifT (e_cmp (e_llen (till_at rfl rfl)) (e_glo kg_MOST_BASKETS) h1) (ts_exc t_rse))))
def isX3 : Res PyData → Bool
  | .exc 3 [] => true
  | _ => false
theorem isX3_eq {r : Res PyData} (h : isX3 r = true) : r = .exc 3 [] := by
  unfold isX3 at h
  split at h
  · rfl
  · cases h
theorem k_bad (m : Nat) : (N4.all fun n => isX3 (T.call (m + 3) 3 [.tuple [.int (n : Int)], .int (n : Int)] [])) = true := by kernel_rfl
theorem c_pushbad (hn : n ∈ N4) (m : Nat) : T.call (m + 4) 123 [tokD 1, .tuple [.int (n : Int)]] (TS ns c n rows) = .exc 3 (TS ns c n rows) := by
  show Fn.d_Till__push.run (T.call (m + 3)) T.kf [tokD 1, .tuple [.int (n : Int)]] (TS ns c n rows) = _
  exact run_exc rfl (ts_exc (tx_exp (ec_call (e_cons (e_var rfl) (e_cons (e_thg (till_at rfl rfl)) e_nil)) (nt_cons rfl (nt_cons rfl nt_nil)) (isX3_eq (List.all_eq_true.mp (k_bad m) n hn)))))
theorem c_undo0 (m : Nat) : T.call (m + 1) 124 [tokD 1] (TS ns c n []) = .exc 6 (TS ns c n []) := by
  show Fn.d_Till__undo.run (T.call m) T.kf [tokD 1] (TS ns c n []) = _
  exact run_exc rfl (ts_exc (t_ifT (e_lemp (till_at rfl rfl) rfl) (ts_exc t_rse)))
theorem c_undo (m : Nat) : T.call (m + 1) 124 [tokD 1] (TS ns c n (rows ++ [a])) = .ok (tupD a) (TS ns c n rows) := by
  show Fn.d_Till__undo.run (T.call m) T.kf [tokD 1] (TS ns c n (rows ++ [a])) = _
  have h1 : cmpD .eq (.list ((rows ++ [a]).map tupD)) (.list []) = some (.bool false) := by
    rw [show cmpD .eq (.list ((rows ++ [a]).map tupD)) (.list []) = _ from c_eq (eL eS) (rows ++ [a]) []]
    cases rows <;> rfl
  have h2 : ((rows ++ [a]).map tupD)[((rows ++ [a]).map tupD).length - 1]? = some (tupD a) := by
    rw [map_snoc, List.length_append, List.length_singleton, Nat.add_sub_cancel, List.getElem?_append_right (Nat.le_refl _), Nat.sub_self]
    rfl
  refine run_ret rfl rfl (ts_nxt (t_ifF (e_lemp (till_at rfl rfl) h1) ts_nil) (ts_ret ((t_ret (e_lpop (till_at rfl rfl) h2)).trans ?_)))
  rw [map_snoc, List.dropLast_concat]
  rfl
theorem c_count (hn : n ∈ N4) (hr : ∀ b ∈ rows, b ∈ E n) (ha : a ∈ E n) (m : Nat) : T.call (m + 4) 127 [tokD 1, tupD a] (TS ns c n rows) = .ok (.int (cntB rows a)) (TS ns c n rows) := by
  show Fn.d_Till__count.run (T.call (m + 3)) T.kf [tokD 1, tupD a] (TS ns c n rows) = _
  exact run_ret rfl rfl (ts_nxt (t_exp (e_call (e_cons (e_var rfl) (e_cons (e_thg (till_at rfl rfl)) e_nil)) (nt_cons (eS.nt a) (nt_cons rfl nt_nil)) (c_check_set hn ha m)))
    (ts_ret (t_ret (e_lcal (till_at rfl rfl) (val_at rfl) (nt2 _ a) (c_counted hn hr ha (m + 1)) rfl))))
theorem c_baskets (m : Nat) : T.call (m + 1) 128 [tokD 1] (TS ns c n rows) = .ok (rowD rows) (TS ns c n rows) := by
  show Fn.d_Till__baskets.run (T.call m) T.kf [tokD 1] (TS ns c n rows) = _
  exact run_ret rfl rfl (ts_ret (t_ret (e_lcpy (till_at rfl rfl))))
theorem c_ttable (hn : n ∈ N4) (hr : ∀ b ∈ rows, b ∈ E n) (m : Nat) : T.call (m + 3) 129 [tokD 1] (TS ns c n rows) = .ok ((eL eI).f ((E n).map (cntB rows))) (TS ns c n rows) := by
  show Fn.d_Till__table.run (T.call (m + 2)) T.kf [tokD 1] (TS ns c n rows) = _
  exact run_ret rfl rfl (ts_ret (t_ret (e_cmpL eI (l := E n) (g := tupD) (v := cntB rows) (s_it (e_call (e_cons (e_thg (till_at rfl rfl)) e_nil) (nt_cons rfl nt_nil) (c_sets_of hn (m + 1))) rfl) fun u hu => ⟨_, rfl, e_lcal (till_at rfl rfl) (val_at rfl) (nt2 _ u) (c_counted hn hr hu m) rfl⟩)))
theorem c_till (hn : n ∈ N4) (S : Store) (m : Nat) : T.call (m + 4) 9001 [.int n] S = .ok (tokD S.length) (S ++ [.till n []]) := by
  have e := till_call (T := T) (n := m + 2) (fT := 9001) (fI := 9000) (chk := 1) rfl (by decide +kernel) (.int n) S
  rw [show m + 4 = m + 2 + 2 from rfl, e]
  unfold initD
  have h : pureC [PyData.int n] (T.call (m + 2) 1 [.int n]) S = .ok .none S := by
    unfold pureC
    rw [if_pos (by rfl), c_check_things hn m]
  rw [bnd_ok h]
  rfl
def ofS (n : Nat) (s : Nat) : List (List Int) := (E n).filter fun u => ((u.length : Int) == (s : Int))
theorem is_int_f (x lo hi : Int) (m : Nat) {p : Bool} (h : (decide (lo ≤ x) && decide (x ≤ hi)) = p) : T.call (m + 1) 0 [.int x, .int lo, .int hi] [] = .ok (.bool p) [] := by rw [c_is_int, h]
theorem c_most {s : Nat} (hn : n ∈ N4) (hr : ∀ b ∈ rows, b ∈ E n) (hs : s ≤ n) {mx : Int} {j : Nat} (hj : j < (ofS n s).length) (h1 : biD .max (.list (((ofS n s).map (cntB rows)).map .int)) = some (.int mx)) (h2 : indD (.list (((ofS n s).map (cntB rows)).map .int)) (.int mx) = some (.int (j : Nat))) (m : Nat) :
    T.call (m + 4) 125 [tokD 1, .int (s : Nat)] (TS ns c n rows) = .ok (tupD (ofS n s)[j]) (TS ns c n rows) := by
  show Fn.d_Till__most_often.run (T.call (m + 3)) T.kf [tokD 1, .int (s : Nat)] (TS ns c n rows) = _
  refine run_ret rfl rfl (ts_nxt (t_ifF (e_not (p := true) (e_call (e_cons (e_var rfl) (e_cons e_cst (e_cons (e_thg (till_at rfl rfl)) e_nil))) (nt_cons rfl (nt_cons rfl (nt_cons rfl nt_nil))) (is_int_f s 0 n (m + 2) (by simp; omega)))) ts_nil) ?_)
  refine ts_nxt (t_asg (e_cmpI eS (l := E n) (p := fun u => ((u.length : Int) == (s : Int))) (s_it (e_call (e_cons (e_thg (till_at rfl rfl)) e_nil) (nt_cons rfl nt_nil) (c_sets_of hn (m + 2))) rfl) fun u hu => ⟨_, rfl, e_cmp (e_bi (e_var rfl) (len_tup u)) (e_var rfl) (c_eq eI _ _), fun _ => e_var rfl⟩)) ?_
  refine ts_nxt (t_asg (e_cmpL eI (l := ofS n s) (g := tupD) (v := cntB rows) (s_it (e_var rfl) rfl) fun u hu => ⟨_, rfl, e_lcal (till_at rfl rfl) (val_at rfl) (nt2 _ u) (c_counted hn hr (List.mem_filter.mp hu).1 (m + 1)) rfl⟩)) ?_
  exact ts_ret (t_ret (e_idx (e_var rfl) (e_ind (e_var rfl) (e_bi (e_var rfl) h1) h2) (idx_nat hj)))
theorem c_mostbad {s : Nat} (hn : n ∈ N4) (hs : ¬ s ≤ n) (m : Nat) : T.call (m + 4) 125 [tokD 1, .int (s : Nat)] (TS ns c n rows) = .exc 1 (TS ns c n rows) := by
  show Fn.d_Till__most_often.run (T.call (m + 3)) T.kf [tokD 1, .int (s : Nat)] (TS ns c n rows) = _
  exact run_exc rfl (ts_exc (t_ifT (e_not (p := false) (e_call (e_cons (e_var rfl) (e_cons e_cst (e_cons (e_thg (till_at rfl rfl)) e_nil))) (nt_cons rfl (nt_cons rfl (nt_cons rfl nt_nil))) (is_int_f s 0 n (m + 2) (by simp; omega)))) (ts_exc t_rse)))
variable {S S' : Store} {x v e : PyData} {q k : Nat} {ds : List PyData} {nn : Int}
theorem is_none {d : PyData} (h : d = .none ∨ ∃ k, d = excD k) : cmpD .is_ d .none = some (.bool (match d with
    | .none => true
    | _ => false)) := by
  rcases h with rfl | ⟨k, rfl⟩ <;> rfl
theorem lc0 (ht : tokAt (tokD 1) S = some (k, .till nn ds)) {m : Nat} (h : T.call m 123 [tokD 1, x] S = .ok v S') : T.call (m + 1) 126 [tokD 1, .int 0, x] S = .ok v S' := by
  show Fn.d__law_call.run (T.call m) T.kf [tokD 1, .int 0, x] S = _
  refine run_ret rfl rfl (ts_nxt (t_asg e_cst) (ts_nxt (t_asg e_cst) (ts_nxt (t_tryN (δ' := [.val (tokD 1), .val (.int 0), .val x, .val v, .val .none, .non]) (S' := S') ?_) ?_)))
  · exact ts_nxt (t_ifT (e_cmp (e_var rfl) e_cst rfl) (ts_nxt (t_asg (e_mc1 (e_var rfl) ht (e_var rfl) h)) ts_nil)) ts_nil
  · exact ts_ret (t_ret (e_iteT (e_cmp (e_var rfl) e_cst rfl) (e_var rfl)))
theorem lc0x (ht : tokAt (tokD 1) S = some (k, .till nn ds)) {m : Nat} (h : T.call m 123 [tokD 1, x] S = .exc q S') (h7 : q < 7) (he : T.call m 76 [excD q] [] = .ok e []) : T.call (m + 1) 126 [tokD 1, .int 0, x] S = .ok e S' := by
  show Fn.d__law_call.run (T.call m) T.kf [tokD 1, .int 0, x] S = _
  refine run_ret rfl rfl (ts_nxt (t_asg e_cst) (ts_nxt (t_asg e_cst) (ts_nxt (t_tryX (δ' := [.val (tokD 1), .val (.int 0), .val x, .val .none, .val .none, .non]) (S' := S') (q := q) ?_ h7 (by unfold subE; simp)) ?_)))
  · exact ts_exc (t_ifT (e_cmp (e_var rfl) e_cst rfl) (ts_exc (tx_asg (e_mc1 (e_var rfl) ht (e_var rfl) h))))
  · exact ts_ret (t_ret (e_iteF (e_cmp (e_var rfl) e_cst rfl) (e_call (e_cons (e_var rfl) e_nil) (nt_cons rfl nt_nil) he)))
theorem lc1 (ht : tokAt (tokD 1) S = some (k, .till nn ds)) {m : Nat} (h : T.call m 124 [tokD 1] S = .ok v S') : T.call (m + 1) 126 [tokD 1, .int 1, x] S = .ok v S' := by
  show Fn.d__law_call.run (T.call m) T.kf [tokD 1, .int 1, x] S = _
  refine run_ret rfl rfl (ts_nxt (t_asg e_cst) (ts_nxt (t_asg e_cst) (ts_nxt (t_tryN (δ' := [.val (tokD 1), .val (.int 1), .val x, .val v, .val .none, .non]) (S' := S') ?_) ?_)))
  · exact ts_nxt (t_ifF (e_cmp (e_var rfl) e_cst rfl) (ts_nxt (t_ifT (e_cmp (e_var rfl) e_cst rfl) (ts_nxt (t_asg (e_mc0 (e_var rfl) ht h)) ts_nil)) ts_nil)) ts_nil
  · exact ts_ret (t_ret (e_iteT (e_cmp (e_var rfl) e_cst rfl) (e_var rfl)))
theorem lc1x (ht : tokAt (tokD 1) S = some (k, .till nn ds)) {m : Nat} (h : T.call m 124 [tokD 1] S = .exc q S') (h7 : q < 7) (he : T.call m 76 [excD q] [] = .ok e []) : T.call (m + 1) 126 [tokD 1, .int 1, x] S = .ok e S' := by
  show Fn.d__law_call.run (T.call m) T.kf [tokD 1, .int 1, x] S = _
  refine run_ret rfl rfl (ts_nxt (t_asg e_cst) (ts_nxt (t_asg e_cst) (ts_nxt (t_tryX (δ' := [.val (tokD 1), .val (.int 1), .val x, .val .none, .val .none, .non]) (S' := S') (q := q) ?_ h7 (by unfold subE; simp)) ?_)))
  · exact ts_exc (t_ifF (e_cmp (e_var rfl) e_cst rfl) (ts_exc (t_ifT (e_cmp (e_var rfl) e_cst rfl) (ts_exc (tx_asg (e_mc0 (e_var rfl) ht h))))))
  · exact ts_ret (t_ret (e_iteF (e_cmp (e_var rfl) e_cst rfl) (e_call (e_cons (e_var rfl) e_nil) (nt_cons rfl nt_nil) he)))
theorem lc2 (ht : tokAt (tokD 1) S = some (k, .till nn ds)) {m : Nat} (h : T.call m 125 [tokD 1, x] S = .ok v S') : T.call (m + 1) 126 [tokD 1, .int 2, x] S = .ok v S' := by
  show Fn.d__law_call.run (T.call m) T.kf [tokD 1, .int 2, x] S = _
  refine run_ret rfl rfl (ts_nxt (t_asg e_cst) (ts_nxt (t_asg e_cst) (ts_nxt (t_tryN (δ' := [.val (tokD 1), .val (.int 2), .val x, .val v, .val .none, .non]) (S' := S') ?_) ?_)))
  · exact ts_nxt (t_ifF (e_cmp (e_var rfl) e_cst rfl) (ts_nxt (t_ifF (e_cmp (e_var rfl) e_cst rfl) (ts_nxt (t_asg (e_mc1 (e_var rfl) ht (e_var rfl) h)) ts_nil)) ts_nil)) ts_nil
  · exact ts_ret (t_ret (e_iteT (e_cmp (e_var rfl) e_cst rfl) (e_var rfl)))
theorem lc2x (ht : tokAt (tokD 1) S = some (k, .till nn ds)) {m : Nat} (h : T.call m 125 [tokD 1, x] S = .exc q S') (h7 : q < 7) (he : T.call m 76 [excD q] [] = .ok e []) : T.call (m + 1) 126 [tokD 1, .int 2, x] S = .ok e S' := by
  show Fn.d__law_call.run (T.call m) T.kf [tokD 1, .int 2, x] S = _
  refine run_ret rfl rfl (ts_nxt (t_asg e_cst) (ts_nxt (t_asg e_cst) (ts_nxt (t_tryX (δ' := [.val (tokD 1), .val (.int 2), .val x, .val .none, .val .none, .non]) (S' := S') (q := q) ?_ h7 (by unfold subE; simp)) ?_)))
  · exact ts_exc (t_ifF (e_cmp (e_var rfl) e_cst rfl) (ts_exc (t_ifF (e_cmp (e_var rfl) e_cst rfl) (ts_exc (tx_asg (e_mc1 (e_var rfl) ht (e_var rfl) h))))))
  · exact ts_ret (t_ret (e_iteF (e_cmp (e_var rfl) e_cst rfl) (e_call (e_cons (e_var rfl) e_nil) (nt_cons rfl nt_nil) he)))
end
def forB : PyD.St → Sts
  | .for_ _ _ b => b
  | _ => .nil
def headT : Sts → PyD.St
  | .cons q _ => q
  | .nil => .pas
def B : Sts := forB (headT (dropS 5 Fn.d_law_v17.body))
abbrev en (d0 : PyData) (n : Nat) (rows : List (List Int)) (rare : Int) (u7 u8 u9 u10 u11 u12 u13 : Slot) : En := [.val d0, .val (tokD 0), .val (.int n), .val (rowD (E n)), .val (tokD 1), .val (rowD rows), .val (.int rare), u7, u8, u9, u10, u11, u12, u13]
theorem cut_last {α : Type} (xs : List α) : cutD xs none (some (-1)) = xs.dropLast := by
  unfold cutD
  rw [show HT.sIx xs.length 0 none = 0 from rfl]
  have e : HT.sIx xs.length xs.length (some (-1)) = xs.length - 1 := by
    unfold HT.sIx
    dsimp only
    rw [if_pos (by decide)]
    omega
  rw [e, List.drop_zero, Nat.sub_zero, List.dropLast_eq_take]
theorem idx_last {rs : List (List Int)} {a : List Int} : idxD (rowD (rs ++ [a])) (.int (-1)) = some (tupD a) := by
  show atI ((rs ++ [a]).map tupD) (-1) = _
  unfold atI
  have hl : ((rs ++ [a]).map tupD).length = rs.length + 1 := by simp
  rw [hl]
  have e : ixN (rs.length + 1) (-1) = some rs.length := by
    unfold ixN
    rw [if_neg (by decide), if_pos (by omega)]
    congr 1
    omega
  rw [e]
  show ((rs ++ [a]).map tupD)[rs.length]? = _
  rw [map_snoc, List.getElem?_append_right (by simp), List.length_map, Nat.sub_self]
  rfl
section
variable {d0 : PyData} {ns : List Int} {c : Int} {n : Nat} {rows : List (List Int)} {rare : Int} {u7 u8 u9 u10 u11 u12 u13 : Slot}
theorem stepA (hn : n ∈ N4) (h0 : 0 < rare) (h1 : rare < 1000000) (hne : ns ≠ []) (hr : ∀ b ∈ rows, b ∈ E n) (hl : rows.length ≤ 20) :
    ∃ rows' ns' c' u8' u9', evT (T.call 12) T.kf (headT B) (en d0 n rows rare u7 u8 u9 u10 u11 u12 u13) (TS ns c n rows) = .nxt (en d0 n rows' rare u7 u8' u9' u10 u11 u12 u13) (TS ns' c' n rows') ∧ ns' ≠ [] ∧ (∀ b ∈ rows', b ∈ E n) ∧ rows'.length ≤ 20 := by
  obtain ⟨k, S1, ⟨ns1, c1, rfl, hne1⟩, hk, e1⟩ := draw_B (B := [.till n (rows.map tupD)]) (S := TS ns c n rows) (l := rare) ⟨ns, c, rfl, hne⟩ h0 h1
  by_cases hk0 : 0 < k
  · obtain ⟨a, S2, ⟨ns2, c2, rfl, hne2⟩, ha, e2⟩ := set_drawnB (C := T.call 11) (K := T.kf) (B := [.till n (rows.map tupD)]) (S := TS ns1 c1 n rows) hn ⟨ns1, c1, rfl, hne1⟩
    have hc : cmpD .gt (.int (k : Nat)) (.int 0) = some (.bool true) := by
      show some (PyData.bool (decide ((0 : Int) < (k : Nat)))) = _
      rw [decide_eq_true (by omega)]
    by_cases h20 : rows.length = 20
    · refine ⟨rows, ns2, c2, .val (tupD a), .val (.str "baskets"), t_ifT (e_cmp (e_draw (e_var rfl) (e_var rfl) e1) e_cst hc) ?_, hne2, hr, hl⟩
      refine ts_nxt (t_asg (e_cals (e_cons (e_var rfl) (e_cons (e_var rfl) e_nil)) e2)) ?_
      refine ts_nxt (t_asg (e_cals (e_cons (e_var rfl) (e_cons e_cst (e_cons (e_var rfl) e_nil))) (lc0x (m := 11) rfl (c_push20 hn ha h20 7) (by decide) (c__law_error_2 10)))) ?_
      refine ts_nxt (t_ifT (e_cmp (e_bi (e_var rfl) (len_map tupD rows)) e_cst (show cmpD .eq (.int (rows.length : Nat)) (.int 20) = some (.bool true) by rw [show cmpD .eq (.int (rows.length : Nat)) (.int 20) = some (.bool ((rows.length : Int) == 20)) from c_eq eI _ _, h20]; rfl)) (ts_nxt (t_ifF (e_cmp (e_var rfl) e_cst rfl) ts_nil) ts_nil)) ?_
      exact ts_nil
    · refine ⟨rows ++ [a], ns2, c2, .val (tupD a), .val (.int (cntB (rows ++ [a]) a)), t_ifT (e_cmp (e_draw (e_var rfl) (e_var rfl) e1) e_cst hc) ?_, hne2, in_snoc hr ha, by rw [List.length_append, List.length_singleton]; omega⟩
      refine ts_nxt (t_asg (e_cals (e_cons (e_var rfl) (e_cons (e_var rfl) e_nil)) e2)) ?_
      refine ts_nxt (t_asg (e_cals (e_cons (e_var rfl) (e_cons e_cst (e_cons (e_var rfl) e_nil))) (lc0 (m := 11) rfl (c_push hn hr ha (by omega) 7)))) ?_
      refine ts_nxt (t_ifF (e_cmp (e_bi (e_var rfl) (len_map tupD rows)) e_cst (show cmpD .eq (.int (rows.length : Nat)) (.int 20) = some (.bool false) by rw [show cmpD .eq (.int (rows.length : Nat)) (.int 20) = some (.bool ((rows.length : Int) == 20)) from c_eq eI _ _, show ((rows.length : Int) == 20) = false from beq_eq_false_iff_ne.mpr (by omega)])) ?_) ts_nil
      refine ts_nxt (t_asg (d := rowD (rows ++ [a])) (e_bin (e_var rfl) (e_lst (e_cons (e_var rfl) e_nil)) ?_)) ?_
      · show (if (rows.map tupD).length + [tupD a].length ≤ lineD then some (PyData.list (rows.map tupD ++ [tupD a])) else none) = _
        rw [if_pos (by rw [List.length_map, List.length_singleton]; show rows.length + 1 ≤ 1000000; omega), ← map_snoc]
        rfl
      · refine ts_nxt (t_ifF (e_cmp (e_var rfl) (e_call (e_cons (e_var rfl) (e_cons (e_var rfl) e_nil)) (nt_cons (nt_row' _) (nt_cons (eS.nt a) nt_nil)) (c__law_count hn (in_snoc hr ha) ha 10)) (show cmpD .ne (.int (cntB (rows ++ [a]) a)) (.int (cntB (rows ++ [a]) a)) = some (.bool false) from ne_same rfl)) ts_nil) ts_nil
  · have hk1 : k = 0 := by omega
    subst hk1
    have hc : cmpD .gt (.int ((0 : Nat) : Int)) (.int 0) = some (.bool false) := rfl
    rcases List.eq_nil_or_concat rows with rfl | ⟨rs, a, rfl⟩
    · refine ⟨[], ns1, c1, u8, u9, t_ifF (e_cmp (e_draw (e_var rfl) (e_var rfl) e1) e_cst hc) ?_, hne1, hr, hl⟩
      refine ts_nxt (t_ifF (e_cmp (e_cals (e_cons (e_var rfl) (e_cons e_cst (e_cons e_cst e_nil))) (lc1x (m := 11) rfl (c_undo0 10) (by decide) (c__law_error_6 10))) (e_iteF (e_cmp (e_var rfl) (e_lst e_nil) rfl) e_cst) rfl) ts_nil) ?_
      exact ts_nxt (t_asg rfl) ts_nil
    · rw [List.concat_eq_append] at *
      refine ⟨rs, ns1, c1, u8, u9, t_ifF (e_cmp (e_draw (e_var rfl) (e_var rfl) e1) e_cst hc) ?_, hne1, fun b hb => hr b (List.mem_append_left _ hb), by rw [List.length_append] at hl; omega⟩
      have hne' : cmpD .ne (rowD (rs ++ [a])) (.list []) = some (.bool true) := by
        rw [show cmpD .ne (rowD (rs ++ [a])) (.list []) = some (.bool (!((rs ++ [a]) == []))) from c_ne (eL eS) (rs ++ [a]) []]
        cases rs <;> rfl
      refine ts_nxt (t_ifF (e_cmp (e_cals (e_cons (e_var rfl) (e_cons e_cst (e_cons e_cst e_nil))) (lc1 (m := 11) rfl (c_undo 10))) (e_iteT (e_cmp (e_var rfl) (e_lst e_nil) hne') (e_idx (e_var rfl) (e_neg e_cst) idx_last)) (show cmpD .ne (tupD a) (tupD a) = some (.bool false) from ne_same (okD_tup a))) ts_nil) ?_
      refine ts_nxt (t_asg (d := rowD rs) ?_) ts_nil
      show ev (T.call 12) T.kf (.slc (.var 5) .none (.some (.neg (.cst (.int 1))))) (en d0 n (rs ++ [a]) rare u7 u8 u9 u10 u11 u12 u13) (TS ns1 c1 n rs) = _
      have e : slcD none (some (-1)) (rowD (rs ++ [a])) = some (rowD rs) := by
        show some (PyData.list (cutD ((rs ++ [a]).map tupD) none (some (-1)))) = _
        rw [cut_last, map_snoc, List.dropLast_concat]
        rfl
      show M.opt (slcD none (some (-1)) (rowD (rs ++ [a]))) (TS ns1 c1 n rs) = _
      rw [e]
      rfl
theorem of_ne : (N4.all fun n => (List.range (n + 1)).all fun s => !(ofS n s).isEmpty) = true := by decide +kernel
theorem of_nil : (N4.all fun n => (ofS n (n + 1)).isEmpty) = true := by decide +kernel
theorem ofS_ne {s : Nat} (hn : n ∈ N4) (hs : s ≤ n) : ofS n s ≠ [] := fun h => by
  have z := List.all_eq_true.mp (List.all_eq_true.mp of_ne n hn) s (List.mem_range.mpr (by omega))
  rw [h] at z
  cases z
theorem ofS_nil (hn : n ∈ N4) : ofS n (n + 1) = [] := List.isEmpty_iff.mp (List.all_eq_true.mp of_nil n hn)
theorem n_le4 (hn : n ∈ N4) : n ≤ 4 := by
  simp only [N4, List.mem_cons, List.mem_nil_iff, or_false] at hn
  omega
/-- the turn's end -/
theorem stepE {m13 : Slot} {s11 s12 : PyData} {s : Nat} (hn : n ∈ N4) (hne : ns ≠ []) (hr : ∀ b ∈ rows, b ∈ E n) (hl : rows.length ≤ 20) (h12 : T.call 12 126 [tokD 1, .int 2, .int (s : Nat)] (TS ns c n rows) = .ok s12 (TS ns c n rows)) (ok : okD s12 = true) :
    ∃ ns' c' u8', evTs (T.call 12) T.kf (dropS 5 B) (en d0 n rows rare u7 u8 u9 (.val (.int (s : Nat))) (.val s11) (.val s12) m13) (TS ns c n rows) = .nxt (en d0 n rows rare u7 u8' u9 (.val (.int (s : Nat))) (.val s11) (.val s12) m13) (TS ns' c' n rows) ∧ ns' ≠ [] := by
  obtain ⟨a, S2, ⟨ns2, c2, rfl, hne2⟩, ha, e2⟩ := set_drawnB (C := T.call 11) (K := T.kf) (B := [.till n (rows.map tupD)]) (S := TS ns c n rows) hn ⟨ns, c, rfl, hne⟩
  refine ⟨ns2, c2, .val (tupD a), ?_, hne2⟩
  refine ts_nxt (t_ifF (e_bopG (g := false) (e_cmp (e_cals (e_cons (e_var rfl) (e_cons e_cst (e_cons (e_var rfl) e_nil))) h12) (e_var rfl) (ne_same ok)) (e_bop1 (e_cmp (e_cals (e_cons (e_var rfl) (e_cons e_cst (e_cons (e_tup (e_cons (e_var rfl) e_nil)) e_nil))) (lc0x (m := 11) rfl (c_pushbad hn 7) (by decide) (c__law_error_3 10))) e_cst (ne_same rfl)))) ts_nil) ?_
  refine ts_nxt (t_asg (e_cals (e_cons (e_var rfl) (e_cons (e_var rfl) e_nil)) e2)) ?_
  refine ts_nxt (t_ifF (e_bopG (g := false) (e_cmp (e_mc1 (e_var rfl) rfl (e_var rfl) (c_count hn hr ha 8)) (e_call (e_cons (e_var rfl) (e_cons (e_var rfl) e_nil)) (nt_cons (nt_row' _) (nt_cons (eS.nt a) nt_nil)) (c__law_count hn hr ha 10)) (show cmpD .ne (.int (cntB rows a)) (.int (cntB rows a)) = some (.bool false) from ne_same rfl))
    (e_bopG (g := false) (e_cmp (e_mc0 (e_var rfl) rfl (c_baskets 11)) (e_var rfl) (ne_same (okD_row rows))) (e_bop1 (e_cmp (e_mln (e_var rfl) rfl) (e_bi (e_var rfl) (len_map tupD rows)) (by rw [List.length_map]; exact ne_same rfl))))) ts_nil) ?_
  exact ts_nil
theorem turn (hn : n ∈ N4) (h0 : 0 < rare) (h1 : rare < 1000000) (hne : ns ≠ []) (hr : ∀ b ∈ rows, b ∈ E n) (hl : rows.length ≤ 20) :
    ∃ rows' ns' c' u8' u9' u10' u11' u12' u13', evTs (T.call 12) T.kf B (en d0 n rows rare u7 u8 u9 u10 u11 u12 u13) (TS ns c n rows) = .nxt (en d0 n rows' rare u7 u8' u9' u10' u11' u12' u13') (TS ns' c' n rows') ∧ ns' ≠ [] ∧ (∀ b ∈ rows', b ∈ E n) ∧ rows'.length ≤ 20 := by
  obtain ⟨rw1, ns1, c1, v8, v9, eA, hne1, hr1, hl1⟩ := stepA (d0 := d0) (c := c) (u7 := u7) (u8 := u8) (u9 := u9) (u10 := u10) (u11 := u11) (u12 := u12) (u13 := u13) hn h0 h1 hne hr hl
  obtain ⟨s, S2, ⟨ns2, c2, rfl, hne2⟩, hs, e2⟩ := draw_B (B := [.till n (rw1.map tupD)]) (S := TS ns1 c1 n rw1) (l := (n : Int) + 2) ⟨ns1, c1, rfl, hne1⟩ (by omega) (by have := n_le4 hn; omega)
  have e10 : evT (T.call 12) T.kf (headT (dropS 1 B)) (en d0 n rw1 rare u7 v8 v9 u10 u11 u12 u13) (TS ns1 c1 n rw1) = .nxt (en d0 n rw1 rare u7 v8 v9 (.val (.int (s : Nat))) u11 u12 u13) (TS ns2 c2 n rw1) :=
    t_asg (e_draw (e_var rfl) (e_bin (e_var rfl) e_cst rfl) e2)
  have e11 : evT (T.call 12) T.kf (headT (dropS 2 B)) (en d0 n rw1 rare u7 v8 v9 (.val (.int (s : Nat))) u11 u12 u13) (TS ns2 c2 n rw1) = .nxt (en d0 n rw1 rare u7 v8 v9 (.val (.int (s : Nat))) (.val (rowD (ofS n s))) u12 u13) (TS ns2 c2 n rw1) :=
    t_asg (e_cmpI eS (l := E n) (p := fun u => ((u.length : Int) == (s : Int))) (s_it (e_var rfl) rfl) fun u hu => ⟨_, rfl, e_cmp (e_bi (e_var rfl) (len_tup u)) (e_var rfl) (c_eq eI _ _), fun _ => e_var rfl⟩)
  have e12 : evT (T.call 12) T.kf (headT (dropS 3 B)) (en d0 n rw1 rare u7 v8 v9 (.val (.int (s : Nat))) (.val (rowD (ofS n s))) u12 u13) (TS ns2 c2 n rw1) = .nxt (en d0 n rw1 rare u7 v8 v9 (.val (.int (s : Nat))) (.val (rowD (ofS n s))) (.val (.str "number")) u13) (TS ns2 c2 n rw1) := t_asg e_cst
  by_cases hsn : s ≤ n
  · have hL := ofS_ne hn hsn
    have hcs : (ofS n s).map (cntB rw1) ≠ [] := fun z => hL (List.map_eq_nil_iff.mp z)
    obtain ⟨_, j, hj, mx, g1, g2⟩ := max_ind hcs
    rw [List.length_map] at hj
    obtain ⟨ns3, c3, w8, eE, hne3⟩ := stepE (d0 := d0) (c := c2) (rare := rare) (u7 := u7) (u8 := v8) (u9 := v9) (s11 := rowD (ofS n s)) (m13 := .val ((eL eI).f ((ofS n s).map (cntB rw1)))) (s := s) hn hne2 hr1 hl1 (lc2 (m := 11) rfl (c_most hn hr1 hsn hj g1 g2 7)) (okD_tup _)
    refine ⟨rw1, ns3, c3, w8, v9, .val (.int (s : Nat)), .val (rowD (ofS n s)), .val (tupD (ofS n s)[j]), .val ((eL eI).f ((ofS n s).map (cntB rw1))), ?_, hne3, hr1, hl1⟩
    refine ts_nxt eA (ts_nxt e10 (ts_nxt e11 (ts_nxt e12 (ts_nxt (t_ifT (e_cmp (e_var rfl) (e_lst e_nil) (show cmpD .ne (rowD (ofS n s)) (.list []) = some (.bool true) by
      rw [show cmpD .ne (rowD (ofS n s)) (.list []) = some (.bool (!(ofS n s == []))) from c_ne (eL eS) (ofS n s) [], show (ofS n s == []) = false from beq_eq_false_iff_ne.mpr hL]
      rfl)) ?_) eE))))
    refine ts_nxt (t_asg (e_cmpL eI (l := ofS n s) (g := tupD) (v := cntB rw1) (s_it (e_var rfl) rfl) fun u hu => ⟨_, rfl, e_call (e_cons (e_var rfl) (e_cons (e_var rfl) e_nil)) (nt_cons (nt_row' _) (nt_cons (eS.nt u) nt_nil)) (c__law_count hn hr1 (List.mem_filter.mp hu).1 10)⟩)) ?_
    exact ts_nxt (t_asg (e_idx (e_var rfl) (e_ind (e_var rfl) (e_bi (e_var rfl) g1) g2) (idx_nat hj))) ts_nil
  · have hs1 : s = n + 1 := by omega
    have hL : ofS n s = [] := by rw [hs1]; exact ofS_nil hn
    obtain ⟨ns3, c3, w8, eE, hne3⟩ := stepE (d0 := d0) (c := c2) (rare := rare) (u7 := u7) (u8 := v8) (u9 := v9) (s11 := rowD (ofS n s)) (m13 := u13) (s := s) hn hne2 hr1 hl1 (lc2x (m := 11) rfl (c_mostbad hn hsn 7) (by decide) (c__law_error_1 10)) rfl
    refine ⟨rw1, ns3, c3, w8, v9, .val (.int (s : Nat)), .val (rowD (ofS n s)), .val (.str "number"), u13, ?_, hne3, hr1, hl1⟩
    exact ts_nxt eA (ts_nxt e10 (ts_nxt e11 (ts_nxt e12 (ts_nxt (t_ifF (e_cmp (e_var rfl) (e_lst e_nil) (show cmpD .ne (rowD (ofS n s)) (.list []) = some (.bool false) by rw [hL]; rfl)) ts_nil) eE))))
end
theorem cnt_nil (rows : List (List Int)) : cntB rows [] = (rows.length : Int) := by
  unfold cntB
  rw [List.countP_eq_length.mpr (fun b _ => show subB [] b = true from rfl)]
theorem nil_E {n : Nat} (hn : n ∈ N4) : [] ∈ E n := by
  simp only [N4, List.mem_cons, List.mem_nil_iff, or_false] at hn
  rcases hn with rfl | rfl | rfl | rfl <;> decide
theorem plain (ns : List Int) (_ : ns.length ≤ 63) : ∃ S, Fn.d_law_v17.run (T.call 12) T.kf [scrD ns] [] = .ok (.bool true) S := by
  obtain ⟨ns0, c0, h0, e0⟩ := start_cons ns
  obtain ⟨q, S1, ⟨ns1, c1, rfl, h1⟩, hq, e1⟩ := draw_B (B := []) (S := [.draws ns0 c0]) (l := 4) ⟨ns0, c0, rfl, h0⟩ (by decide) (by decide)
  obtain ⟨n, hn, en'⟩ : ∃ n : Nat, n ∈ N4 ∧ 1 + (q : Int) = (n : Int) := ⟨1 + q, by simp only [N4, List.mem_cons, List.mem_nil_iff, or_false]; omega, by omega⟩
  obtain ⟨p, S2, ⟨ns2, c2, rfl, h2⟩, hp, e2⟩ := draw_B (B := [.till n []]) (S := TS ns1 c1 n []) (l := 2) ⟨ns1, c1, rfl, h1⟩ (by decide) (by decide)
  obtain ⟨rare, hr0, hr1, hrx⟩ : ∃ rare : Int, 0 < rare ∧ rare < 1000000 ∧ ([PyData.int 4, .int 30])[((p : Nat) : Int).toNat]? = some (.int rare) := by
    have : p = 0 ∨ p = 1 := by omega
    rcases this with rfl | rfl
    · exact ⟨4, by decide, by decide, rfl⟩
    · exact ⟨30, by decide, by decide, rfl⟩
  -- the loop
  obtain ⟨δ', S', hf, rows, ns3, c3, u7, u8, u9, u10, u11, u12, u13, rfl, rfl, hne, hr, hl⟩ := for_inv (b := evTs (T.call 12) T.kf B) (t := .one 7)
    (fun _ δ S => ∃ rows ns' c u7 u8 u9 u10 u11 u12 u13, δ = en (scrD ns) n rows rare u7 u8 u9 u10 u11 u12 u13 ∧ S = TS ns' c n rows ∧ ns' ≠ [] ∧ (∀ b ∈ rows, b ∈ E n) ∧ rows.length ≤ 20)
    ((List.range 26).map fun i => PyData.int (0 + (i : Nat))) 0 (en (scrD ns) n [] rare .non .non .non .non .non .non .non) (TS ns2 c2 n [])
    ⟨[], ns2, c2, .non, .non, .non, .non, .non, .non, .non, rfl, rfl, h2, (fun b hb => by cases hb), by decide⟩
    (fun j x _ δ S hI => by
      obtain ⟨rows, ns', c, u7, u8, u9, u10, u11, u12, u13, rfl, rfl, hne, hr, hl⟩ := hI
      obtain ⟨rows', ns4, c4, v8, v9, v10, v11, v12, v13, e, g1, g2, g3⟩ := turn (d0 := scrD ns) (ns := ns') (c := c) (u7 := .val x) (u8 := u8) (u9 := u9) (u10 := u10) (u11 := u11) (u12 := u12) (u13 := u13) hn hr0 hr1 hne hr hl
      exact ⟨_, _, _, rfl, e, rows', ns4, c4, _, v8, v9, v10, v11, v12, v13, rfl, rfl, g1, g2, g3⟩)
  refine ⟨TS ns3 c3 n rows, run_ret rfl rfl ?_⟩
  refine ts_nxt (t_asg (e_startK (e_var rfl) e0)) ?_
  refine ts_nxt (t_asg (d := .int (n : Int)) (e_bin e_cst (e_draw (e_var rfl) e_cst e1) (by show some (PyData.int (1 + (q : Int))) = _; rw [en']))) ?_
  refine ts_nxt (t_asg (e_call (e_cons (e_var rfl) e_nil) (nt_cons rfl nt_nil) (c__law_sets hn 11))) ?_
  refine ts_nxt (δ' := [.val (scrD ns), .val (tokD 0), .val (.int n), .val (rowD (E n)), .val (tokD 1), .val (rowD []), .non, .non, .non, .non, .non, .non, .non, .non]) (S' := TS ns1 c1 n []) ?_ ?_
  · have h : ev (T.call 12) T.kf (.tup (.cons (.tnew 9001 (.var 2)) (.cons (.lst .nil) .nil))) [.val (scrD ns), .val (tokD 0), .val (.int n), .val (rowD (E n)), .non, .non, .non, .non, .non, .non, .non, .non, .non, .non] [.draws ns1 c1] = .ok (.tuple [tokD 1, .list []]) (TS ns1 c1 n []) :=
      e_tup (e_cons (e_tnew (e_var rfl) (c_till hn [.draws ns1 c1] 8)) (e_cons (e_lst e_nil) e_nil))
    exact t_unp h
  refine ts_nxt (t_asg (e_pick (e_var rfl) (e_lst (e_cons e_cst (e_cons e_cst e_nil))) e2 hrx)) ?_
  refine ts_nxt (t_for (s_rg1 e_cst (nat_rg 26 (by decide))) hf) ?_
  refine ts_ret (t_ret ?_)
  refine e_bopG (g := true) (e_cmp (e_mc0 (e_var rfl) rfl (c_ttable hn hr 9)) (e_call (e_cons (e_var rfl) (e_cons (e_var rfl) e_nil)) (nt_cons rfl (nt_cons (nt_row' _) nt_nil)) (c__law_table hn hr 9)) (eq_same ((eL eI).ok (by decide) _))) (e_bop1 (e_cmp (e_mc1 (e_var rfl) rfl (e_tup e_nil) (c_count (a := []) hn hr (nil_E hn) 8)) (e_bi (e_var rfl) (len_map tupD rows)) ?_))
  rw [cnt_nil]
  exact eq_same rfl
end Lw

theorem PySem.Challenge.cw_oftensets_k11_whole_tills_holds : PySem.Challenge.rw_oftensets_k11_whole_tills.Holds := by
  exact Lw.holds_of Lw.plain
