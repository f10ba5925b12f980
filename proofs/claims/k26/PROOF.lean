import PyProof.Rows.All
import Wide.All
import OpenK.AllK
import Wide.FinOn
import HandS.ForMost
import HandS.Walk
import HandS.Defaults
import HandS.TupAny
import HandS.IsInst
import HandS.Style
import HandS.Deep
import HandS.More
import KE.GoesEnum
import KE.GoesZip
import KE.KDictZip
import HandS.Strs
import HandS.TupSets
import PyProof.ReprRoads
import PyProof.ReprBulk
import PyProof.ReprText
import HandS.Head0
import HandS.Head1
import HandS.Head2
import HandS.HeadEnd
import HandS.HeadHook1
import HandS.HeadHook2
import HandS.EndBits
import PySem.Challenge.RW_askthrough_k26_showings_as_moments
import HandS.Evl
import KE.KStateDown
set_option Elab.async false
set_option linter.all false
set_option maxRecDepth 100000
set_option maxHeartbeats 4000000
namespace DX
open PySem PySem.Spec PyProof.Rows L2

/-! ### data -/
inductive D where
  | non | bl (b : Bool) | int (i : Int) | str (s : String) | tup (ds : List D) | lst (ds : List D) | ref (a : Addr) | ty (n : String) | ktup (ds : List D) | klst (ds : List D)
  deriving Inhabited
/-- a dict's key -/
abbrev DK := Sum Int String
inductive Cell where
  | lst (ds : List D) | dK (kvs : List (DK × D)) | dT (kvs : List (List DK × D))
abbrev DHp := Addr → Option Cell
abbrev DSt := List (Option D)
abbrev DQ := D → DHp → Prop
abbrev DE := DSt → DHp → DQ → Prop
abbrev DT := DSt → DHp → (Bool → DHp → Prop) → Prop
abbrev DA := DSt → DHp → (List D → DHp → Prop) → Prop
structure DEnds where
  nx : DSt → DHp → Prop
  rt : DQ
  bk : DSt → DHp → Prop := fun _ _ => False
  ct : DSt → DHp → Prop := fun _ _ => False
abbrev DS := DEnds → DSt → DHp → Prop
def updD (h : DHp) (a : Addr) (c : Cell) : DHp := fun b => if b = a then some c else h b
theorem updD_same {h : DHp} {a : Addr} {c : Cell} : updD h a c a = some c := by unfold updD; rw [if_pos rfl]
theorem updD_ne {h : DHp} {a b : Addr} {c : Cell} (e : b ≠ a) : updD h a c b = h b := by unfold updD; rw [if_neg e]
def delD (h : DHp) (a : Addr) : DHp := fun b => if b = a then none else h b

theorem ofString_inj {a b : String} (h : Str.ofString a = Str.ofString b) : a = b := by
  rw [Str.ofString_eq_toList, Str.ofString_eq_toList] at h
  have h1 : a.toList.map Char.toNat = b.toList.map Char.toNat := by
    have := congrArg (fun z : Str => z.cps.toList) h
    simpa using this
  have inj : ∀ (x y : List Char), x.map Char.toNat = y.map Char.toNat → x = y := by
    intro x
    induction x with
    | nil => intro y e; cases y with
      | nil => rfl
      | cons _ _ => simp at e
    | cons c x ih => intro y e; cases y with
      | nil => simp at e
      | cons d y =>
        simp only [List.map_cons, List.cons.injEq] at e
        rw [ih y e.2]
        congr 1
        exact Char.ext (UInt32.toNat_inj.mp e.1)
  exact String.toList_inj.mp (inj _ _ h1)
def toKey : DK → Key
  | .inl i => .inl i
  | .inr s => .inr (Str.ofString s)
theorem toKey_inj : ∀ {a b : DK}, toKey a = toKey b → a = b
  | .inl i, .inl j, h => by cases h; rfl
  | .inr s, .inr t, h => by rw [ofString_inj (Sum.inr.inj h)]
  | .inl _, .inr _, h => nomatch h
  | .inr _, .inl _, h => nomatch h

/-! ### what stands for what -/
/-- a list that is never changed again: one of F's, or the law's own script -/
def FzL (F : Addr → Prop) (H : Hp) (a : Addr) (xs : List V) : Prop := (F a ∧ H a = some (.lst xs)) ∨ ∃ o, H a = some (.frz o (.lst xs))
/-- a tuple whose object is known: of the written part, or noted as it was made -/
def KTup (K : PySem.W.Frag) (H : Hp) (a : Addr) (xs : List V) : Prop := ∃ (o : Obj) (its : Array Value) (n : Nat), o.cls = .type "tuple" ∧ o.dict = none ∧ o.data = .seq its n ∧ its.size ≤ sizeLine ∧ Vals xs its.toList ∧ (K.lookup a = some o ∨ H a = some (.frz o (.tup xs)))
/-- a list of the written part -/
def KLst (K : PySem.W.Frag) (a : Addr) (xs : List V) : Prop := ∃ (o : Obj) (its : Array Value) (n : Nat), K.lookup a = some o ∧ o.cls = .type "list" ∧ o.dict = none ∧ o.data = .seq its n ∧ its.size ≤ sizeLine ∧ Vals xs its.toList
mutual
inductive Rp (K : PySem.W.Frag) (F : Addr → Prop) (H : Hp) : V → D → Prop
  | non : Rp K F H .non .non
  | bl (b : Bool) : Rp K F H (.bl b) (.bl b)
  | int (i : Int) : Rp K F H (.int i) (.int i)
  | str (s : String) : Rp K F H (.str (Str.ofString s)) (.str s)
  | ref (a : Addr) : Rp K F H (.ref a) (.ref a)
  | ty (n : String) : Rp K F H (.ty n) (.ty n)
  | tup {a : Addr} {xs : List V} {ds : List D} : H a = some (.tup xs) → Rps K F H xs ds → Rp K F H (.ref a) (.tup ds)
  | lst {a : Addr} {xs : List V} {ds : List D} : FzL F H a xs → Rps K F H xs ds → Rp K F H (.ref a) (.lst ds)
  | ktup {a : Addr} {xs : List V} {ds : List D} : KTup K H a xs → Rps K F H xs ds → Rp K F H (.ref a) (.ktup ds)
  | klst {a : Addr} {xs : List V} {ds : List D} : KLst K a xs → Rps K F H xs ds → Rp K F H (.ref a) (.klst ds)
inductive Rps (K : PySem.W.Frag) (F : Addr → Prop) (H : Hp) : List V → List D → Prop
  | nil : Rps K F H [] []
  | cons {v : V} {vs : List V} {d : D} {ds : List D} : Rp K F H v d → Rps K F H vs ds → Rps K F H (v :: vs) (d :: ds)
end
structure Le (F : Addr → Prop) (H : Hp) (F' : Addr → Prop) (H' : Hp) : Prop where
  f : ∀ a, F a → F' a
  tup : ∀ a xs, H a = some (.tup xs) → H' a = some (.tup xs)
  frz : ∀ a o u, H a = some (.frz o u) → H' a = some (.frz o u)
  fz : ∀ a xs, F a → H a = some (.lst xs) → H' a = some (.lst xs)
section
variable {K : PySem.W.Frag} {F F' F2 : Addr → Prop} {H H' H2 : Hp} {a : Addr}
theorem Le.refl : Le F H F H := ⟨fun _ x => x, fun _ _ x => x, fun _ _ _ x => x, fun _ _ _ x => x⟩
theorem Le.trans (p : Le F H F' H') (q : Le F' H' F2 H2) : Le F H F2 H2 :=
  ⟨fun a x => q.f a (p.f a x), fun a xs x => q.tup a xs (p.tup a xs x), fun a o u x => q.frz a o u (p.frz a o u x), fun a xs f x => q.fz a xs (p.f a f) (p.fz a xs f x)⟩
theorem Le.new {o : HO} (hn : H a = none) : Le F H F (upd H a o) :=
  ⟨fun _ x => x, fun b xs x => by rw [upd_ne (ne_of_none x hn)]; exact x, fun b _ _ x => by rw [upd_ne (ne_of_none x hn)]; exact x, fun b _ _ x => by rw [upd_ne (ne_of_none x hn)]; exact x⟩
/-- a change at what isn't frozen, of a changeable thing -/
theorem Le.mut {o o' : HO} (hf : ¬ F a) (ha : H a = some o) (hm : Mut (some o)) : Le F H F (upd H a o') := by
  have ne : ∀ b u, H b = some u → ¬ Mut (some u) → b ≠ a := fun b u e n z => by subst z; rw [ha] at e; cases e; exact n hm
  exact ⟨fun _ x => x, fun b xs x => by rw [upd_ne (ne b _ x (fun z => z))]; exact x, fun b _ _ x => by rw [upd_ne (ne b _ x (fun z => z))]; exact x,
    fun b _ f x => by rw [upd_ne (fun z => by subst z; exact hf f)]; exact x⟩
theorem SqT.le {xs : List V} (l : Le F H F' H') (h : SqT K H a xs) : SqT K H' a xs := by
  rcases h with (h | ⟨o, h⟩) | h
  · exact .inl (.inl (l.tup _ _ h))
  · exact .inl (.inr ⟨o, l.frz _ _ _ h⟩)
  · exact .inr h
theorem FzL.le {xs : List V} (l : Le F H F' H') (h : FzL F H a xs) : FzL F' H' a xs := by
  rcases h with ⟨f, h⟩ | ⟨o, h⟩
  · exact .inl ⟨l.f _ f, l.fz _ _ f h⟩
  · exact .inr ⟨o, l.frz _ _ _ h⟩
theorem FzL.rd {xs : List V} (h : FzL F H a xs) : Rd H a (.lst xs) := by
  rcases h with ⟨_, h⟩ | ⟨o, h⟩
  · exact .inl h
  · exact .inr ⟨o, h⟩
theorem FzL.sq {xs : List V} (h : FzL F H a xs) : SqL K H a xs := .inl h.rd
theorem KTup.sq {xs : List V} (h : KTup K H a xs) : SqT K H a xs := by
  obtain ⟨o, its, n, h1, h2, h3, h4, h5, h6 | h6⟩ := h
  · exact .inr ⟨o, its, n, h6, h1, h3, h4, h5⟩
  · exact .inl (.inr ⟨o, h6⟩)
theorem KTup.le {xs : List V} (l : Le F H F' H') (h : KTup K H a xs) : KTup K H' a xs := by
  obtain ⟨o, its, n, h1, h2, h3, h4, h5, h6 | h6⟩ := h
  · exact ⟨o, its, n, h1, h2, h3, h4, h5, .inl h6⟩
  · exact ⟨o, its, n, h1, h2, h3, h4, h5, .inr (l.frz _ _ _ h6)⟩
mutual
theorem Rp.le (l : Le F H F' H') : ∀ {v : V} {d : D}, Rp K F H v d → Rp K F' H' v d
  | _, _, .non => .non
  | _, _, .bl b => .bl b
  | _, _, .int i => .int i
  | _, _, .str s => .str s
  | _, _, .ref a => .ref a
  | _, _, .ty n => .ty n
  | _, _, .tup h r => .tup (l.tup _ _ h) (Rps.le l r)
  | _, _, .ktup h r => .ktup (KTup.le l h) (Rps.le l r)
  | _, _, .klst h r => .klst h (Rps.le l r)
  | _, _, .lst h r => .lst (FzL.le l h) (Rps.le l r)
theorem Rps.le (l : Le F H F' H') : ∀ {vs : List V} {ds : List D}, Rps K F H vs ds → Rps K F' H' vs ds
  | _, _, .nil => .nil
  | _, _, .cons r t => .cons (Rp.le l r) (Rps.le l t)
end
theorem Rps.length : ∀ {vs : List V} {ds : List D}, Rps K F H vs ds → vs.length = ds.length
  | _, _, .nil => rfl
  | _, _, .cons _ t => congrArg Nat.succ (Rps.length t)
theorem Rps.append : ∀ {vs ws : List V} {ds es : List D}, Rps K F H vs ds → Rps K F H ws es → Rps K F H (vs ++ ws) (ds ++ es)
  | _, _, _, _, .nil, s => s
  | _, _, _, _, .cons r t, s => .cons r (Rps.append t s)
theorem Rps.take : ∀ {vs : List V} {ds : List D} (n : Nat), Rps K F H vs ds → Rps K F H (vs.take n) (ds.take n)
  | _, _, 0, _ => .nil
  | _, _, _ + 1, .nil => .nil
  | _, _, n + 1, .cons r t => .cons r (Rps.take n t)
theorem Rps.drop : ∀ {vs : List V} {ds : List D} (n : Nat), Rps K F H vs ds → Rps K F H (vs.drop n) (ds.drop n)
  | _, _, 0, r => r
  | _, _, _ + 1, .nil => .nil
  | _, _, n + 1, .cons _ t => Rps.drop n t
theorem Rps.get : ∀ {vs : List V} {ds : List D} {i : Nat} {d : D}, Rps K F H vs ds → ds[i]? = some d → ∃ v, vs[i]? = some v ∧ Rp K F H v d
  | _, _, _, _, .nil, e => by simp at e
  | _, _, 0, _, .cons r _, e => by simp at e; subst e; exact ⟨_, rfl, r⟩
  | _, _, i + 1, d, .cons _ t, e => by
    obtain ⟨v, h1, h2⟩ := Rps.get (i := i) (d := d) t (by simpa using e)
    exact ⟨v, by simpa using h1, h2⟩
theorem Rps.getV : ∀ {vs : List V} {ds : List D} {i : Nat} {v : V}, Rps K F H vs ds → vs[i]? = some v → ∃ d, ds[i]? = some d ∧ Rp K F H v d
  | _, _, _, _, .nil, e => by simp at e
  | _, _, 0, _, .cons r _, e => by simp at e; subst e; exact ⟨_, rfl, r⟩
  | _, _, i + 1, d, .cons _ t, e => by
    obtain ⟨v, h1, h2⟩ := Rps.getV (i := i) (v := d) t (by simpa using e)
    exact ⟨v, by simpa using h1, h2⟩
theorem Rps.set {v : V} {d : D} (r : Rp K F H v d) : ∀ {vs : List V} {ds : List D} (i : Nat), Rps K F H vs ds → Rps K F H (vs.set i v) (ds.set i d)
  | _, _, _, .nil => .nil
  | _, _, 0, .cons _ t => .cons r t
  | _, _, i + 1, .cons q t => .cons q (Rps.set r i t)
theorem Rps.eraseIdx : ∀ {vs : List V} {ds : List D} (i : Nat), Rps K F H vs ds → Rps K F H (vs.eraseIdx i) (ds.eraseIdx i)
  | _, _, _, .nil => .nil
  | _, _, 0, .cons _ t => t
  | _, _, i + 1, .cons r t => .cons r (Rps.eraseIdx i t)
theorem Rps.dropLast : ∀ {vs : List V} {ds : List D}, Rps K F H vs ds → Rps K F H vs.dropLast ds.dropLast
  | _, _, .nil => .nil
  | _, _, .cons _ .nil => .nil
  | _, _, .cons r (.cons q t) => .cons r (Rps.dropLast (.cons q t))
theorem Rps.reverse : ∀ {vs : List V} {ds : List D}, Rps K F H vs ds → Rps K F H vs.reverse ds.reverse
  | _, _, .nil => .nil
  | _, _, .cons r t => by rw [List.reverse_cons, List.reverse_cons]; exact (Rps.reverse t).append (.cons r .nil)
end

/-! ### the changeable cells -/
/-- a key and its worth -/
def RKv (K : PySem.W.Frag) (F : Addr → Prop) (H : Hp) (p : Key × V) (q : DK × D) : Prop := p.1 = toKey q.1 ∧ Rp K F H p.2 q.2
def RTv (K : PySem.W.Frag) (F : Addr → Prop) (H : Hp) (p : List Key × V) (q : List DK × D) : Prop := p.1 = q.1.map toKey ∧ Rp K F H p.2 q.2
def CellOk (K : PySem.W.Frag) (F : Addr → Prop) (H : Hp) (a : Addr) : Cell → Prop
  | .lst ds => ∃ xs, H a = some (.lst xs) ∧ Rps K F H xs ds
  | .dK kvs => ∃ ks, H a = some (.dK ks) ∧ Paired (RKv K F H) ks kvs
  | .dT kvs => ∃ ks, H a = some (.dT ks) ∧ Paired (RTv K F H) ks kvs
structure Hd (K : PySem.W.Frag) (F : Addr → Prop) (H : Hp) (h : DHp) : Prop where
  cell : ∀ a c, h a = some c → CellOk K F H a c ∧ ¬ F a
  dom : ∀ a, F a → ∃ xs, H a = some (.lst xs)
section
variable {K : PySem.W.Frag} {F F' F2 : Addr → Prop} {H H' H2 : Hp} {h h' : DHp} {a : Addr} {c : Cell}
theorem CellOk.le (l : Le F H F' H') (e : H' a = H a) (k : CellOk K F H a c) : CellOk K F' H' a c := by
  cases c with
  | lst ds => obtain ⟨xs, h1, r⟩ := k; exact ⟨xs, e.trans h1, r.le l⟩
  | dK kvs => obtain ⟨ks, h1, r⟩ := k; exact ⟨ks, e.trans h1, Paired.mapP r fun p q z => ⟨z.1, z.2.le l⟩⟩
  | dT kvs => obtain ⟨ks, h1, r⟩ := k; exact ⟨ks, e.trans h1, Paired.mapP r fun p q z => ⟨z.1, z.2.le l⟩⟩
theorem CellOk.some (k : CellOk K F H a c) : ∃ o, H a = some o ∧ Mut (some o) := by
  cases c with
  | lst ds => obtain ⟨xs, h1, r⟩ := k; exact ⟨_, h1, trivial⟩
  | dK kvs => obtain ⟨ks, h1, r⟩ := k; exact ⟨_, h1, trivial⟩
  | dT kvs => obtain ⟨ks, h1, r⟩ := k; exact ⟨_, h1, trivial⟩
theorem Hd.none (k : Hd K F H h) (e : H a = none) : h a = none := by
  cases q : h a with
  | none => rfl
  | some c => obtain ⟨o, h1, _⟩ := (k.cell a c q).1.some; rw [e] at h1; cases h1
theorem Hd.nf (k : Hd K F H h) (e : H a = Option.none) : ¬ F a := fun f => by
  obtain ⟨xs, h1⟩ := k.dom a f
  rw [e] at h1; cases h1
theorem Hd.domLe (k : Hd K F H h) (l : Le F H F H') : ∀ a, F a → ∃ xs, H' a = Option.some (.lst xs) := fun a f => by
  obtain ⟨xs, h1⟩ := k.dom a f
  exact ⟨xs, l.fz a xs f h1⟩
/-- nothing that is told was touched -/
theorem Hd.new {o : HO} (k : Hd K F H h) (e : H a = Option.none) : Hd K F (upd H a o) h := ⟨fun b c q =>
  have ne : b ≠ a := fun z => by subst z; rw [k.none e] at q; cases q
  ⟨(k.cell b c q).1.le (Le.new e) (upd_ne ne), (k.cell b c q).2⟩, k.domLe (Le.new e)⟩
theorem Le.newF {xs : List V} (e : H a = Option.none) : Le F H (fun b => F b ∨ b = a) (upd H a (.lst xs)) :=
  ⟨fun _ x => .inl x, (Le.new (F := F) e).tup, (Le.new (F := F) e).frz, (Le.new (F := F) e).fz⟩
theorem Hd.newF {xs : List V} (k : Hd K F H h) (e : H a = Option.none) : Hd K (fun b => F b ∨ b = a) (upd H a (.lst xs)) h := ⟨fun b c q =>
  have ne : b ≠ a := fun z => by subst z; rw [k.none e] at q; cases q
  ⟨(k.cell b c q).1.le (Le.newF e) (upd_ne ne), fun z => z.elim (k.cell b c q).2 ne⟩, fun b f => f.elim (fun f => k.domLe (Le.new e) b f) fun f => ⟨xs, by rw [f]; exact upd_same⟩⟩
/-- a new cell -/
theorem Hd.add {o : HO} (k : Hd K F H h) (e : H a = Option.none) (new : CellOk K F (upd H a o) a c) : Hd K F (upd H a o) (updD h a c) := ⟨fun b u q => by
  by_cases hb : b = a
  · subst hb; rw [updD_same] at q; cases q; exact ⟨new, k.nf e⟩
  · rw [updD_ne hb] at q; exact (k.new e).cell b u q, k.domLe (Le.new e)⟩
/-- a cell is changed -/
theorem Hd.set {o : HO} {c0 : Cell} (k : Hd K F H h) (e : h a = some c0) (new : Le F H F (upd H a o) → CellOk K F (upd H a o) a c) : Le F H F (upd H a o) ∧ Hd K F (upd H a o) (updD h a c) := by
  obtain ⟨k1, hf⟩ := k.cell a c0 e
  obtain ⟨o0, h1, m⟩ := k1.some
  have l : Le F H F (upd H a o) := Le.mut hf h1 m
  refine ⟨l, fun b u q => ?_, k.domLe l⟩
  by_cases hb : b = a
  · subst hb; rw [updD_same] at q; cases q; exact ⟨new l, hf⟩
  · rw [updD_ne hb] at q
    exact ⟨(k.cell b u q).1.le l (upd_ne hb), (k.cell b u q).2⟩
theorem Le.fz1 : Le F H (fun b => F b ∨ b = a) H := ⟨fun _ x => .inl x, fun _ _ x => x, fun _ _ _ x => x, fun _ _ _ x => x⟩
/-- a list is frozen -/
theorem Hd.freeze {ds : List D} (k : Hd K F H h) (e : h a = some (.lst ds)) : Hd K (fun b => F b ∨ b = a) H (delD h a) ∧ Rp K (fun b => F b ∨ b = a) H (.ref a) (.lst ds) := by
  obtain ⟨⟨xs, h1, r⟩, hf⟩ := k.cell a _ e
  refine ⟨⟨fun b u q => ?_, fun b f => f.elim (k.dom b) fun f => ⟨xs, by rw [f]; exact h1⟩⟩, .lst (.inl ⟨.inr rfl, h1⟩) (r.le Le.fz1)⟩
  unfold delD at q
  by_cases hb : b = a
  · rw [if_pos hb] at q; cases q
  · rw [if_neg hb] at q
    exact ⟨(k.cell b u q).1.le Le.fz1 rfl, fun z => z.elim (k.cell b u q).2 hb⟩
theorem Hd.del (k : Hd K F H h) : Hd K F H (delD h a) := ⟨fun b u q => by
  unfold delD at q
  by_cases hb : b = a
  · rw [if_pos hb] at q; cases q
  · rw [if_neg hb] at q; exact k.cell b u q, k.dom⟩
end
end DX

set_option maxRecDepth 100000
set_option maxHeartbeats 4000000
namespace DX
open PySem PySem.Spec PyProof.Rows L2

/-! ### slots -/
def Rs (K : PySem.W.Frag) (F : Addr → Prop) (H : Hp) (σ : L2.St) (ρ : DSt) : Prop :=
  σ.length = ρ.length ∧ ∀ (i : Nat) (d : D), ρ[i]? = some (some d) → ∃ v, σ[i]? = some (some v) ∧ Rp K F H v d
section
variable {K : PySem.W.Frag} {F F' F2 : Addr → Prop} {H H' H2 : Hp} {σ : L2.St} {ρ : DSt} {h : DHp}
theorem Rs.le (s : Rs K F H σ ρ) (l : Le F H F' H') : Rs K F' H' σ ρ := ⟨s.1, fun i d e => let ⟨v, h1, h2⟩ := s.2 i d e; ⟨v, h1, h2.le l⟩⟩
theorem Rs.set {v : V} {d : D} (s : Rs K F H σ ρ) (i : Nat) (r : Rp K F H v d) : Rs K F H (σ.set i (some v)) (ρ.set i (some d)) := by
  refine ⟨by rw [List.length_set, List.length_set]; exact s.1, fun j e he => ?_⟩
  by_cases hj : i = j
  · subst hj
    by_cases hl : i < ρ.length
    · rw [List.getElem?_set_self hl] at he
      cases he
      exact ⟨v, by rw [List.getElem?_set_self (by rw [s.1]; exact hl)], r⟩
    · rw [List.getElem?_eq_none (by rw [List.length_set]; omega)] at he; cases he
  · rw [List.getElem?_set_ne hj] at he ⊢
    exact s.2 j e he
/-- the slots of a block's own names forgotten -/
def wipeD (ρ : DSt) : List Nat → DSt
  | [] => ρ
  | v :: vs => (wipeD ρ vs).set v none
theorem wipeD_length (ρ : DSt) : ∀ vs : List Nat, (wipeD ρ vs).length = ρ.length
  | [] => rfl
  | v :: vs => by unfold wipeD; rw [List.length_set, wipeD_length ρ vs]
theorem Rs.wipe (s : Rs K F H σ ρ) : ∀ vs : List Nat, Rs K F H (wipe σ vs) (wipeD ρ vs)
  | [] => s
  | v :: vs => by
    have ih := Rs.wipe s vs
    unfold L2.wipe wipeD
    refine ⟨by rw [List.length_set, List.length_set]; exact ih.1, fun j e he => ?_⟩
    by_cases hj : v = j
    · subst hj
      by_cases hl : v < (wipeD ρ vs).length
      · rw [List.getElem?_set_self hl] at he; cases he
      · rw [List.getElem?_eq_none (by rw [List.length_set]; omega)] at he; cases he
    · rw [List.getElem?_set_ne hj] at he ⊢
      exact ih.2 j e he
theorem Rs.start {vs : List V} {ds : List D} (r : Rps K F H vs ds) (n : Nat) : Rs K F H (vs.map some ++ List.replicate n none) (ds.map some ++ List.replicate n none) := by
  refine ⟨by simp [r.length], fun i d e => ?_⟩
  by_cases hi : i < ds.length
  · rw [List.getElem?_append_left (by simpa using hi), List.getElem?_map] at e
    obtain ⟨d', e1, e2⟩ := Option.map_eq_some_iff.mp e
    cases e2
    obtain ⟨v, h1, h2⟩ := r.get e1
    exact ⟨v, by rw [List.getElem?_append_left (by simpa [r.length] using hi), List.getElem?_map, h1]; rfl, h2⟩
  · rw [List.getElem?_append_right (by simpa using hi)] at e
    have := List.mem_of_getElem? e
    simp at this
end

/-! ### readings over data -/
def Kont (K : PySem.W.Frag) (F : Addr → Prop) (H : Hp) (Q' : DQ) (Q : VK) : Prop := ∀ F' d h' v H', Le F H F' H' → Rp K F' H' v d → Hd K F' H' h' → Q' d h' → Q v H'
def tD (K : PySem.W.Frag) (r : DE) : TE := fun σ H Q => ∃ F ρ h Q', Rs K F H σ ρ ∧ Hd K F H h ∧ r ρ h Q' ∧ Kont K F H Q' Q
def tDT (K : PySem.W.Frag) (r : DT) : TT := fun σ H Q => ∃ F ρ h Q', Rs K F H σ ρ ∧ Hd K F H h ∧ r ρ h Q' ∧ ∀ F' b h' H', Le F H F' H' → Hd K F' H' h' → Q' b h' → Q b H'
def tDA (K : PySem.W.Frag) (r : DA) : TA := fun σ H Q => ∃ F ρ h Q', Rs K F H σ ρ ∧ Hd K F H h ∧ r ρ h Q' ∧ ∀ F' ds h' vs H', Le F H F' H' → Rps K F' H' vs ds → Hd K F' H' h' → Q' ds h' → Q vs H'
structure KontS (K : PySem.W.Frag) (F : Addr → Prop) (H : Hp) (E : DEnds) (Q : Ends) : Prop where
  nx : ∀ F' ρ' h' σ' H', Le F H F' H' → Rs K F' H' σ' ρ' → Hd K F' H' h' → E.nx ρ' h' → Q.nx σ' H'
  rt : Kont K F H E.rt Q.rt
  bk : ∀ F' ρ' h' σ' H', Le F H F' H' → Rs K F' H' σ' ρ' → Hd K F' H' h' → E.bk ρ' h' → Q.bk σ' H'
  ct : ∀ F' ρ' h' σ' H', Le F H F' H' → Rs K F' H' σ' ρ' → Hd K F' H' h' → E.ct ρ' h' → Q.ct σ' H'
def tDS (K : PySem.W.Frag) (r : DS) : TS := fun Q σ H => ∃ F ρ h E, Rs K F H σ ρ ∧ Hd K F H h ∧ r E ρ h ∧ KontS K F H E Q
abbrev PDE (X : Cx) (e : Expr) (r : DE) : Prop := PE X e (tD X.K r)
abbrev PDT (X : Cx) (e : Expr) (r : DT) : Prop := PT X e (tDT X.K r)
abbrev PDA (X : Cx) (es : List Expr) (r : DA) : Prop := PA X es (tDA X.K r)
abbrev PDS (X : Cx) (st : Stmt) (r : DS) : Prop := PS X st (tDS X.K r)
abbrev PDSs (X : Cx) (st : List Stmt) (r : DS) : Prop := PSs X st (tDS X.K r)
section
variable {K : PySem.W.Frag} {F F' F2 : Addr → Prop} {H H' H2 : Hp} {σ : L2.St} {ρ : DSt} {h : DHp} {Q' : DQ} {Q : VK} {E : DEnds} {D' : Ends}
theorem Kont.le (k : Kont K F H Q' Q) (l : Le F H F' H') : Kont K F' H' Q' Q := fun F2 d h' v H2 l2 => k F2 d h' v H2 (l.trans l2)
theorem KontS.le (k : KontS K F H E D') (l : Le F H F' H') : KontS K F' H' E D' :=
  ⟨fun F2 r h' s H2 l2 => k.nx F2 r h' s H2 (l.trans l2), k.rt.le l, fun F2 r h' s H2 l2 => k.bk F2 r h' s H2 (l.trans l2), fun F2 r h' s H2 l2 => k.ct F2 r h' s H2 (l.trans l2)⟩
end
section
variable {X : Cx} {e a b c : Expr} {es : List Expr} {st : Stmt} {sts : List Stmt} {pos : Pos}
theorem impE {t t' : TE} (h : PE X e t) (i : ∀ σ H Q, t' σ H Q → t σ H Q) : PE X e t' := ⟨fun pins s σ H Q I q => h.run pins s σ H Q I (i _ _ _ q)⟩
theorem impT {t t' : TT} (h : PT X e t) (i : ∀ σ H Q, t' σ H Q → t σ H Q) : PT X e t' := ⟨fun pins s σ H Q I q => h.run pins s σ H Q I (i _ _ _ q)⟩
theorem impA {t t' : TA} (h : PA X es t) (i : ∀ σ H Q, t' σ H Q → t σ H Q) : PA X es t' := ⟨fun pos pins s σ H Q I q => h.run pos pins s σ H Q I (i _ _ _ q)⟩
theorem impS {t t' : TS} (h : PS X st t) (i : ∀ D σ H, t' D σ H → t D σ H) : PS X st t' := ⟨fun pins s σ H D I q => h.run pins s σ H D I (i _ _ _ q)⟩
theorem impSs {t t' : TS} (h : PSs X sts t) (i : ∀ D σ H, t' D σ H → t D σ H) : PSs X sts t' := ⟨fun pins s σ H D I q => h.run pins s σ H D I (i _ _ _ q)⟩

/-! ### names, constants -/
def rVar (i : Nat) : DE := fun ρ h Q => ∃ d, ρ[i]? = some (some d) ∧ Q d h
def rC (d : D) : DE := fun _ h Q => Q d h
theorem de_var (i : Nat) {x : Str} {N : List Str} {sc : Scope} (hN : X.N = N) (hs : X.env.scope = sc) (hi : N[i]? = some x) (hv : Vis sc x) (hd : (x == ("__debug__" : Str)) = false) (hcd : (x == ("__classdict__" : Str)) = false) : PDE X (.Name x pos) (rVar i) := by
  subst hN hs
  refine impE (pe_var hi hv hd hcd) fun σ H Q q => ?_
  obtain ⟨F, ρ, h, Q', s, d, ⟨x, e, q⟩, k⟩ := q
  obtain ⟨v, e2, r⟩ := s.2 i x e
  exact ⟨v, e2, k F x h v H .refl r d q⟩
theorem de_c {d : D} {v : V} (he : PE X e (tC v)) (r : ∀ F H, Rp X.K F H v d) : PDE X e (rC d) := impE he fun σ H Q q => by
  obtain ⟨F, ρ, h, Q', s, hd, q, k⟩ := q
  exact k F d h v H .refl (r F H) hd q
theorem de_int {i j} : PDE X (.Constant (.int i) j pos) (rC (.int i)) := de_c pe_int fun _ _ => .int i
theorem de_bl {b j} : PDE X (.Constant (.bool b) j pos) (rC (.bl b)) := de_c pe_bl fun _ _ => .bl b
theorem de_non {j} : PDE X (.Constant .none j pos) (rC .non) := de_c pe_non fun _ _ => .non
theorem de_str {x : String} {j} : PDE X (.Constant (.str (Str.ofString x)) j pos) (rC (.str x)) := de_c pe_str fun _ _ => .str x
/-- a module's constant -/
theorem de_glob {x : Str} {d : D} {v : V} {u : Value} {sc : Scope} (hs : X.env.scope = sc) (hg : sc.names.lookup x = some .globalImplicit) (hm : X.mg x = some u) (r : RelV v u) (r2 : ∀ F H, Rp X.K F H v d) (hd : (x == ("__debug__" : Str)) = false) : PDE X (.Name x pos) (rC d) :=
  de_c (pe_glob (by subst hs; exact hg) hm r hd) r2

/-! ### two-place operations -/
def tDOp (K : PySem.W.Frag) (rR : D → D → DHp → DQ → Prop) : R2 := fun x y H Q => ∃ F h dx dy Q', Rp K F H x dx ∧ Rp K F H y dy ∧ Hd K F H h ∧ rR dx dy h Q' ∧ Kont K F H Q' Q
abbrev DOp (X : Cx) (f : Value → Value → Sem Value) (rR : D → D → DHp → DQ → Prop) : Prop := OpR X f (tDOp X.K rR)
def rOp (rR : D → D → DHp → DQ → Prop) (ra rb : DE) : DE := fun ρ h Q => ra ρ h fun x h1 => rb ρ h1 fun y h2 => rR x y h2 Q
variable {ra rb rc : DE} {rR rR' : D → D → DHp → DQ → Prop}
theorem impO {f : Value → Value → Sem Value} {r r' : R2} (h : OpR X f r) (i : ∀ x y H Q, r' x y H Q → r x y H Q) : OpR X f r' := fun pins s σ H x y v u Q I rx ry q => h pins s σ H x y v u Q I rx ry (i _ _ _ _ q)
theorem impI {r r' : R2} (h : IxR X r) (i : ∀ x y H Q, r' x y H Q → r x y H Q) : IxR X r' := fun a b pins s σ H x y v u Q I rx ry q => h a b pins s σ H x y v u Q I rx ry (i _ _ _ _ q)
theorem tD_op {K : PySem.W.Frag} {σ : L2.St} {H : Hp} {Q : VK} (q : tD K (rOp rR ra rb) σ H Q) : tOp (tDOp K rR) (tD K ra) (tD K rb) σ H Q := by
  obtain ⟨F, ρ, h, Q', s, d, r, k⟩ := q
  exact ⟨F, ρ, h, _, s, d, r, fun F1 x h1 v1 H1 l1 rx d1 q1 => ⟨F1, ρ, h1, _, s.le l1, d1, q1, fun F2 y h2 v2 H2 l2 ry d2 q2 => ⟨F2, h2, x, y, Q', rx.le l2, ry, d2, q2, k.le (l1.trans l2)⟩⟩⟩
theorem de_op {op : Operator} (ho : DOp X (binaryOp op) rR) (ha : PDE X a ra) (hb : PDE X b rb) : PDE X (.BinOp a op b pos) (rOp rR ra rb) := impE (pe_op ho ha hb) fun _ _ _ q => tD_op q
theorem de_cmp {op : CmpOp} (ho : DOp X (compareOp op) rR) (ha : PDE X a ra) (hb : PDE X b rb) (hm : behindInMarks op b = false) : PDE X (.Compare a [op] [b] pos) (rOp rR ra rb) := impE (pe_cmpR ho ha hb hm) fun _ _ _ q => tD_op q
theorem de_ix (ho : IxR X (tDOp X.K rR)) (ha : PDE X a ra) (hb : PDE X b rb) (hs : PlainIx b) : PDE X (.Subscript a b pos) (rOp rR ra rb) := impE (pe_ix ho ha hb hs) fun _ _ _ q => tD_op q
/-- a bool as a test -/
def rB (r : DE) : DT := fun ρ h Q => r ρ h fun x h1 => ∃ b, x = .bl b ∧ Q b h1
theorem tD_b {K : PySem.W.Frag} {r : DE} {σ : L2.St} {H : Hp} {Q : Bool → Hp → Prop} (q : tDT K (rB r) σ H Q) : tB (tD K r) σ H Q := by
  obtain ⟨F, ρ, h, Q', s, d, r, k⟩ := q
  refine ⟨F, ρ, h, _, s, d, r, fun F1 x h1 v1 H1 l1 rx d1 q1 => ?_⟩
  obtain ⟨b, e, q⟩ := q1
  subst e
  cases rx
  exact ⟨b, rfl, k F1 b h1 H1 l1 d1 q⟩
theorem dt_cmp {op : CmpOp} (ho : DOp X (compareOp op) rR) (ha : PDE X a ra) (hb : PDE X b rb) (hm : behindInMarks op b = false) : PDT X (.Compare a [op] [b] pos) (rB (rOp rR ra rb)) := by
  refine impT (pt_cmpR ho ha hb hm) fun σ H Q q => ?_
  have q := tD_b q
  unfold tB at q
  obtain ⟨F, ρ, h, Q', s, d, r, k⟩ := q
  exact tD_op ⟨F, ρ, h, Q', s, d, r, k⟩
theorem dt_val {r : DE} (h : PDE X e r) (he : ∀ whole, isTrue e X.env whole = (do let v ← whole; standAt e.pos; holding [v] (truthy v)) := by intro _; rfl) : PDT X e (rB r) := impT (pt_val h he) fun _ _ _ q => tD_b q
/-- a chain of two comparisons -/
def rChain (rR rR' : D → D → DHp → DQ → Prop) (ra rb rc : DE) : DE := fun ρ h Q => ra ρ h fun x h1 => rb ρ h1 fun y h2 => rR x y h2 fun z h3 => ∃ k, z = .bl k ∧ if k = true then rc ρ h3 fun w h4 => rR' y w h4 Q else Q (.bl false) h3
theorem tD_chain {K : PySem.W.Frag} {σ : L2.St} {H : Hp} {Q : VK} (q : tD K (rChain rR rR' ra rb rc) σ H Q) : tChain (tDOp K rR) (tDOp K rR') (tD K ra) (tD K rb) (tD K rc) σ H Q := by
  obtain ⟨F, ρ, h, Q', s, d, r, k⟩ := q
  refine ⟨F, ρ, h, _, s, d, r, fun F1 x h1 v1 H1 l1 rx d1 q1 => ⟨F1, ρ, h1, _, s.le l1, d1, q1, fun F2 y h2 v2 H2 l2 ry d2 q2 => ⟨F2, h2, x, y, _, rx.le l2, ry, d2, q2, fun F3 z h3 v3 H3 l3 rz d3 q3 => ?_⟩⟩⟩
  obtain ⟨b, e, q⟩ := q3
  subst e
  cases rz
  refine ⟨b, rfl, ?_⟩
  cases b with
  | true =>
    rw [if_pos rfl] at q ⊢
    exact ⟨F3, ρ, h3, _, s.le (l1.trans (l2.trans l3)), d3, q, fun F4 w h4 v4 H4 l4 rw' d4 q4 => ⟨F4, h4, y, w, Q', ry.le (l3.trans l4), rw', d4, q4, k.le (l1.trans (l2.trans (l3.trans l4)))⟩⟩
  | false =>
    rw [if_neg Bool.false_ne_true] at q ⊢
    exact k F3 _ h3 _ H3 (l1.trans (l2.trans l3)) (.bl false) d3 q
end
/-! ### operations on ints -/
def rI (C : Int → Int → Prop) (g : Int → Int → D) : D → D → DHp → DQ → Prop := fun x y h Q => ∃ i j, x = .int i ∧ y = .int j ∧ C i j ∧ Q (g i j) h
section
variable {X : Cx}
theorem dop_i {f : Value → Value → Sem Value} {C : Int → Int → Prop} {g : Int → Int → V} {g' : Int → Int → D} (ho : OpR X f (L2.rI C g)) (r : ∀ F H i j, C i j → Rp X.K F H (g i j) (g' i j)) : DOp X f (rI C g') := impO ho fun x y H Q q => by
  obtain ⟨F, h, dx, dy, Q', rx, ry, hd, ⟨i, j, e1, e2, c, q⟩, k⟩ := q
  subst e1 e2
  cases rx; cases ry
  exact ⟨i, j, rfl, rfl, c, k F _ h _ H .refl (r F H i j c) hd q⟩
theorem dop_i0 {f : Value → Value → Sem Value} {g : Int → Int → V} {g' : Int → Int → D} (ho : OpR X f (rI0 g)) (r : ∀ F H i j, Rp X.K F H (g i j) (g' i j)) : DOp X f (rI (fun _ _ => True) g') := impO ho fun x y H Q q => by
  obtain ⟨F, h, dx, dy, Q', rx, ry, hd, ⟨i, j, e1, e2, _, q⟩, k⟩ := q
  subst e1 e2
  cases rx; cases ry
  exact ⟨i, j, rfl, rfl, k F _ h _ H .refl (r F H i j) hd q⟩
theorem d_add : DOp X (binaryOp .Add) (rI (fun _ _ => True) fun i j => .int (i + j)) := dop_i0 op_add fun _ _ i j => .int _
theorem d_sub : DOp X (binaryOp .Sub) (rI (fun _ _ => True) fun i j => .int (i - j)) := dop_i0 op_sub fun _ _ i j => .int _
theorem d_mul : DOp X (binaryOp .Mult) (rI CMul fun i j => .int (i * j)) := dop_i op_mul fun _ _ i j _ => .int _
theorem d_fdiv : DOp X (binaryOp .FloorDiv) (rI CDiv fun i j => .int (i / j)) := dop_i op_fdiv fun _ _ i j _ => .int _
theorem d_mod : DOp X (binaryOp .Mod) (rI (fun _ j => 0 < j) fun i j => .int (i % j)) := dop_i op_mod fun _ _ i j _ => .int _
theorem d_pow : DOp X (binaryOp .Pow) (rI CPow fun i j => .int (i ^ j.toNat)) := dop_i op_pow fun _ _ i j _ => .int _
theorem d_lt : DOp X (compareOp .Lt) (rI (fun _ _ => True) fun i j => .bl (decide (i < j))) := dop_i0 op_lt fun _ _ i j => .bl _
theorem d_le : DOp X (compareOp .LtE) (rI (fun _ _ => True) fun i j => .bl (decide (i ≤ j))) := dop_i0 op_le fun _ _ i j => .bl _
theorem d_gt : DOp X (compareOp .Gt) (rI (fun _ _ => True) fun i j => .bl (decide (j < i))) := dop_i0 op_gt fun _ _ i j => .bl _
theorem d_ge : DOp X (compareOp .GtE) (rI (fun _ _ => True) fun i j => .bl (decide (j ≤ i))) := dop_i0 op_ge fun _ _ i j => .bl _
end
end DX

set_option maxRecDepth 100000
set_option maxHeartbeats 4000000
namespace DX
open PySem PySem.Spec PyProof.Rows L2

/-! ### data as the library's data -/
mutual
def D.pd : D → PyData
  | .non => .none | .bl b => .bool b | .int i => .int i | .str s => .str (Str.ofString s)
  | .tup ds => .tuple (pds ds) | .lst ds => .list (pds ds) | .ref _ => .none | .ty _ => .none | .ktup ds => .tuple (pds ds) | .klst ds => .list (pds ds)
def pds : List D → List PyData
  | [] => []
  | d :: ds => d.pd :: pds ds
end
mutual
/-- plain data, nested so deep at most -/
def D.dat : Nat → D → Bool
  | _, .non => true | _, .bl _ => true | _, .int _ => true | _, .str _ => true
  | n + 1, .tup ds => dats n ds | n + 1, .lst ds => dats n ds | n + 1, .ktup ds => dats n ds | n + 1, .klst ds => dats n ds
  | 0, .tup _ => false | 0, .lst _ => false | 0, .ktup _ => false | 0, .klst _ => false | _, .ref _ => false | _, .ty _ => false
def dats : Nat → List D → Bool
  | _, [] => true
  | n, d :: ds => d.dat n && dats n ds
end
theorem strOk_of (s : String) : PyData.strOk (Str.ofString s) = true := by
  rw [Str.ofString_eq_toList]
  unfold PyData.strOk
  rw [← Array.all_toList, List.all_eq_true]
  intro c hc
  obtain ⟨ch, _, rfl⟩ := List.mem_map.mp (show c ∈ s.toList.map Char.toNat by simpa using hc)
  have := ch.valid
  simp only [UInt32.isValidChar, Nat.isValidChar] at this
  have h2 : ch.toNat < 0x110000 := by show ch.val.toNat < 0x110000; omega
  exact decide_eq_true h2
mutual
theorem D.lay : ∀ {n : Nat} {d : D}, d.dat n = true → d.pd.canLay0 = true ∧ d.pd.depth ≤ n
  | n, .non, _ => by simp [D.pd, PyData.canLay0, PyData.depth]
  | n, .bl _, _ => by simp [D.pd, PyData.canLay0, PyData.depth]
  | n, .int _, _ => by simp [D.pd, PyData.canLay0, PyData.depth]
  | n, .str s, _ => by simp [D.pd, PyData.canLay0, PyData.depth, strOk_of]
  | n + 1, .tup ds, h => by
    have q := dats_lay (n := n) (ds := ds) (by simpa [D.dat] using h)
    simp only [D.pd, PyData.canLay0, PyData.depth]
    exact ⟨q.1, by omega⟩
  | n + 1, .lst ds, h => by
    have q := dats_lay (n := n) (ds := ds) (by simpa [D.dat] using h)
    simp only [D.pd, PyData.canLay0, PyData.depth]
    exact ⟨q.1, by omega⟩
  | n + 1, .ktup ds, h => by
    have q := dats_lay (n := n) (ds := ds) (by simpa [D.dat] using h)
    simp only [D.pd, PyData.canLay0, PyData.depth]
    exact ⟨q.1, by omega⟩
  | n + 1, .klst ds, h => by
    have q := dats_lay (n := n) (ds := ds) (by simpa [D.dat] using h)
    simp only [D.pd, PyData.canLay0, PyData.depth]
    exact ⟨q.1, by omega⟩
  | 0, .tup _, h => by simp [D.dat] at h
  | 0, .lst _, h => by simp [D.dat] at h
  | 0, .ktup _, h => by simp [D.dat] at h
  | 0, .klst _, h => by simp [D.dat] at h
  | _, .ref _, h => by simp [D.dat] at h
  | _, .ty _, h => by simp [D.dat] at h
theorem dats_lay : ∀ {n : Nat} {ds : List D}, dats n ds = true → PyData.canLayAll0 (pds ds) = true ∧ PyData.depthAll (pds ds) ≤ n
  | n, [], _ => by simp [pds, PyData.canLayAll0, PyData.depthAll]
  | n, d :: ds, h => by
    have h' : d.dat n = true ∧ dats n ds = true := by simpa [dats, Bool.and_eq_true] using h
    have q1 := D.lay h'.1
    have q2 := dats_lay h'.2
    simp only [pds, PyData.canLayAll0, PyData.depthAll, Bool.and_eq_true]
    exact ⟨⟨q1.1, q2.1⟩, by omega⟩
end
theorem D.shaped {n : Nat} {d : D} (h : d.dat n = true) (hn : n ≤ 64) : SeqAt.shaped d.pd = true := by
  have q := D.lay h
  unfold SeqAt.shaped
  rw [Bool.and_eq_true]
  exact ⟨q.1, decide_eq_true (by omega)⟩
section
variable {K : PySem.W.Frag} {F : Addr → Prop} {H : Hp}
mutual
theorem Rp.dp : ∀ (n : Nat) (d : D) (v : V), d.dat n = true → Rp K F H v d → Dp K H v d.pd
  | _, .non, _, _, r => by cases r; simp only [D.pd]; exact .non
  | _, .bl b, _, _, r => by cases r; simp only [D.pd]; exact .bl b
  | _, .int i, _, _, r => by cases r; simp only [D.pd]; exact .int i
  | _, .str s, _, _, r => by cases r; simp only [D.pd]; exact .str _
  | n, .ref a, _, h, _ => by cases n <;> simp [D.dat] at h
  | n, .ty a, _, h, _ => by cases n <;> simp [D.dat] at h
  | 0, .tup _, _, h, _ => by simp [D.dat] at h
  | 0, .lst _, _, h, _ => by simp [D.dat] at h
  | 0, .ktup _, _, h, _ => by simp [D.dat] at h
  | 0, .klst _, _, h, _ => by simp [D.dat] at h
  | n + 1, .tup ds, _, h, r => by
    cases r with
    | tup e r => simp only [D.pd]; exact .tup (SqT.of e) (Rps.dp n ds _ (by simpa [D.dat] using h) r)
  | n + 1, .lst ds, _, h, r => by
    cases r with
    | lst e r => simp only [D.pd]; exact .lst e.sq (Rps.dp n ds _ (by simpa [D.dat] using h) r)
  | n + 1, .ktup ds, _, h, r => by
    cases r with
    | ktup e r => simp only [D.pd]; exact .tup e.sq (Rps.dp n ds _ (by simpa [D.dat] using h) r)
  | n + 1, .klst ds, _, h, r => by
    cases r with
    | klst e r => simp only [D.pd]; exact .lst (.inr e) (Rps.dp n ds _ (by simpa [D.dat] using h) r)
theorem Rps.dp : ∀ (n : Nat) (ds : List D) (vs : List V), dats n ds = true → Rps K F H vs ds → DpAll K H vs (pds ds)
  | _, [], _, _, r => by cases r; simp only [pds]; exact .nil
  | n, d :: ds, _, h, r => by
    cases r with
    | cons r t =>
      simp only [dats, Bool.and_eq_true] at h
      simp only [pds]
      exact .cons (Rp.dp n d _ h.1 r) (Rps.dp n ds _ h.2 t)
end
end
/-- == -/
def D.eqv (x y : D) : Bool := PyData.eqv x.pd y.pd
def eqvs (x y : List D) : Bool := PyData.eqvAll (pds x) (pds y)
/-- a changeable list is read -/
def rdL (h : DHp) (a : Addr) : Option (List D) := match h a with
  | some (.lst ds) => some ds
  | _ => none
theorem rdL_of {h : DHp} {a : Addr} {ds : List D} (e : rdL h a = some ds) : h a = some (.lst ds) := by
  unfold rdL at e
  split at e
  · rename_i e2; cases e; exact e2
  · cases e
theorem of_rdL {h : DHp} {a : Addr} {ds : List D} (e : h a = some (.lst ds)) : rdL h a = some ds := by unfold rdL; rw [e]
def resD (h : DHp) : D → D
  | .ref a => (match rdL h a with
    | some ds => .lst ds
    | none => .ref a)
  | d => d
theorem Rp.res {K : PySem.W.Frag} {F : Addr → Prop} {H : Hp} {h : DHp} {v : V} {d : D} {n : Nat} (r : Rp K F H v d) (hd : Hd K F H h) (hn : (resD h d).dat n = true) : Dp K H v (resD h d).pd := by
  cases d with
  | ref a =>
    simp only [resD] at hn ⊢
    cases e : rdL h a with
    | none => rw [e] at hn; cases n <;> simp [D.dat] at hn
    | some ds =>
      rw [e] at hn
      obtain ⟨⟨xs, h1, rs⟩, _⟩ := hd.cell a _ (rdL_of e)
      cases r
      cases n with
      | zero => simp [D.dat] at hn
      | succ n =>
        simp only [D.pd]
        exact .lst (SqL.of h1) (Rps.dp n _ _ (by simpa [D.dat] using hn) rs)
  | _ => exact Rp.dp _ _ _ hn r
def rEqD (x y : D) (h : DHp) (Q : DQ) : Prop := (resD h x).dat 64 = true ∧ (resD h y).dat 64 = true ∧ Q (.bl ((resD h x).eqv (resD h y))) h
def rNeD (x y : D) (h : DHp) (Q : DQ) : Prop := (resD h x).dat 64 = true ∧ (resD h y).dat 64 = true ∧ Q (.bl (!(resD h x).eqv (resD h y))) h
section
variable {X : Cx}
theorem d_eq (hu : X.A.units + 64 < cLine) : DOp X (compareOp .Eq) rEqD := impO (op_eqD hu) fun x y H Q q => by
  obtain ⟨F, h, dx, dy, Q', rx, ry, hd, ⟨n1, n2, q⟩, k⟩ := q
  exact ⟨_, _, rx.res hd n1, ry.res hd n2, D.shaped n1 (Nat.le_refl _), D.shaped n2 (Nat.le_refl _), k F _ h _ H .refl (.bl _) hd q⟩
theorem d_ne (hu : X.A.units + 64 < cLine) : DOp X (compareOp .NotEq) rNeD := impO (op_neD hu) fun x y H Q q => by
  obtain ⟨F, h, dx, dy, Q', rx, ry, hd, ⟨n1, n2, q⟩, k⟩ := q
  exact ⟨_, _, rx.res hd n1, ry.res hd n2, D.shaped n1 (Nat.le_refl _), D.shaped n2 (Nat.le_refl _), k F _ h _ H .refl (.bl _) hd q⟩
/-- is None, is a truth -/
def D.isN : D → Bool
  | .non => true
  | _ => false
def rIsN (x y : D) (h : DHp) (Q : DQ) : Prop := y = .non ∧ Q (.bl x.isN) h
def rNotN (x y : D) (h : DHp) (Q : DQ) : Prop := y = .non ∧ Q (.bl (!x.isN)) h
theorem Rp.isN {K : PySem.W.Frag} {F : Addr → Prop} {H : Hp} {v : V} {d : D} (r : Rp K F H v d) : decide (v = .non) = d.isN := by
  cases r <;> simp [D.isN]
theorem d_isN : DOp X (compareOp .Is) rIsN := impO op_isN fun x y H Q q => by
  obtain ⟨F, h, dx, dy, Q', rx, ry, hd, ⟨n1, q⟩, k⟩ := q
  subst n1
  cases ry
  refine ⟨rfl, ?_⟩
  rw [rx.isN]
  exact k F _ h _ H .refl (.bl _) hd q
theorem d_notN : DOp X (compareOp .IsNot) rNotN := impO op_notN fun x y H Q q => by
  obtain ⟨F, h, dx, dy, Q', rx, ry, hd, ⟨n1, q⟩, k⟩ := q
  subst n1
  cases ry
  refine ⟨rfl, ?_⟩
  rw [rx.isN]
  exact k F _ h _ H .refl (.bl _) hd q
end

/-! ### what is read in order -/
def seqD (h : DHp) : D → Option (List D)
  | .tup ds => some ds | .ktup ds => some ds | .lst ds => some ds | .klst ds => some ds
  | .ref a => rdL h a
  | _ => none
theorem Rp.seq {K : PySem.W.Frag} {F : Addr → Prop} {H : Hp} {h : DHp} {v : V} {d : D} {ds : List D} (r : Rp K F H v d) (hd : Hd K F H h) (e : seqD h d = some ds) :
    ∃ a xs, v = .ref a ∧ (SqL K H a xs ∨ SqT K H a xs) ∧ Rps K F H xs ds := by
  cases r with
  | tup e1 rs => simp only [seqD, Option.some.injEq] at e; subst e; exact ⟨_, _, rfl, .inr (SqT.of e1), rs⟩
  | lst e1 rs => simp only [seqD, Option.some.injEq] at e; subst e; exact ⟨_, _, rfl, .inl e1.sq, rs⟩
  | ktup e1 rs => simp only [seqD, Option.some.injEq] at e; subst e; exact ⟨_, _, rfl, .inr e1.sq, rs⟩
  | klst e1 rs => simp only [seqD, Option.some.injEq] at e; subst e; exact ⟨_, _, rfl, .inl (.inr e1), rs⟩
  | ref a =>
    obtain ⟨⟨xs, h1, rs⟩, _⟩ := hd.cell a _ (rdL_of e)
    exact ⟨a, xs, rfl, .inl (SqL.of h1), rs⟩
  | _ => simp [seqD] at e
theorem atI_len {α β : Type} {xs : List α} {ys : List β} (e : xs.length = ys.length) (i : Int) : ixN xs.length i = ixN ys.length i := by rw [e]
theorem Rps.atI {K : PySem.W.Frag} {F : Addr → Prop} {H : Hp} {vs : List V} {ds : List D} {i : Int} {d : D} (r : Rps K F H vs ds) (e : L2.atI ds i = some d) : ∃ v, L2.atI vs i = some v ∧ Rp K F H v d := by
  unfold L2.atI at e ⊢
  rw [r.length]
  cases q : ixN ds.length i with
  | none => rw [q] at e; cases e
  | some j =>
    rw [q] at e
    exact r.get e
/-- x[i] of a list, a tuple -/
def rIx (x y : D) (h : DHp) (Q : DQ) : Prop := ∃ ds i d, seqD h x = some ds ∧ y = .int i ∧ atI ds i = some d ∧ Q d h
section
variable {X : Cx}
theorem d_ix : IxR X (tDOp X.K rIx) := impI ((ix_list (X := X)).or ix_tup) fun x y H Q q => by
  obtain ⟨F, h, dx, dy, Q', rx, ry, hd, ⟨ds, i, d, e1, e2, e3, q⟩, k⟩ := q
  subst e2
  cases ry
  obtain ⟨a, xs, e4, sq, rs⟩ := rx.seq hd e1
  subst e4
  obtain ⟨v, e5, rv⟩ := rs.atI e3
  have q' := k F _ h _ H .refl rv hd q
  rcases sq with sq | sq
  · exact .inl ⟨a, xs, i, v, rfl, rfl, sq, e5, q'⟩
  · exact .inr ⟨a, xs, i, v, rfl, rfl, sq, e5, q'⟩
end

/-! ### arguments, displays -/
def rNil : DA := fun _ h Q => Q [] h
def rCons (ra : DE) (rr : DA) : DA := fun ρ h Q => ra ρ h fun x h1 => rr ρ h1 fun xs h2 => Q (x :: xs) h2
section
variable {X : Cx} {e : Expr} {es : List Expr} {pos : Pos} {ra : DE} {rr : DA}
theorem da_nil : PDA X [] rNil := impA pa_nil fun σ H Q q => by
  obtain ⟨F, ρ, h, Q', s, hd, q, k⟩ := q
  exact k F [] h [] H .refl .nil hd q
theorem da_cons (ha : PDE X e ra) (hr : PDA X es rr) (hs : starEach (e :: es) X.env = (false, eval e X.env) :: starEach es X.env := by rfl) : PDA X (e :: es) (rCons ra rr) := impA (pa_cons ha hr hs) fun σ H Q q => by
  obtain ⟨F, ρ, h, Q', s, hd, q, k⟩ := q
  exact ⟨F, ρ, h, _, s, hd, q, fun F1 x h1 v1 H1 l1 rx d1 q1 => ⟨F1, ρ, h1, _, s.le l1, d1, q1, fun F2 xs h2 vs H2 l2 rs d2 q2 => k F2 _ h2 _ H2 (l1.trans l2) (.cons (rx.le l2) rs) d2 q2⟩⟩
def rTup (r : DA) : DE := fun ρ h Q => r ρ h fun ds h1 => ds.length ≤ 1000 ∧ Q (.tup ds) h1
theorem le1000 {n : Nat} (h : n ≤ 1000) : n ≤ sizeLine := Nat.le_trans h (by decide)
theorem de_tup {x1} (h : PDA X es rr) : PDE X (.Tuple es x1 pos) (rTup rr) := impE (pe_tup h) fun σ H Q q => by
  obtain ⟨F, ρ, h, Q', s, hd, q, k⟩ := q
  refine ⟨F, ρ, h, _, s, hd, q, fun F1 ds h1 vs H1 l1 rs d1 q1 => ?_⟩
  obtain ⟨z, q1⟩ := q1
  refine ⟨by rw [rs.length]; exact le1000 z, fun p np => ?_⟩
  exact k F1 _ h1 _ _ (l1.trans (Le.new np)) (.tup upd_same (rs.le (Le.new np))) (d1.new np) q1
/-- a list that isn't changed -/
def rLstF (r : DA) : DE := fun ρ h Q => r ρ h fun ds h1 => ds.length ≤ 1000 ∧ Q (.lst ds) h1
theorem de_lstF (h : PDA X es rr) : PDE X (.List es pos) (rLstF rr) := impE (pe_lst h) fun σ H Q q => by
  obtain ⟨F, ρ, h, Q', s, hd, q, k⟩ := q
  refine ⟨F, ρ, h, _, s, hd, q, fun F1 ds h1 vs H1 l1 rs d1 q1 => ?_⟩
  obtain ⟨z, q1⟩ := q1
  refine ⟨by rw [rs.length]; exact le1000 z, fun p np => ?_⟩
  exact k _ _ h1 _ _ (l1.trans (Le.newF np)) (.lst (.inl ⟨.inr rfl, upd_same⟩) (rs.le (Le.newF np))) (d1.newF np) q1
/-- a new list -/
def rLstM (r : DA) : DE := fun ρ h Q => r ρ h fun ds h1 => ds.length ≤ 1000 ∧ ∀ p, h1 p = none → Q (.ref p) (updD h1 p (.lst ds))
theorem de_lstM (h : PDA X es rr) : PDE X (.List es pos) (rLstM rr) := impE (pe_lst h) fun σ H Q q => by
  obtain ⟨F, ρ, h, Q', s, hd, q, k⟩ := q
  refine ⟨F, ρ, h, _, s, hd, q, fun F1 ds h1 vs H1 l1 rs d1 q1 => ?_⟩
  obtain ⟨z, q1⟩ := q1
  refine ⟨by rw [rs.length]; exact le1000 z, fun p np => ?_⟩
  exact k _ _ _ _ _ (l1.trans (Le.new np)) (.ref p) (d1.add (c := .lst ds) np ⟨vs, upd_same, rs.le (Le.new np)⟩) (q1 p (d1.none np))
/-- a new list is frozen at once -/
def rFrz (r : DE) : DE := fun ρ h Q => r ρ h fun x h1 => ∃ a ds, x = .ref a ∧ h1 a = some (.lst ds) ∧ Q (.lst ds) (delD h1 a)
theorem de_frz (h : PDE X e ra) : PDE X e (rFrz ra) := impE h fun σ H Q q => by
  obtain ⟨F, ρ, h, Q', s, hd, q, k⟩ := q
  refine ⟨F, ρ, h, _, s, hd, q, fun F1 x h1 v1 H1 l1 rx d1 q1 => ?_⟩
  obtain ⟨a, ds, e, e2, q1⟩ := q1
  subst e
  cases rx
  obtain ⟨d2, r2⟩ := d1.freeze e2
  exact k _ _ _ _ _ (l1.trans Le.fz1) r2 d2 q1
end

/-! ### calls of built-ins, over data -/
def tDC (K : PySem.W.Frag) (rR : List D → DHp → DQ → Prop) : List V → Hp → VK → Prop := fun xs H Q => ∃ F h ds Q', Rps K F H xs ds ∧ Hd K F H h ∧ rR ds h Q' ∧ Kont K F H Q' Q
def rCB (rR : List D → DHp → DQ → Prop) (ra : DA) : DE := fun ρ h Q => ra ρ h fun ds h1 => rR ds h1 Q
section
variable {X : Cx} {x : Str} {p pos : Pos} {e : Expr} {es : List Expr} {ra : DA} {id T : String} {rR : List D → DHp → DQ → Prop} {sc : Scope}
theorem tD_cb {K : PySem.W.Frag} {σ : L2.St} {H : Hp} {Q : VK} (q : tD K (rCB rR ra) σ H Q) : tCB (tDC K rR) (tDA K ra) σ H Q := by
  obtain ⟨F, ρ, h, Q', s, hd, q, k⟩ := q
  exact ⟨F, ρ, h, _, s, hd, q, fun F1 ds h1 vs H1 l1 rs d1 q1 => ⟨F1, h1, ds, Q', rs, d1, q1, k.le l1⟩⟩
theorem de_callB (hc : CallR X (.builtin id) (tDC X.K rR)) (hs : X.env.scope = sc) (hg : sc.names.lookup x = some .globalImplicit) (hm : X.mg x = none) (hv : bootBuiltins x = some (.builtin id)) (ha : PDA X (e :: es) ra) (hn : x ≠ "__name__") (hdb : (x == ("__debug__" : Str)) = false)
    (he : starEach (e :: es) X.env = (false, eval e X.env) :: starEach es X.env := by rfl) (hpl : (backTo pos (starEach es X.env)).any (·.1) = false := by rfl) : PDE X (.Call (.Name x p) (e :: es) [] pos) (rCB rR ra) :=
  impE (pe_callB hc (by subst hs; exact hg) hm hv ha hn hdb he hpl) fun _ _ _ q => tD_cb q
theorem de_callTy (hc : CallR X (.type T) (tDC X.K rR)) (hs : X.env.scope = sc) (hg : sc.names.lookup x = some .globalImplicit) (hm : X.mg x = none) (hv : bootBuiltins x = some (.type T)) (ha : PDA X (e :: es) ra) (hn : x ≠ "__name__") (hdb : (x == ("__debug__" : Str)) = false)
    (he : starEach (e :: es) X.env = (false, eval e X.env) :: starEach es X.env := by rfl) (hpl : (backTo pos (starEach es X.env)).any (·.1) = false := by rfl) : PDE X (.Call (.Name x p) (e :: es) [] pos) (rCB rR ra) :=
  impE (pe_callTy hc (by subst hs; exact hg) hm hv ha hn hdb he hpl) fun _ _ _ q => tD_cb q
theorem impC {f : Value} {r r' : List V → Hp → VK → Prop} (h : CallR X f r) (i : ∀ xs H Q, r' xs H Q → r xs H Q) : CallR X f r' := fun pins s σ H xs us Q I rs q => h pins s σ H xs us Q I rs (i _ _ _ q)
/-- len -/
def rLen (ds : List D) (h : DHp) (Q : DQ) : Prop := ∃ x xs, ds = [x] ∧ seqD h x = some xs ∧ Q (.int xs.length) h
theorem c_len : CallR X (.builtin "len") (tDC X.K rLen) := impC call_len_seq fun vs H Q q => by
  obtain ⟨F, h, ds, Q', rs, hd, ⟨x, xs, e, e2, q⟩, k⟩ := q
  subst e
  cases rs with
  | cons r t =>
    cases t
    obtain ⟨a, ys, e3, sq, ry⟩ := r.seq hd e2
    subst e3
    refine ⟨a, ys, rfl, sq, ?_⟩
    rw [ry.length]
    exact k F _ h _ H .refl (.int _) hd q
/-- tuple(x) -/
def rTuple (ds : List D) (h : DHp) (Q : DQ) : Prop := ∃ x xs, ds = [x] ∧ seqD h x = some xs ∧ (match x with | .ktup _ => False | _ => True) ∧ Q (.tup xs) h
theorem c_tuple : CallR X (.type "tuple") (tDC X.K rTuple) := impC call_tuple_of fun vs H Q q => by
  obtain ⟨F, h, ds, Q', rs, hd, ⟨x, xs, e, e2, nk, q⟩, k⟩ := q
  subst e
  cases rs with
  | cons r t =>
    cases t
    cases r with
    | tup e1 rs =>
      simp only [seqD, Option.some.injEq] at e2
      subst e2
      exact ⟨_, _, rfl, .inr ⟨SqT.of e1, k F _ h _ H .refl (.tup e1 rs) hd q⟩⟩
    | ktup _ _ => exact nk.elim
    | klst e1 rs =>
      simp only [seqD, Option.some.injEq] at e2
      subst e2
      exact ⟨_, _, rfl, .inl ⟨.inr e1, fun l nl => k F _ h _ _ (Le.new nl) (.tup upd_same (rs.le (Le.new nl))) (hd.new nl) q⟩⟩
    | lst e1 rs =>
      simp only [seqD, Option.some.injEq] at e2
      subst e2
      exact ⟨_, _, rfl, .inl ⟨e1.sq, fun l nl => k F _ h _ _ (Le.new nl) (.tup upd_same (rs.le (Le.new nl))) (hd.new nl) q⟩⟩
    | ref a =>
      obtain ⟨a', ys, e3, sq, ry⟩ := (Rp.ref (K := X.K) (F := F) (H := H) a).seq hd e2
      obtain ⟨⟨zs, h1, rz⟩, _⟩ := hd.cell a _ (rdL_of e2)
      exact ⟨a, zs, rfl, .inl ⟨SqL.of h1, fun l nl => k F _ h _ _ (Le.new nl) (.tup upd_same (rz.le (Le.new nl))) (hd.new nl) q⟩⟩
    | _ => simp [seqD] at e2
/-- list(x): a new one -/
def rList (ds : List D) (h : DHp) (Q : DQ) : Prop := ∃ x xs, ds = [x] ∧ seqD h x = some xs ∧ ∀ p, h p = none → Q (.ref p) (updD h p (.lst xs))
theorem c_list : CallR X (.type "list") (tDC X.K rList) := impC call_list_of fun vs H Q q => by
  obtain ⟨F, h, ds, Q', rs, hd, ⟨x, xs, e, e2, q⟩, k⟩ := q
  subst e
  cases rs with
  | cons r t =>
    cases t
    obtain ⟨a, ys, e3, sq, ry⟩ := r.seq hd e2
    subst e3
    exact ⟨a, ys, rfl, sq, fun l nl => k F _ _ _ _ (Le.new nl) (.ref l) (hd.add (c := .lst xs) nl ⟨ys, upd_same, ry.le (Le.new nl)⟩) (q l (hd.none nl))⟩
/-- ints -/
def rAbs (ds : List D) (h : DHp) (Q : DQ) : Prop := ∃ i, ds = [.int i] ∧ Q (.int i.natAbs) h
theorem c_abs : CallR X (.builtin "abs") (tDC X.K rAbs) := impC call_abs fun vs H Q q => by
  obtain ⟨F, h, ds, Q', rs, hd, ⟨i, e, q⟩, k⟩ := q
  subst e
  cases rs with
  | cons r t =>
    cases t; cases r
    refine ⟨i, rfl, ?_⟩
    have e : (if i < 0 then -i else i) = ((i.natAbs : Nat) : Int) := by split <;> omega
    rw [e]
    exact k F _ h _ H .refl (.int _) hd q
def rMax2 (ds : List D) (h : DHp) (Q : DQ) : Prop := ∃ i j, ds = [.int i, .int j] ∧ Q (.int (max i j)) h
def rMin2 (ds : List D) (h : DHp) (Q : DQ) : Prop := ∃ i j, ds = [.int i, .int j] ∧ Q (.int (min i j)) h
theorem c_max2 (hc : X.calm = true) : CallR X (.builtin "max") (tDC X.K rMax2) := impC (call_max2 hc) fun vs H Q q => by
  obtain ⟨F, h, ds, Q', rs, hd, ⟨i, j, e, q⟩, k⟩ := q
  subst e
  cases rs with
  | cons r t =>
    cases t with
    | cons r2 t =>
      cases t; cases r; cases r2
      refine ⟨i, j, rfl, ?_⟩
      have e : (if j > i then j else i) = max i j := by rw [Int.max_def]; split <;> split <;> omega
      rw [e]
      exact k F _ h _ H .refl (.int _) hd q
theorem c_min2 (hc : X.calm = true) : CallR X (.builtin "min") (tDC X.K rMin2) := impC (call_min2 hc) fun vs H Q q => by
  obtain ⟨F, h, ds, Q', rs, hd, ⟨i, j, e, q⟩, k⟩ := q
  subst e
  cases rs with
  | cons r t =>
    cases t with
    | cons r2 t =>
      cases t; cases r; cases r2
      refine ⟨i, j, rfl, ?_⟩
      have e : (if j < i then j else i) = min i j := by rw [Int.min_def]; split <;> split <;> omega
      rw [e]
      exact k F _ h _ H .refl (.int _) hd q
/-- int(a bool) -/
def rIntB (ds : List D) (h : DHp) (Q : DQ) : Prop := ∃ b : Bool, ds = [.bl b] ∧ Q (.int (if b then 1 else 0)) h
theorem c_intB : CallR X (.type "int") (tDC X.K rIntB) := impC call_int1 fun vs H Q q => by
  obtain ⟨F, h, ds, Q', rs, hd, ⟨b, e, q⟩, k⟩ := q
  subst e
  cases rs with
  | cons r t =>
    cases t; cases r
    exact .inr ⟨b, rfl, k F _ h _ H .refl (.int _) hd q⟩
/-- str(an int) -/
def rStrI (ds : List D) (h : DHp) (Q : DQ) : Prop := ∃ i : Int, ds = [.int i] ∧ i.natAbs.log2 < 1920 ∧ Q (.str (toString i)) h
theorem c_strI : CallR X (.type "str") (tDC X.K rStrI) := impC call_str_int fun vs H Q q => by
  obtain ⟨F, h, ds, Q', rs, hd, ⟨i, e, z, q⟩, k⟩ := q
  subst e
  cases rs with
  | cons r t =>
    cases t; cases r
    exact ⟨i, rfl, z, k F _ h _ H .refl (.str _) hd q⟩
/-- isinstance(x, T), T built in -/
def tyD (h : DHp) : D → Option String
  | .non => some "NoneType" | .bl _ => some "bool" | .int _ => some "int" | .str _ => some "str" | .tup _ => some "tuple" | .ktup _ => some "tuple" | .lst _ => some "list" | .klst _ => some "list"
  | .ref a => (match h a with
    | some (.lst _) => some "list"
    | some (.dK _) => some "dict"
    | some (.dT _) => some "dict"
    | none => none)
  | .ty _ => none
def isSub (a b : String) : Bool := a == b || (a == "bool" && b == "int")
def rIsi (ds : List D) (h : DHp) (Q : DQ) : Prop := ∃ x t T, ds = [x, .ty T] ∧ tyD h x = some t ∧ T ∈ ["int", "bool", "str", "tuple", "list", "dict"] ∧ Q (.bl (isSub t T)) h
theorem kitB_all : ∀ a ∈ ["NoneType", "bool", "int", "str", "tuple", "list", "dict"], ∀ b ∈ ["int", "bool", "str", "tuple", "list", "dict"], kitB a b = some (isSub a b) := by decide +kernel
theorem tyD_mem {h : DHp} {d : D} {t : String} (e : tyD h d = some t) : t ∈ ["NoneType", "bool", "int", "str", "tuple", "list", "dict"] := by
  cases d <;> simp [tyD] at e
  all_goals first
    | (subst e; simp; done)
    | (split at e <;> first | (cases e; simp; done) | cases e)
theorem Rp.tyx {K : PySem.W.Frag} {F : Addr → Prop} {H : Hp} {h : DHp} {v : V} {d : D} {t : String} (r : Rp K F H v d) (hd : Hd K F H h) (e : tyD h d = some t) : TyX K H v (.type t) := by
  cases r with
  | non => cases e; exact .base .non
  | bl b => cases e; exact .base (.bl b)
  | int i => cases e; exact .base (.int i)
  | str s => cases e; exact .base (.str _)
  | ty n => cases e
  | tup e1 rs => cases e; exact .base (.tup e1)
  | ktup e1 rs =>
    cases e
    obtain ⟨o, its, n, h1, h2, h3, h4, h5, h6 | h6⟩ := e1
    · exact .kTuple h6 h1
    · exact .fTuple h6
  | klst e1 rs =>
    cases e
    obtain ⟨o, its, n, h1, h2, _⟩ := e1
    exact .kList h1 h2
  | lst e1 rs =>
    cases e
    rcases e1 with ⟨_, e1⟩ | ⟨o, e1⟩
    · exact .base (.lst e1)
    · exact .base (.frz e1)
  | ref a =>
    simp only [tyD] at e
    split at e
    · rename_i ds e2
      cases e
      obtain ⟨⟨xs, h1, _⟩, _⟩ := hd.cell a _ e2
      exact .base (.lst h1)
    · rename_i ds e2
      cases e
      obtain ⟨⟨xs, h1, _⟩, _⟩ := hd.cell a _ e2
      exact .base (.dK h1)
    · rename_i ds e2
      cases e
      obtain ⟨⟨xs, h1, _⟩, _⟩ := hd.cell a _ e2
      exact .base (.dT h1)
    · cases e
theorem c_isi : CallR X (.builtin "isinstance") (tDC X.K rIsi) := impC call_isi fun vs H Q q => by
  obtain ⟨F, h, ds, Q', rs, hd, ⟨x, t, T, e, e2, m, q⟩, k⟩ := q
  subst e
  cases rs with
  | cons r tt =>
    cases tt with
    | cons r2 tt =>
      cases tt; cases r2
      exact ⟨_, .ty T, .type t, .type T, isSub t T, rfl, .ty T, r.tyx hd e2, kit_ty (kitB_all t (tyD_mem e2) T m), k F _ h _ H .refl (.bl _) hd q⟩
/-- a built-in's name as a value -/
theorem de_bty {T : String} (hs : X.env.scope = sc) (hg : sc.names.lookup x = some .globalImplicit) (hm : X.mg x = none) (hv : bootBuiltins x = some (.type T)) (hn : x ≠ "__name__") (hdb : (x == ("__debug__" : Str)) = false) : PDE X (.Name x pos) (rC (.ty T)) :=
  de_c (v := .ty T) (pe_bltn (by subst hs; exact hg) hm hv rfl hn hdb) fun _ _ => .ty T
end
end DX

set_option maxRecDepth 100000
set_option maxHeartbeats 4000000
namespace DX
open PySem PySem.Spec PyProof.Rows L2

/-! ### statements -/
section
variable {X : Cx} {st : Stmt} {rest sts sts2 : List Stmt} {e c a b : Expr} {pos : Pos} {re ra rb : DE} {rs rs2 : DS} {rt : DT}
def rNext : DS := fun E ρ h => E.nx ρ h
def rSeq (r1 r2 : DS) : DS := fun E ρ h => r1 { E with nx := r2 E } ρ h
theorem tD_next {K : PySem.W.Frag} {D' : Ends} {σ : L2.St} {H : Hp} (q : tDS K rNext D' σ H) : D'.nx σ H := by
  obtain ⟨F, ρ, h, E, s, hd, q, k⟩ := q
  exact k.nx F ρ h σ H .refl s hd q
theorem dss_nil : PDSs X [] rNext := impSs pss_nil fun _ _ _ q => tD_next q
theorem dss_cons (h1 : PDS X st rs) (h2 : PDSs X rest rs2) : PDSs X (st :: rest) (rSeq rs rs2) := impSs (pss_cons h1 h2) fun D' σ H q => by
  obtain ⟨F, ρ, h, E, s, hd, q, k⟩ := q
  exact ⟨F, ρ, h, _, s, hd, q, fun F1 ρ1 h1 σ1 H1 l1 s1 d1 q1 => ⟨F1, ρ1, h1, E, s1, d1, q1, k.le l1⟩, k.rt, k.bk, k.ct⟩
theorem dss_one (h1 : PDS X st rs) : PDSs X [st] rs := pss_one h1
theorem ds_pass : PDS X (.Pass pos) rNext := impS ps_pass fun _ _ _ q => tD_next q
def rBreak : DS := fun E ρ h => E.bk ρ h
def rCont : DS := fun E ρ h => E.ct ρ h
theorem ds_break : PDS X (.Break pos) rBreak := impS ps_break fun D' σ H q => by
  obtain ⟨F, ρ, h, E, s, hd, q, k⟩ := q
  exact k.bk F ρ h σ H .refl s hd q
theorem ds_cont : PDS X (.Continue pos) rCont := impS ps_continue fun D' σ H q => by
  obtain ⟨F, ρ, h, E, s, hd, q, k⟩ := q
  exact k.ct F ρ h σ H .refl s hd q
def rDrop (r : DE) : DS := fun E ρ h => r ρ h fun _ h1 => E.nx ρ h1
theorem ds_expr (he : PDE X e re) (hs : swapsWith e none pos.line X.env = pure false := by rfl) : PDS X (.Expr e pos) (rDrop re) := impS (ps_expr he hs) fun D' σ H q => by
  obtain ⟨F, ρ, h, E, s, hd, q, k⟩ := q
  exact ⟨F, ρ, h, _, s, hd, q, fun F1 x h1 v1 H1 l1 rx d1 q1 => k.nx F1 ρ h1 σ H1 l1 (s.le l1) d1 q1⟩
def rRet (r : DE) : DS := fun E ρ h => r ρ h E.rt
theorem ds_ret (he : PDE X e re) : PDS X (.Return (some e) pos) (rRet re) := impS (ps_ret he) fun D' σ H q => by
  obtain ⟨F, ρ, h, E, s, hd, q, k⟩ := q
  exact ⟨F, ρ, h, _, s, hd, q, k.rt⟩
def rRetN : DS := fun E _ h => E.rt .non h
theorem ds_retN : PDS X (.Return none pos) rRetN := impS ps_retN fun D' σ H q => by
  obtain ⟨F, ρ, h, E, s, hd, q, k⟩ := q
  exact k.rt F _ h _ H .refl .non hd q
def rIf (t : DT) (r1 r2 : DS) : DS := fun E ρ h => t ρ h fun b h1 => if b = true then r1 E ρ h1 else r2 E ρ h1
theorem ds_if (hc : PDT X c rt) (ha : PDSs X sts rs) (hb : PDSs X sts2 rs2) : PDS X (.If c sts sts2 pos) (rIf rt rs rs2) := impS (ps_if hc ha hb) fun D' σ H q => by
  obtain ⟨F, ρ, h, E, s, hd, q, k⟩ := q
  refine ⟨F, ρ, h, _, s, hd, q, fun F1 b h1 H1 l1 d1 q1 => ?_⟩
  cases b with
  | true =>
    rw [if_pos rfl] at q1 ⊢
    exact ⟨F1, ρ, h1, E, s.le l1, d1, q1, k.le l1⟩
  | false =>
    rw [if_neg Bool.false_ne_true] at q1 ⊢
    exact ⟨F1, ρ, h1, E, s.le l1, d1, q1, k.le l1⟩
/-! ### and, or, not; a if t else b -/
variable {t1 t2 : DT}
def rAnd (t u : DT) : DT := fun ρ h Q => t ρ h fun b h1 => if b = true then u ρ h1 Q else Q false h1
def rOr (t u : DT) : DT := fun ρ h Q => t ρ h fun b h1 => if b = true then Q true h1 else u ρ h1 Q
def rNot (t : DT) : DT := fun ρ h Q => t ρ h fun b h1 => Q (!b) h1
abbrev PDW (X : Cx) (e : Expr) (r : DT) : Prop := PW X e (tDT X.K r)
theorem impW {t t' : TT} (h : PW X e t) (i : ∀ σ H Q, t' σ H Q → t σ H Q) : PW X e t' := ⟨fun wh pins s σ H Q I q => h.run wh pins s σ H Q I (i _ _ _ q)⟩
theorem dw_and1 (ha : PDT X a t1) : PDW X (.BoolOp .And [a] pos) t1 := pw_and1 ha
theorem dw_or1 (ha : PDT X a t1) : PDW X (.BoolOp .Or [a] pos) t1 := pw_or1 ha
variable {es : List Expr}
theorem dw_and (ha : PDT X a t1) (hb : PDW X (.BoolOp .And (b :: es) pos) t2) : PDW X (.BoolOp .And (a :: b :: es) pos) (rAnd t1 t2) := impW (pw_and ha hb) fun σ H Q q => by
  obtain ⟨F, ρ, h, Q', s, hd, q, k⟩ := q
  refine ⟨F, ρ, h, _, s, hd, q, fun F1 b h1 H1 l1 d1 q1 => ?_⟩
  cases b with
  | true =>
    rw [if_pos rfl] at q1 ⊢
    exact ⟨F1, ρ, h1, Q', s.le l1, d1, q1, fun F2 b h2 H2 l2 => k F2 b h2 H2 (l1.trans l2)⟩
  | false =>
    rw [if_neg Bool.false_ne_true] at q1 ⊢
    exact k F1 _ h1 H1 l1 d1 q1
theorem dw_or (ha : PDT X a t1) (hb : PDW X (.BoolOp .Or (b :: es) pos) t2) : PDW X (.BoolOp .Or (a :: b :: es) pos) (rOr t1 t2) := impW (pw_or ha hb) fun σ H Q q => by
  obtain ⟨F, ρ, h, Q', s, hd, q, k⟩ := q
  refine ⟨F, ρ, h, _, s, hd, q, fun F1 b h1 H1 l1 d1 q1 => ?_⟩
  cases b with
  | true =>
    rw [if_pos rfl] at q1 ⊢
    exact k F1 _ h1 H1 l1 d1 q1
  | false =>
    rw [if_neg Bool.false_ne_true] at q1 ⊢
    exact ⟨F1, ρ, h1, Q', s.le l1, d1, q1, fun F2 b h2 H2 l2 => k F2 b h2 H2 (l1.trans l2)⟩
theorem dt_w (h : PDW X e t1) : PDT X e t1 := h.pt
theorem dt_not (ha : PDT X a t1) : PDT X (.UnaryOp .Not a pos) (rNot t1) := impT (pt_not ha) fun σ H Q q => by
  obtain ⟨F, ρ, h, Q', s, hd, q, k⟩ := q
  exact ⟨F, ρ, h, _, s, hd, q, fun F1 b h1 H1 l1 d1 q1 => k F1 _ h1 H1 l1 d1 q1⟩
/-- as values, bools -/
def rAndV (ra rb : DE) : DE := fun ρ h Q => ra ρ h fun x h1 => ∃ k, x = .bl k ∧ if k = true then rb ρ h1 Q else Q (.bl false) h1
def rOrV (ra rb : DE) : DE := fun ρ h Q => ra ρ h fun x h1 => ∃ k, x = .bl k ∧ if k = true then Q (.bl true) h1 else rb ρ h1 Q
def rNotV (ra : DE) : DE := fun ρ h Q => ra ρ h fun x h1 => ∃ k, x = .bl k ∧ Q (.bl (!k)) h1
theorem de_one {op} (ha : PDE X a ra) : PDE X (.BoolOp op [a] pos) ra := pe_one ha
theorem de_and (ha : PDE X a ra) (hb : PDE X (.BoolOp .And (b :: es) pos) rb) : PDE X (.BoolOp .And (a :: b :: es) pos) (rAndV ra rb) := impE (pe_and ha hb) fun σ H Q q => by
  obtain ⟨F, ρ, h, Q', s, hd, q, k⟩ := q
  refine ⟨F, ρ, h, _, s, hd, q, fun F1 x h1 v1 H1 l1 rx d1 q1 => ?_⟩
  obtain ⟨b, e, q1⟩ := q1
  subst e
  cases rx
  refine ⟨b, rfl, ?_⟩
  cases b with
  | true =>
    rw [if_pos rfl] at q1 ⊢
    exact ⟨F1, ρ, h1, Q', s.le l1, d1, q1, k.le l1⟩
  | false =>
    rw [if_neg Bool.false_ne_true] at q1 ⊢
    exact k F1 _ h1 _ H1 l1 (.bl _) d1 q1
theorem de_or (ha : PDE X a ra) (hb : PDE X (.BoolOp .Or (b :: es) pos) rb) : PDE X (.BoolOp .Or (a :: b :: es) pos) (rOrV ra rb) := impE (pe_or ha hb) fun σ H Q q => by
  obtain ⟨F, ρ, h, Q', s, hd, q, k⟩ := q
  refine ⟨F, ρ, h, _, s, hd, q, fun F1 x h1 v1 H1 l1 rx d1 q1 => ?_⟩
  obtain ⟨b, e, q1⟩ := q1
  subst e
  cases rx
  refine ⟨b, rfl, ?_⟩
  cases b with
  | true =>
    rw [if_pos rfl] at q1 ⊢
    exact k F1 _ h1 _ H1 l1 (.bl _) d1 q1
  | false =>
    rw [if_neg Bool.false_ne_true] at q1 ⊢
    exact ⟨F1, ρ, h1, Q', s.le l1, d1, q1, k.le l1⟩
theorem de_not (ha : PDE X a ra) : PDE X (.UnaryOp .Not a pos) (rNotV ra) := impE (pe_not ha) fun σ H Q q => by
  obtain ⟨F, ρ, h, Q', s, hd, q, k⟩ := q
  refine ⟨F, ρ, h, _, s, hd, q, fun F1 x h1 v1 H1 l1 rx d1 q1 => ?_⟩
  obtain ⟨b, e, q1⟩ := q1
  subst e
  cases rx
  exact ⟨b, rfl, k F1 _ h1 _ H1 l1 (.bl _) d1 q1⟩
def rIfE (t : DT) (ra rb : DE) : DE := fun ρ h Q => t ρ h fun b h1 => if b = true then ra ρ h1 Q else rb ρ h1 Q
theorem de_ifE (hc : PDT X c t1) (ha : PDE X a ra) (hb : PDE X b rb) : PDE X (.IfExp c a b pos) (rIfE t1 ra rb) := impE (pe_ifExp hc ha hb) fun σ H Q q => by
  obtain ⟨F, ρ, h, Q', s, hd, q, k⟩ := q
  refine ⟨F, ρ, h, _, s, hd, q, fun F1 b h1 H1 l1 d1 q1 => ?_⟩
  cases b with
  | true =>
    rw [if_pos rfl] at q1 ⊢
    exact ⟨F1, ρ, h1, Q', s.le l1, d1, q1, k.le l1⟩
  | false =>
    rw [if_neg Bool.false_ne_true] at q1 ⊢
    exact ⟨F1, ρ, h1, Q', s.le l1, d1, q1, k.le l1⟩
end

/-! ### targets -/
abbrev DG := D → DSt → DHp → (DSt → DHp → Prop) → Prop
abbrev DGs := List D → DSt → DHp → (DSt → DHp → Prop) → Prop
def KontG (K : PySem.W.Frag) (F : Addr → Prop) (H : Hp) (Q' : DSt → DHp → Prop) (Q : L2.St → Hp → Prop) : Prop := ∀ F' ρ' h' σ' H', Le F H F' H' → Rs K F' H' σ' ρ' → Hd K F' H' h' → Q' ρ' h' → Q σ' H'
def tDG (K : PySem.W.Frag) (g : DG) : TG := fun v σ H Q => ∃ F ρ h d Q', Rs K F H σ ρ ∧ Rp K F H v d ∧ Hd K F H h ∧ g d ρ h Q' ∧ KontG K F H Q' Q
def tDGs (K : PySem.W.Frag) (g : DGs) : TGs := fun vs σ H Q => ∃ F ρ h ds Q', Rs K F H σ ρ ∧ Rps K F H vs ds ∧ Hd K F H h ∧ g ds ρ h Q' ∧ KontG K F H Q' Q
abbrev PDG (X : Cx) (t : Expr) (g : DG) : Prop := PG X t (tDG X.K g)
abbrev PDGs (X : Cx) (ts : List Expr) (g : DGs) : Prop := PGs X ts (tDGs X.K g)
def gN (i : Nat) : DG := fun d ρ h Q => Q (ρ.set i (some d)) h
def gs0 : DGs := fun ds ρ h Q => ds = [] ∧ Q ρ h
def gsC (g : DG) (gs : DGs) : DGs := fun ds ρ h Q => ∃ d r, ds = d :: r ∧ g d ρ h fun ρ' h' => gs r ρ' h' Q
def gT (n : Nat) (gs : DGs) : DG := fun d ρ h Q => ∃ ds, d = .tup ds ∧ ds.length = n ∧ gs ds ρ h Q
section
variable {X : Cx} {e tg : Expr} {es : List Expr} {pos : Pos} {g : DG} {gs : DGs} {re : DE}
theorem impG {t t' : TG} (h : PG X e t) (i : ∀ v σ H Q, t' v σ H Q → t v σ H Q) : PG X e t' := ⟨fun pins s σ H v u Q I r q => h.run pins s σ H v u Q I r (i _ _ _ _ q)⟩
theorem impGs {t t' : TGs} (h : PGs X es t) (i : ∀ v σ H Q, t' v σ H Q → t v σ H Q) : PGs X es t' := ⟨fun pins s σ H v u Q I r q => h.run pins s σ H v u Q I r (i _ _ _ _ q)⟩
theorem dg_name (i : Nat) {x : Str} {N : List Str} {sc : Scope} (nd : N.Nodup) (hN : X.N = N) (hs : X.env.scope = sc) (hi : N[i]? = some x) (hx : Loc sc x) (hf : X.fn x = true ∨ sc.names.lookup x = some .local) : PDG X (.Name x pos) (gN i) := by
  subst hN hs
  refine impG (pg_name nd hi hx hf) fun v σ H Q q => ?_
  obtain ⟨F, ρ, h, d, Q', s, r, hd, q, k⟩ := q
  exact k F _ h _ H .refl (s.set i r) hd q
theorem dgs_nil : PDGs X [] gs0 := impGs pgs_nil fun vs σ H Q q => by
  obtain ⟨F, ρ, h, ds, Q', s, r, hd, ⟨e, q⟩, k⟩ := q
  subst e
  cases r
  exact ⟨rfl, k F ρ h σ H .refl s hd q⟩
theorem dgs_cons (h1 : PDG X e g) (h2 : PDGs X es gs) (hs : (assignEach (e :: es) X.env).map (·.2) = assign e X.env :: (assignEach es X.env).map (·.2) := by rfl) : PDGs X (e :: es) (gsC g gs) := impGs (pgs_cons h1 h2 hs) fun vs σ H Q q => by
  obtain ⟨F, ρ, h, ds, Q', s, r, hd, ⟨d, r', e, q⟩, k⟩ := q
  subst e
  cases r with
  | cons r1 r2 => exact ⟨_, _, rfl, F, ρ, h, d, _, s, r1, hd, q, fun F1 ρ1 h1 σ1 H1 l1 s1 d1 q1 => ⟨F1, ρ1, h1, r', Q', s1, r2.le l1, d1, q1, fun F2 ρ2 h2 σ2 H2 l2 => k F2 ρ2 h2 σ2 H2 (l1.trans l2)⟩⟩
theorem dg_tup {k : Nat} {n : Nat} (hc : X.calm = true) (h : PDGs X es gs) (hn : (assignEach es X.env).length = n := by rfl) (hst : (assignEach es X.env).findIdx? (·.1) = none := by rfl) : PDG X (.Tuple es k pos) (gT n gs) := impG (pg_tup hc h hn hst) fun v σ H Q q => by
  obtain ⟨F, ρ, h, d, Q', s, r, hd, ⟨ds, e, e2, q⟩, k⟩ := q
  subst e
  cases r with
  | tup e1 rs => exact ⟨_, _, rfl, SqT.of e1, by rw [rs.length]; exact e2, F, ρ, h, ds, Q', s, rs, hd, q, k⟩
def rAsg (r : DE) (g : DG) : DS := fun E ρ h => r ρ h fun d h1 => g d ρ h1 E.nx
theorem tD_asg {K : PySem.W.Frag} {D' : Ends} {σ : L2.St} {H : Hp} (q : tDS K (rAsg re g) D' σ H) : tAsg (tD K re) (tDG K g) D' σ H := by
  obtain ⟨F, ρ, h, E, s, hd, q, k⟩ := q
  exact ⟨F, ρ, h, _, s, hd, q, fun F1 d h1 v1 H1 l1 r1 d1 q1 => ⟨F1, ρ, h1, d, E.nx, s.le l1, r1, d1, q1, fun F2 ρ2 h2 σ2 H2 l2 => k.nx F2 ρ2 h2 σ2 H2 (l1.trans l2)⟩⟩
theorem ds_asg (he : PDE X e re) (hg : PDG X tg g) (hs : swapsWithSole [tg] e pos.line X.env = pure false := by rfl) (hw : swappedStores [tg] e X.env = pure none := by rfl)
    (h1 : (assignEach [tg] X.env).map (·.2) = [assign tg X.env] := by rfl) : PDS X (.Assign [tg] e pos) (rAsg re g) := impS (ps_asg he hg hs hw h1) fun _ _ _ q => tD_asg q
theorem ds_set (i : Nat) {x : Str} {N : List Str} {sc : Scope} {pos' : Pos} (nd : N.Nodup) (hN : X.N = N) (hs : X.env.scope = sc) (hi : N[i]? = some x) (hx : Loc sc x) (hf : X.fn x = true ∨ sc.names.lookup x = some .local) (he : PDE X e re)
    (hsw : swapsWith e (some (.Name x pos')) pos.line X.env = pure false := by rfl) : PDS X (.Assign [.Name x pos'] e pos) (rAsg re (gN i)) := by
  subst hN hs
  refine impS (ps_set nd hi hx he hsw hf) fun D' σ H q => ?_
  obtain ⟨F, ρ, h, E, s, hd, q, k⟩ := q
  exact ⟨F, ρ, h, _, s, hd, q, fun F1 d h1 v1 H1 l1 r1 d1 q1 => k.nx F1 _ h1 _ H1 l1 ((s.le l1).set i r1) d1 q1⟩
/-- x op= e, ints -/
def rAugI (f : Int → Int → Int) (i : Nat) (r : DE) : DS := fun E ρ h => ∃ z, ρ[i]? = some (some (.int z)) ∧ r ρ h fun d h1 => ∃ y, d = .int y ∧ E.nx (ρ.set i (some (.int (f z y)))) h1
end

/-! ### dicts -/
def getD' (kvs : List (DK × D)) (k : DK) : Option D := (kvs.find? fun p => decide (p.1 = k)).map (·.2)
def putD (kvs : List (DK × D)) (k : DK) (v : D) : List (DK × D) := if (kvs.any fun p => decide (p.1 = k)) = true then kvs.map (fun p => if p.1 = k then (p.1, v) else p) else kvs ++ [(k, v)]
def getT (kvs : List (List DK × D)) (k : List DK) : Option D := (kvs.find? fun p => decide (p.1 = k)).map (·.2)
def putT (kvs : List (List DK × D)) (k : List DK) (v : D) : List (List DK × D) := if (kvs.any fun p => decide (p.1 = k)) = true then kvs.map (fun p => if p.1 = k then (p.1, v) else p) else kvs ++ [(k, v)]
section
variable {K : PySem.W.Frag} {F : Addr → Prop} {H : Hp}
theorem toKeys_inj : ∀ {a b : List DK}, a.map toKey = b.map toKey → a = b
  | [], [], _ => rfl
  | [], _ :: _, h => by cases h
  | _ :: _, [], h => by cases h
  | x :: a, y :: b, h => by
    simp only [List.map_cons, List.cons.injEq] at h
    rw [toKey_inj h.1, toKeys_inj h.2]
def RO2 (K : PySem.W.Frag) (F : Addr → Prop) (H : Hp) (o : Option D) (o' : Option V) : Prop := match o with
  | some d => ∃ x, o' = some x ∧ Rp K F H x d
  | none => o' = none
/-- tables that go along -/
theorem alongGet {κ κ' : Type} [DecidableEq κ] [DecidableEq κ'] {f : κ' → κ} (inj : ∀ a b, f a = f b → a = b) {ks : List (κ × V)} {kvs : List (κ' × D)} (r : Paired (fun (p : κ × V) (q : κ' × D) => p.1 = f q.1 ∧ Rp K F H p.2 q.2) ks kvs) (k : κ') :
    RO2 K F H ((kvs.find? fun p => decide (p.1 = k)).map (·.2)) (valV ks (f k)) := by
  induction r with
  | nil => rfl
  | @cons p q ps qs h t ih =>
    by_cases e : q.1 = k
    · have e2 : p.1 = f k := by rw [h.1, e]
      simp only [List.find?_cons, decide_eq_true e, Option.map_some]
      exact ⟨p.2, valV_pos e2, h.2⟩
    · have e2 : ¬ p.1 = f k := fun z => e (inj _ _ (h.1.symm.trans z))
      simp only [List.find?_cons, decide_eq_false e]
      rw [valV_neg e2]
      exact ih
theorem alongAny {κ κ' : Type} [DecidableEq κ] [DecidableEq κ'] {f : κ' → κ} (inj : ∀ a b, f a = f b → a = b) {ks : List (κ × V)} {kvs : List (κ' × D)} (r : Paired (fun (p : κ × V) (q : κ' × D) => p.1 = f q.1 ∧ Rp K F H p.2 q.2) ks kvs) (k : κ') :
    (ks.any fun p => decide (p.1 = f k)) = (kvs.any fun p => decide (p.1 = k)) := by
  induction r with
  | nil => rfl
  | @cons p q ps qs h t ih =>
    simp only [List.any_cons, ih]
    congr 1
    rw [h.1]
    by_cases e : q.1 = k
    · simp [e]
    · have : ¬ f q.1 = f k := fun z => e (inj _ _ z)
      simp [e, this]
theorem alongPut {κ κ' : Type} [DecidableEq κ] [DecidableEq κ'] {f : κ' → κ} (inj : ∀ a b, f a = f b → a = b) {ks : List (κ × V)} {kvs : List (κ' × D)} (r : Paired (fun (p : κ × V) (q : κ' × D) => p.1 = f q.1 ∧ Rp K F H p.2 q.2) ks kvs) (k : κ') {v : V} {d : D} (rv : Rp K F H v d) :
    Paired (fun (p : κ × V) (q : κ' × D) => p.1 = f q.1 ∧ Rp K F H p.2 q.2) (putK ks (f k) v) (if (kvs.any fun p => decide (p.1 = k)) = true then kvs.map (fun p => if p.1 = k then (p.1, d) else p) else kvs ++ [(k, d)]) := by
  unfold putK
  rw [alongAny inj r k]
  have up : ∀ {ks : List (κ × V)} {kvs : List (κ' × D)}, Paired (fun (p : κ × V) (q : κ' × D) => p.1 = f q.1 ∧ Rp K F H p.2 q.2) ks kvs →
      Paired (fun (p : κ × V) (q : κ' × D) => p.1 = f q.1 ∧ Rp K F H p.2 q.2) (ks.map (fun kv => if kv.1 = f k then (kv.1, v) else kv)) (kvs.map (fun p => if p.1 = k then (p.1, d) else p)) := fun {ks kvs} r => by
    induction r with
    | nil => exact .nil
    | @cons p q ps qs h t ih =>
      simp only [List.map_cons]
      refine .cons ?_ ih
      by_cases e : q.1 = k
      · rw [if_pos e, if_pos (by rw [h.1, e])]
        exact ⟨h.1, rv⟩
      · rw [if_neg e, if_neg (fun z => e (inj _ _ (h.1.symm.trans z)))]
        exact h
  have ap : ∀ {ks : List (κ × V)} {kvs : List (κ' × D)}, Paired (fun (p : κ × V) (q : κ' × D) => p.1 = f q.1 ∧ Rp K F H p.2 q.2) ks kvs →
      Paired (fun (p : κ × V) (q : κ' × D) => p.1 = f q.1 ∧ Rp K F H p.2 q.2) (ks ++ [(f k, v)]) (kvs ++ [(k, d)]) := fun {ks kvs} r => by
    induction r with
    | nil => exact .cons ⟨rfl, rv⟩ .nil
    | cons h t ih => exact .cons h ih
  split
  · exact up r
  · exact ap r
end
def keyD : D → Option DK
  | .int i => some (.inl i)
  | .str s => some (.inr s)
  | _ => none
def keysD : List D → Option (List DK)
  | [] => some []
  | d :: ds => (match keyD d, keysD ds with
    | some k, some ks => some (k :: ks)
    | _, _ => none)
section
variable {K : PySem.W.Frag} {F : Addr → Prop} {H : Hp} {h : DHp}
theorem Rp.key {v : V} {d : D} {k : DK} (r : Rp K F H v d) (e : keyD d = some k) : v = kV (toKey k) := by
  cases r with
  | int i => cases e; rfl
  | str s => cases e; rfl
  | _ => cases e
theorem Rps.keys : ∀ {ds : List D} {vs : List V} {ks : List DK}, Rps K F H vs ds → keysD ds = some ks → vs = (ks.map toKey).map kV
  | [], _, _, r, e => by cases r; cases e; rfl
  | d :: ds, _, ks, r, e => by
    cases r with
    | cons r t =>
      simp only [keysD] at e
      cases e1 : keyD d with
      | none => rw [e1] at e; cases e
      | some k =>
        cases e2 : keysD ds with
        | none => rw [e1, e2] at e; cases e
        | some ks' =>
          rw [e1, e2] at e
          cases e
          simp only [List.map_cons]
          rw [r.key e1, Rps.keys t e2]
/-- what a dict's cell holds at a key -/
def lookD (h : DHp) (a : Addr) (y : D) : Option (Option D) := match h a with
  | some (.dK kvs) => (keyD y).map (getD' kvs)
  | some (.dT kvs) => (match y with
    | .tup ks => (keysD ks).map (getT kvs)
    | _ => none)
  | _ => none
theorem Hd.get {a : Addr} {y : D} {o : Option D} {v : V} (hd : Hd K F H h) (r : Rp K F H v y) (e : lookD h a y = some o) :
    ∃ o', DGet H a v o' ∧ RO2 K F H o o' := by
  unfold lookD at e
  cases q : h a with
  | none => rw [q] at e; cases e
  | some c =>
    rw [q] at e
    cases c with
    | lst _ => cases e
    | dK kvs =>
      obtain ⟨⟨ks, h1, rk⟩, _⟩ := hd.cell a _ q
      cases ek : keyD y with
      | none => rw [ek] at e; cases e
      | some k =>
        rw [ek] at e
        have e' : getD' kvs k = o := Option.some.inj e
        have ev := r.key ek
        subst ev
        have g := alongGet (f := toKey) (fun a b => toKey_inj) rk k
        refine ⟨valV ks (toKey k), DGet.k h1, ?_⟩
        unfold getD' at e'
        rw [e'] at g
        exact g
    | dT kvs =>
      obtain ⟨⟨ks, h1, rk⟩, _⟩ := hd.cell a _ q
      cases y with
      | tup ys =>
        simp only at e
        cases ek : keysD ys with
        | none => rw [ek] at e; cases e
        | some k =>
          rw [ek] at e
          have e' : getT kvs k = o := Option.some.inj e
          cases r with
          | tup e1 rs =>
            have ev := rs.keys ek
            subst ev
            have g := alongGet (f := fun z : List DK => z.map toKey) (fun a b => toKeys_inj) rk k
            refine ⟨valV ks (k.map toKey), DGet.t h1 e1, ?_⟩
            unfold getT at e'
            rw [e'] at g
            exact g
      | _ => cases e
/-- a dict's cell behind a store -/
def storeD (h : DHp) (a : Addr) (y d : D) : Option Cell := match h a with
  | some (.dK kvs) => (keyD y).map fun k => .dK (putD kvs k d)
  | some (.dT kvs) => (match y with
    | .tup ks => (keysD ks).map fun k => .dT (putT kvs k d)
    | _ => none)
  | _ => none
def sizeC (h : DHp) (a : Addr) : Nat := match h a with
  | some (.dK kvs) => kvs.length
  | some (.dT kvs) => kvs.length
  | some (.lst ds) => ds.length
  | none => 0
theorem paired_len {α β : Type} {R : α → β → Prop} {l : List α} {m : List β} (r : Paired R l m) : l.length = m.length := Paired.length r
theorem Hd.put {a : Addr} {y d : D} {c : Cell} {vy vd : V} (hd : Hd K F H h) (r : Rp K F H vy y) (rd : Rp K F H vd d) (e : storeD h a y d = some c) (hz : sizeC h a < sizeLine) :
    ∃ H', DPut H a vy vd H' ∧ Le F H F H' ∧ Hd K F H' (updD h a c) := by
  unfold storeD at e
  unfold sizeC at hz
  cases q : h a with
  | none => rw [q] at e; cases e
  | some c0 =>
    rw [q] at e hz
    cases c0 with
    | lst _ => cases e
    | dK kvs =>
      obtain ⟨⟨ks, h1, rk⟩, _⟩ := hd.cell a _ q
      cases ek : keyD y with
      | none => rw [ek] at e; cases e
      | some k =>
        rw [ek] at e
        have e' : Cell.dK (putD kvs k d) = c := Option.some.inj e
        subst e'
        have ev := r.key ek
        subst ev
        refine ⟨_, DPut.k h1 (by rw [paired_len rk]; exact hz), hd.set q fun l => ⟨_, upd_same, ?_⟩⟩
        exact alongPut (f := toKey) (fun a b => toKey_inj) (Paired.mapP rk fun p q z => ⟨z.1, z.2.le l⟩) k (rd.le l)
    | dT kvs =>
      obtain ⟨⟨ks, h1, rk⟩, _⟩ := hd.cell a _ q
      cases y with
      | tup ys =>
        simp only at e
        cases ek : keysD ys with
        | none => rw [ek] at e; cases e
        | some k =>
          rw [ek] at e
          have e' : Cell.dT (putT kvs k d) = c := Option.some.inj e
          subst e'
          cases r with
          | tup e1 rs =>
            have ev := rs.keys ek
            subst ev
            refine ⟨_, DPut.t h1 e1 (by rw [paired_len rk]; exact hz), hd.set q fun l => ⟨_, upd_same, ?_⟩⟩
            exact alongPut (f := fun z : List DK => z.map toKey) (fun a b => toKeys_inj) (Paired.mapP rk fun p q z => ⟨z.1, z.2.le l⟩) k (rd.le l)
      | _ => cases e
end
section
variable {X : Cx} {o i e f value : Expr} {pos pos' apos cpos : Pos} {ro ri rv rf : DE}
/-- d[y] -/
def rDG (ro ri : DE) : DE := fun ρ h Q => ro ρ h fun x h1 => ri ρ h1 fun y h2 => ∃ a d, x = .ref a ∧ lookD h2 a y = some (some d) ∧ Q d h2
theorem de_dget (hu : X.A.units + 1 < cLine) (ho : PDE X o ro) (hi : PDE X i ri) (hs : NoSl i) : PDE X (.Subscript o i pos) (rDG ro ri) := impE (pe_dget hu ho hi hs) fun σ H Q q => by
  obtain ⟨F, ρ, h, Q', s, hd, q, k⟩ := q
  refine ⟨F, ρ, h, _, s, hd, q, fun F1 x h1 v1 H1 l1 rx d1 q1 => ⟨F1, ρ, h1, _, s.le l1, d1, q1, fun F2 y h2 v2 H2 l2 ry d2 q2 => ?_⟩⟩
  obtain ⟨a, d, e1, e2, q2⟩ := q2
  subst e1
  cases rx
  obtain ⟨o', g, w, e3, rw'⟩ := d2.get ry e2
  subst e3
  exact ⟨a, w, rfl, g, k F2 d h2 w H2 (l1.trans l2) rw' d2 q2⟩
/-- y in d -/
def rDIn (neg : Bool) (ri ro : DE) : DE := fun ρ h Q => ri ρ h fun y h1 => ro ρ h1 fun x h2 => ∃ a z, x = .ref a ∧ lookD h2 a y = some z ∧ Q (.bl (z.isSome != neg)) h2
theorem isSome_of {K : PySem.W.Frag} {F : Addr → Prop} {H : Hp} {o : Option D} {o' : Option V} (g : RO2 K F H o o') : o'.isSome = o.isSome := by
  cases o with
  | none => cases (show o' = none from g); rfl
  | some d => obtain ⟨x, e, _⟩ := g; subst e; rfl
theorem dc_din (hu : X.A.units + 1 < cLine) (hi : PDE X i ri) (ho : PDE X o ro) (hm : behindInMarks .In o = false) : PDE X (.Compare i [.In] [o] pos) (rDIn false ri ro) := impE (pe_cmp (pc_din hu hi ho) hm) fun σ H Q q => by
  obtain ⟨F, ρ, h, Q', s, hd, q, k⟩ := q
  refine ⟨F, ρ, h, _, s, hd, q, fun F1 y h1 v1 H1 l1 ry d1 q1 => ⟨F1, ρ, h1, _, s.le l1, d1, q1, fun F2 x h2 v2 H2 l2 rx d2 q2 => ?_⟩⟩
  obtain ⟨a, z, e1, e2, q2⟩ := q2
  subst e1
  cases rx
  obtain ⟨o', g, w⟩ := d2.get (ry.le l2) e2
  refine ⟨a, o', rfl, g, ?_⟩
  rw [isSome_of w]
  have q2' := k F2 _ h2 _ H2 (l1.trans l2) (.bl _) d2 q2
  simpa using q2'
theorem dc_dnotin (hu : X.A.units + 1 < cLine) (hi : PDE X i ri) (ho : PDE X o ro) (hm : behindInMarks .NotIn o = false) : PDE X (.Compare i [.NotIn] [o] pos) (rDIn true ri ro) := impE (pe_cmp (pc_dnotin hu hi ho) hm) fun σ H Q q => by
  obtain ⟨F, ρ, h, Q', s, hd, q, k⟩ := q
  refine ⟨F, ρ, h, _, s, hd, q, fun F1 y h1 v1 H1 l1 ry d1 q1 => ⟨F1, ρ, h1, _, s.le l1, d1, q1, fun F2 x h2 v2 H2 l2 rx d2 q2 => ?_⟩⟩
  obtain ⟨a, z, e1, e2, q2⟩ := q2
  subst e1
  cases rx
  obtain ⟨o', g, w⟩ := d2.get (ry.le l2) e2
  refine ⟨a, o', rfl, g, ?_⟩
  rw [isSome_of w]
  have q2' := k F2 _ h2 _ H2 (l1.trans l2) (.bl _) d2 q2
  simpa using q2'
/-- d[y] = v -/
def rDP (ro ri rv : DE) : DS := fun E ρ h => rv ρ h fun d h1 => ro ρ h1 fun x h2 => ri ρ h2 fun y h3 => ∃ a c, x = .ref a ∧ storeD h3 a y d = some c ∧ sizeC h3 a < sizeLine ∧ E.nx ρ (updD h3 a c)
theorem ds_dput (hu : X.A.units + 1 < cLine) (ho : PDE X o ro) (hi : PDE X i ri) (hv : PDE X value rv) (hs : swapsWith value (some (.Subscript o i pos')) pos.line X.env = pure false := by rfl) : PDS X (.Assign [.Subscript o i pos'] value pos) (rDP ro ri rv) :=
  impS (ps_dput hu ho hi hv hs) fun D' σ H q => by
  obtain ⟨F, ρ, h, E, s, hd, q, k⟩ := q
  refine ⟨F, ρ, h, _, s, hd, q, fun F1 d h1 v1 H1 l1 rd d1 q1 => ⟨F1, ρ, h1, _, s.le l1, d1, q1, fun F2 x h2 v2 H2 l2 rx d2 q2 => ⟨F2, ρ, h2, _, s.le (l1.trans l2), d2, q2, fun F3 y h3 v3 H3 l3 ry d3 q3 => ?_⟩⟩⟩
  obtain ⟨a, c, e1, e2, z, q3⟩ := q3
  subst e1
  cases rx
  obtain ⟨H4, g, l4, d4⟩ := d3.put ry (rd.le (l2.trans l3)) e2 z
  exact ⟨a, H4, rfl, g, k.nx F3 ρ _ σ H4 (l1.trans (l2.trans (l3.trans l4))) (s.le (l1.trans (l2.trans (l3.trans l4)))) d4 q3⟩
/-- {} -/
def rNewK : DE := fun _ h Q => ∀ p, h p = none → Q (.ref p) (updD h p (.dK []))
def rNewT : DE := fun _ h Q => ∀ p, h p = none → Q (.ref p) (updD h p (.dT []))
theorem de_newK : PDE X (.Dict [] [] pos) rNewK := impE pe_dnewK fun σ H Q q => by
  obtain ⟨F, ρ, h, Q', s, hd, q, k⟩ := q
  exact fun p np => k F _ _ _ _ (Le.new np) (.ref p) (hd.add (c := .dK []) np ⟨[], upd_same, .nil⟩) (q p (hd.none np))
theorem de_newT : PDE X (.Dict [] [] pos) rNewT := impE pe_dnewT fun σ H Q q => by
  obtain ⟨F, ρ, h, Q', s, hd, q, k⟩ := q
  exact fun p np => k F _ _ _ _ (Le.new np) (.ref p) (hd.add (c := .dT []) np ⟨[], upd_same, .nil⟩) (q p (hd.none np))
/-- d.get(y, z) -/
def rDG2 (ro ri rf : DE) : DE := fun ρ h Q => ro ρ h fun x h1 => ∃ a, x = .ref a ∧ (∃ c, h1 a = some c ∧ (∀ ds, c ≠ .lst ds)) ∧ ri ρ h1 fun y h2 => rf ρ h2 fun z h3 => ∃ w, lookD h3 a y = some w ∧ Q (w.getD z) h3
theorem isD_of {K : PySem.W.Frag} {F : Addr → Prop} {H : Hp} {h : DHp} {a : Addr} (hd : Hd K F H h) (e : ∃ c, h a = some c ∧ (∀ ds, c ≠ .lst ds)) : IsD H a := by
  obtain ⟨c, e1, e2⟩ := e
  obtain ⟨k, _⟩ := hd.cell a c e1
  cases c with
  | lst ds => exact absurd rfl (e2 ds)
  | dK kvs => obtain ⟨ks, h1, _⟩ := k; exact .inl ⟨ks, .inl h1⟩
  | dT kvs => obtain ⟨ks, h1, _⟩ := k; exact .inr ⟨ks, .inl h1⟩
theorem de_dget2 (hu : X.A.units + 1 < cLine) (ho : PDE X o ro) (hi : PDE X e ri) (hf : PDE X f rf) (m : M2 X o "get" apos e f cpos) : PDE X (.Call (.Attribute o "get" apos) [e, f] [] cpos) (rDG2 ro ri rf) := impE (pe_dget2 hu ho hi hf m) fun σ H Q q => by
  obtain ⟨F, ρ, h, Q', s, hd, q, k⟩ := q
  refine ⟨F, ρ, h, _, s, hd, q, fun F1 x h1 v1 H1 l1 rx d1 q1 => ?_⟩
  obtain ⟨a, e1, e2, q1⟩ := q1
  subst e1
  cases rx
  refine ⟨a, rfl, isD_of d1 e2, F1, ρ, h1, _, s.le l1, d1, q1, fun F2 y h2 v2 H2 l2 ry d2 q2 => ⟨F2, ρ, h2, _, s.le (l1.trans l2), d2, q2, fun F3 z h3 v3 H3 l3 rz d3 q3 => ?_⟩⟩
  obtain ⟨w, e3, q3⟩ := q3
  obtain ⟨o', g, rw'⟩ := d3.get (ry.le l3) e3
  refine ⟨o', g, ?_⟩
  cases w with
  | none => cases (show o' = none from rw'); exact k F3 _ h3 _ H3 (l1.trans (l2.trans l3)) rz d3 q3
  | some d => obtain ⟨x, e4, rx⟩ := rw'; subst e4; exact k F3 _ h3 _ H3 (l1.trans (l2.trans l3)) rx d3 q3
end
end DX

set_option maxRecDepth 100000
set_option maxHeartbeats 4000000
namespace DX
open PySem PySem.Spec PyProof.Rows L2

/-! ### what is walked -/
structure Wk (K : PySem.W.Frag) (J : It) (items : List D) (keep : DHp → Prop) (F0 : Addr → Prop) (H0 : Hp) : Prop where
  goes : ∀ i F H h, i < items.length → Le F0 H0 F H → Hd K F H h → keep h → J.go i H
  stops : ∀ F H h, Le F0 H0 F H → Hd K F H h → keep h → J.stop items.length H
  yields : ∀ i F H h x H', i < items.length → Le F0 H0 F H → Hd K F H h → keep h → J.yld i H x H' → Le F H F H' ∧ Hd K F H' h ∧ ∃ d, items[i]? = some d ∧ Rp K F H' x d
abbrev DI := DSt → DHp → (List D → (DHp → Prop) → DHp → Prop) → Prop
def tDI (K : PySem.W.Frag) (r : DI) : TI := fun σ H R => ∃ F ρ h R', Rs K F H σ ρ ∧ Hd K F H h ∧ r ρ h R' ∧ ∀ F' items keep h' H' J, Le F H F' H' → Hd K F' H' h' → Wk K J items keep F' H' → R' items keep h' → R J H'
abbrev PDI (X : Cx) (tg e : Expr) (r : DI) : Prop := PI X tg e (tDI X.K r)
section
variable {X : Cx} {tg e : Expr} {es : List Expr} {re : DE} {ra : DA} {pos p : Pos}
theorem impPI {t t' : TI} (h : PI X tg e t) (i : ∀ σ H Q, t' σ H Q → t σ H Q) : PI X tg e t' := ⟨fun pins s σ H Q I q => h.run pins s σ H Q I (i _ _ _ q)⟩
theorem wk_list {K : PySem.W.Frag} {a : Addr} {ds : List D} {keep : DHp → Prop} {F0 : Addr → Prop} {H0 : Hp} (hk : ∀ F H h, Le F0 H0 F H → Hd K F H h → keep h → ∃ xs, SqL K H a xs ∧ Rps K F H xs ds) : Wk K (Itl K a) ds keep F0 H0 where
  goes := fun i F H h hi l d k => by
    obtain ⟨xs, sq, r⟩ := hk F H h l d k
    exact ⟨xs, xs[i]'(by rw [r.length]; exact hi), sq, by simp⟩
  stops := fun F H h l d k => by
    obtain ⟨xs, sq, r⟩ := hk F H h l d k
    exact ⟨xs, sq, by rw [r.length]; exact Nat.le_refl _⟩
  yields := fun i F H h x H' hi l d k y => by
    obtain ⟨xs, sq, r⟩ := hk F H h l d k
    obtain ⟨e, y⟩ := y
    subst e
    obtain ⟨d', e1, e2⟩ := r.getV (y xs sq)
    exact ⟨.refl, d, d', e1, e2⟩
theorem wk_tup {K : PySem.W.Frag} {a : Addr} {ds : List D} {keep : DHp → Prop} {F0 : Addr → Prop} {H0 : Hp} (hk : ∀ F H, Le F0 H0 F H → ∃ xs, SqT K H a xs ∧ Rps K F H xs ds) : Wk K (Itt K a) ds keep F0 H0 where
  goes := fun i F H h hi l d k => by
    obtain ⟨xs, sq, r⟩ := hk F H l
    exact ⟨xs, xs[i]'(by rw [r.length]; exact hi), sq, by simp⟩
  stops := fun F H h l d k => by
    obtain ⟨xs, sq, r⟩ := hk F H l
    exact ⟨xs, sq, by rw [r.length]; exact Nat.le_refl _⟩
  yields := fun i F H h x H' hi l d k y => by
    obtain ⟨xs, sq, r⟩ := hk F H l
    obtain ⟨e, y⟩ := y
    subst e
    obtain ⟨d', e1, e2⟩ := r.getV (y xs sq)
    exact ⟨.refl, d, d', e1, e2⟩
/-- a list or a tuple -/
def iSq (K : PySem.W.Frag) (tl : TE) : TI := fun σ H R => tl σ H fun x H1 => ∃ a, x = .ref a ∧ (((∃ xs, SqL K H1 a xs) ∧ R (Itl K a) H1) ∨ ((∃ xs, SqT K H1 a xs) ∧ R (Itt K a) H1))
theorem pi_sq {tl : TE} (hl : PE X e tl) : PI X tg e (iSq X.K tl) := by
  constructor
  intro ps s0 σ H R I0 w0
  apply thn (hl.run ps s0 σ H _ I0 w0)
  rintro u s ⟨x, G, I, rx, a, ex, qq⟩
  subst ex
  cases rx
  have new : ∀ b ∈ [s.heap.objs.size], FpOk X ps G b := fun b hb => by
    cases (show b = s.heap.objs.size by simpa using hb)
    exact I.fpOk (Nat.le_refl _) (I.hok.fresh (Nat.le_refl _))
  have kp : ∀ (ob : Obj), Inv X ps σ G { s with heap := s.heap.push ob } := fun ob => I.kept (t' := s.toks) fun b o z => Heap.get?_push_of_some _ z
  rcases qq with ⟨⟨xs, sq⟩, q⟩ | ⟨⟨xs, sq⟩, q⟩
  · obtain ⟨its, rv, pl, _⟩ := I.list sq
    exact wpAny_pyIter_list pl.isList ⟨_, [s.heap.objs.size], _, _, G, rfl, kp _, turn_list a _, ⟨_, Heap.get?_push_size _ rfl, rfl, rfl⟩, new, q⟩
  · obtain ⟨its, rv, pl, _⟩ := I.tuple sq
    exact wpAny_pyIter_tuple (show s.heap.IsTuple a its.toArray from pl) ⟨_, [s.heap.objs.size], _, _, G, rfl, kp _, turn_tuple a _, ⟨_, Heap.get?_push_size _ rfl, rfl, rfl⟩, new, q⟩
theorem Rp.seqs {K : PySem.W.Frag} {F : Addr → Prop} {H : Hp} {h : DHp} {v : V} {d : D} {ds : List D} (r : Rp K F H v d) (hd : Hd K F H h) (e : seqD h d = some ds) :
    ∃ a, v = .ref a ∧ (((∃ xs, SqL K H a xs) ∧ Wk K (Itl K a) ds (fun h => seqD h d = some ds) F H) ∨ ((∃ xs, SqT K H a xs) ∧ Wk K (Itt K a) ds (fun h => seqD h d = some ds) F H)) := by
  cases r with
  | tup e1 rs =>
    simp only [seqD, Option.some.injEq] at e; subst e
    exact ⟨_, rfl, .inr ⟨⟨_, SqT.of e1⟩, wk_tup fun F2 H2 l => ⟨_, SqT.of (l.tup _ _ e1), rs.le l⟩⟩⟩
  | ktup e1 rs =>
    simp only [seqD, Option.some.injEq] at e; subst e
    exact ⟨_, rfl, .inr ⟨⟨_, e1.sq⟩, wk_tup fun F2 H2 l => ⟨_, (KTup.le l e1).sq, rs.le l⟩⟩⟩
  | klst e1 rs =>
    simp only [seqD, Option.some.injEq] at e; subst e
    exact ⟨_, rfl, .inl ⟨⟨_, .inr e1⟩, wk_list fun F2 H2 h l _ _ => ⟨_, .inr e1, rs.le l⟩⟩⟩
  | lst e1 rs =>
    simp only [seqD, Option.some.injEq] at e; subst e
    exact ⟨_, rfl, .inl ⟨⟨_, e1.sq⟩, wk_list fun F2 H2 h l _ _ => ⟨_, (e1.le l).sq, rs.le l⟩⟩⟩
  | ref a =>
    obtain ⟨⟨xs, h1, rs⟩, _⟩ := hd.cell a _ (rdL_of e)
    refine ⟨a, rfl, .inl ⟨⟨xs, SqL.of h1⟩, wk_list fun F2 H2 h2 l d2 k => ?_⟩⟩
    obtain ⟨⟨ys, h3, r3⟩, _⟩ := d2.cell a _ (rdL_of k)
    exact ⟨ys, SqL.of h3, r3⟩
  | _ => simp [seqD] at e
def rSq (re : DE) : DI := fun ρ h R => re ρ h fun x h1 => ∃ ds, seqD h1 x = some ds ∧ R ds (fun h => seqD h x = some ds) h1
theorem di_seq (he : PDE X e re) : PDI X tg e (rSq re) := impPI (pi_sq he) fun σ H R q => by
  obtain ⟨F, ρ, h, R', s, hd, q, k⟩ := q
  refine ⟨F, ρ, h, _, s, hd, q, fun F1 x h1 v1 H1 l1 rx d1 q1 => ?_⟩
  obtain ⟨ds, e1, q1⟩ := q1
  obtain ⟨a, e2, w⟩ := rx.seqs d1 e1
  refine ⟨a, e2, ?_⟩
  rcases w with ⟨sq, w⟩ | ⟨sq, w⟩
  · exact .inl ⟨sq, k F1 ds _ h1 H1 _ l1 d1 w q1⟩
  · exact .inr ⟨sq, k F1 ds _ h1 H1 _ l1 d1 w q1⟩
/-- range -/
def rgD (lo : Int) (n : Nat) : List D := (List.range n).map fun i => .int (lo + (i : Nat))
theorem wk_range {K : PySem.W.Frag} {lo : Int} {n : Nat} {F0 : Addr → Prop} {H0 : Hp} : Wk K (Itr lo n) (rgD lo n) (fun _ => True) F0 H0 where
  goes := fun i F H h hi l d k => show i < n by simpa [rgD] using hi
  stops := fun F H h l d k => show n ≤ (rgD lo n).length by simp [rgD]
  yields := fun i F H h x H' hi l d k y => by
    obtain ⟨e1, e2⟩ := y
    subst e1 e2
    have hi : i < n := by simpa [rgD] using hi
    exact ⟨.refl, d, _, by simp only [rgD, List.getElem?_map, List.getElem?_range hi, Option.map_some], .int _⟩
def rRg1 (ra : DA) : DI := fun ρ h R => ra ρ h fun ds h1 => ∃ j : Int, ds = [.int j] ∧ -(2 ^ 62) ≤ j ∧ j < 2 ^ 62 ∧ R (rgD 0 j.toNat) (fun _ => True) h1
def rRg2 (ra : DA) : DI := fun ρ h R => ra ρ h fun ds h1 => ∃ i j : Int, ds = [.int i, .int j] ∧ (-(2 ^ 62) ≤ i ∧ i < 2 ^ 62 ∧ -(2 ^ 62) ≤ j ∧ j < 2 ^ 62) ∧ R (rgD i (j - i).toNat) (fun _ => True) h1
variable {a b : Expr} {sc : Scope}
theorem di_range1 (hs0 : X.env.scope = sc) (hg : sc.names.lookup (Str.ofString "range") = some .globalImplicit) (hm : X.mg "range" = none) (ha : PDA X [a] ra) (hs : starEach [a] X.env = [(false, eval a X.env)] := by rfl) : PDI X tg (.Call (.Name "range" p) [a] [] pos) (rRg1 ra) :=
  impPI (pi_range1 (by subst hs0; exact hg) hm ha hs) fun σ H R q => by
  obtain ⟨F, ρ, h, R', s, hd, q, k⟩ := q
  refine ⟨F, ρ, h, _, s, hd, q, fun F1 ds h1 vs H1 l1 rs d1 q1 => ?_⟩
  obtain ⟨j, e, b1, b2, q1⟩ := q1
  subst e
  cases rs with
  | cons r t =>
    cases t; cases r
    exact ⟨j, rfl, b1, b2, k F1 _ _ h1 H1 _ l1 d1 wk_range q1⟩
theorem di_range2 (hs0 : X.env.scope = sc) (hg : sc.names.lookup (Str.ofString "range") = some .globalImplicit) (hm : X.mg "range" = none) (ha : PDA X [a, b] ra) (hs : starEach [a, b] X.env = [(false, eval a X.env), (false, eval b X.env)] := by rfl) (hs2 : starEach [b] X.env = [(false, eval b X.env)] := by rfl) :
    PDI X tg (.Call (.Name "range" p) [a, b] [] pos) (rRg2 ra) := impPI (pi_range2 (by subst hs0; exact hg) hm ha hs hs2) fun σ H R q => by
  obtain ⟨F, ρ, h, R', s, hd, q, k⟩ := q
  refine ⟨F, ρ, h, _, s, hd, q, fun F1 ds h1 vs H1 l1 rs d1 q1 => ?_⟩
  obtain ⟨i, j, e, b1, q1⟩ := q1
  subst e
  cases rs with
  | cons r t =>
    cases t with
    | cons r2 t =>
      cases t; cases r; cases r2
      exact ⟨i, j, rfl, b1, k F1 _ _ h1 H1 _ l1 d1 wk_range q1⟩
end

/-! ### for -/
/-- Pv by the turn: what holds ahead of it -/
def rFor (ri : DI) (g : DG) (rb : DS) : DS := fun E ρ h => ri ρ h fun items keep h1 => ∃ Pv : Nat → DSt → DHp → Prop, Pv 0 ρ h1 ∧
  (∀ i x ρ h, items[i]? = some x → Pv i ρ h → keep h ∧ g x ρ h fun ρ2 h2 => rb { E with nx := Pv (i + 1), ct := Pv (i + 1), bk := E.nx } ρ2 h2) ∧ (∀ ρ h, Pv items.length ρ h → keep h ∧ E.nx ρ h)
section
variable {X : Cx} {tg iter : Expr} {body : List Stmt} {pos : Pos} {ri : DI} {g : DG} {rb : DS}
theorem ds_for (hp : PassesOwn (model X.prog X.w) X.A X.env X.xe) (hc : X.calm = true) (hi : PDI X tg iter ri) (hg : PDG X tg g) (hb : PDSs X body rb) (hs : ∀ x, foldedSetIterable iter X.env x = pure x := by intro _; rfl) : PDS X (.For tg iter body [] pos) (rFor ri g rb) :=
  impS (ps_for hp hc hi hg hb hs) fun D' σ H q => by
  obtain ⟨F, ρ, h, E, s, hd, q, k⟩ := q
  refine ⟨F, ρ, h, _, s, hd, q, fun F1 items keep h1 H1 J l1 d1 w q1 => ?_⟩
  obtain ⟨Pv, p0, step, fin⟩ := q1
  refine ⟨fun i m σ' H' => m = items.length - i ∧ i ≤ items.length ∧ ∃ F' ρ' h', Le F1 H1 F' H' ∧ Rs X.K F' H' σ' ρ' ∧ Hd X.K F' H' h' ∧ Pv i ρ' h', ⟨_, rfl, Nat.zero_le _, F1, ρ, h1, .refl, s.le l1, d1, p0⟩, ?_⟩
  rintro i m σ2 H2 ⟨rfl, hi, F2, ρ2, h2, l2, s2, d2, p2⟩
  by_cases hlt : i < items.length
  · refine .inr ?_
    have hx : items[i]? = some (items[i]) := List.getElem?_eq_getElem hlt
    obtain ⟨kp, q2⟩ := step i _ ρ2 h2 hx p2
    refine ⟨w.goes i F2 H2 h2 hlt l2 d2 kp, fun σ3 H3 => ∃ F' ρ' h', Le F1 H1 F' H3 ∧ Rs X.K F' H3 σ3 ρ' ∧ Hd X.K F' H3 h' ∧ Pv (i + 1) ρ' h', fun σ3 H3 n3 => ⟨items.length - (i + 1), by omega, rfl, hlt, n3⟩, fun x H3 y => ?_⟩
    obtain ⟨l3, d3, d', e', r'⟩ := w.yields i F2 H2 h2 x H3 hlt l2 d2 kp y
    rw [hx] at e'
    cases e'
    have l23 := l2.trans l3
    refine ⟨F2, ρ2, h2, _, _, s2.le l3, r', d3, q2, fun F4 ρ4 h4 σ4 H4 l4 s4 d4 q4 => ⟨F4, ρ4, h4, _, s4, d4, q4, ?_⟩⟩
    have l14 := l23.trans l4
    exact ⟨fun F5 ρ5 h5 σ5 H5 l5 s5 d5 p5 => ⟨F5, ρ5, h5, l14.trans l5, s5, d5, p5⟩, k.rt.le (l1.trans l14), (k.le (l1.trans l14)).nx, fun F5 ρ5 h5 σ5 H5 l5 s5 d5 p5 => ⟨F5, ρ5, h5, l14.trans l5, s5, d5, p5⟩⟩
  · have e : i = items.length := by omega
    subst e
    obtain ⟨kp, q2⟩ := fin ρ2 h2 p2
    exact .inl ⟨w.stops F2 H2 h2 l2 d2 kp, k.nx F2 ρ2 h2 σ2 H2 (l1.trans l2) s2 d2 q2⟩
/-! ### while -/
def rWhile (rc : DT) (rb : DS) : DS := fun E ρ h => ∃ W : Nat → DSt → DHp → Prop, (∃ m, W m ρ h) ∧ ∀ m ρ h, W m ρ h →
  rc ρ h fun b h1 => if b = true then rb { E with nx := fun ρ' h' => ∃ m', m' < m ∧ W m' ρ' h', ct := fun ρ' h' => ∃ m', m' < m ∧ W m' ρ' h', bk := E.nx } ρ h1 else E.nx ρ h1
theorem ds_while {c : Expr} {rc : DT} (hp : PassesOwn (model X.prog X.w) X.A X.env X.xe) (hc : PDT X c rc) (hb : PDSs X body rb) : PDS X (.While c body [] pos) (rWhile rc rb) := impS (ps_while hp hc hb) fun D' σ H q => by
  obtain ⟨F, ρ, h, E, s, hd, ⟨W, ⟨m0, w0⟩, turn⟩, k⟩ := q
  refine ⟨fun m σ' H' => ∃ F' ρ' h', Le F H F' H' ∧ Rs X.K F' H' σ' ρ' ∧ Hd X.K F' H' h' ∧ W m ρ' h', ⟨m0, F, ρ, h, .refl, s, hd, w0⟩, ?_⟩
  rintro m σ2 H2 ⟨F2, ρ2, h2, l2, s2, d2, w2⟩
  refine ⟨F2, ρ2, h2, _, s2, d2, turn m ρ2 h2 w2, fun F3 b h3 H3 l3 d3 q3 => ?_⟩
  cases b with
  | true =>
    rw [if_pos rfl] at q3 ⊢
    refine ⟨fun σ' H' => ∃ m' F' ρ' h', m' < m ∧ Le F H F' H' ∧ Rs X.K F' H' σ' ρ' ∧ Hd X.K F' H' h' ∧ W m' ρ' h', fun σ' H' n => ?_, F3, ρ2, h3, _, s2.le l3, d3, q3, ?_⟩
    · obtain ⟨m', F', ρ', h', hm, l, s', d', w'⟩ := n
      exact ⟨m', hm, F', ρ', h', l, s', d', w'⟩
    · have l := l2.trans l3
      exact ⟨fun F5 ρ5 h5 σ5 H5 l5 s5 d5 p5 => let ⟨m', hm, w'⟩ := p5; ⟨m', F5, ρ5, h5, hm, l.trans l5, s5, d5, w'⟩, k.rt.le l, (k.le l).nx, fun F5 ρ5 h5 σ5 H5 l5 s5 d5 p5 => let ⟨m', hm, w'⟩ := p5; ⟨m', F5, ρ5, h5, hm, l.trans l5, s5, d5, w'⟩⟩
  | false =>
    rw [if_neg Bool.false_ne_true] at q3 ⊢
    exact k.nx F3 ρ2 h3 σ2 H3 (l2.trans l3) (s2.le l3) d3 q3
end

/-! ### targets of comprehensions: names, tuples of these -/
inductive Tg where
  | nm (i : Nat) | tp (ts : List Tg)
mutual
def Tg.v (K : PySem.W.Frag) : Tg → TG
  | .nm i => gName i
  | .tp ts => gTup K ts.length (tgsV K ts)
def tgsV (K : PySem.W.Frag) : List Tg → TGs
  | [] => gNil
  | t :: ts => gCons (t.v K) (tgsV K ts)
end
mutual
def Tg.d : Tg → DG
  | .nm i => gN i
  | .tp ts => gT ts.length (tgsD ts)
def tgsD : List Tg → DGs
  | [] => gs0
  | t :: ts => gsC t.d (tgsD ts)
end
mutual
def Tg.slots : Tg → List Nat
  | .nm i => [i]
  | .tp ts => tgsSlots ts
def tgsSlots : List Tg → List Nat
  | [] => []
  | t :: ts => t.slots ++ tgsSlots ts
end
theorem wipe_get {σ : L2.St} : ∀ {vs : List Nat} {j : Nat}, (wipe σ vs)[j]? = if j ∈ vs ∧ j < σ.length then some none else σ[j]?
  | [], j => by simp [wipe]
  | v :: vs, j => by
    unfold wipe
    by_cases hj : v = j
    · subst hj
      by_cases hl : v < σ.length
      · rw [List.getElem?_set_self (by rw [wipe_length]; exact hl), if_pos ⟨List.mem_cons_self, hl⟩]
      · rw [List.getElem?_eq_none (by rw [List.length_set, wipe_length]; omega), if_neg (fun z => hl z.2), List.getElem?_eq_none (by omega)]
    · rw [List.getElem?_set_ne hj, wipe_get]
      by_cases hm : j ∈ vs ∧ j < σ.length
      · rw [if_pos hm, if_pos ⟨List.mem_cons_of_mem _ hm.1, hm.2⟩]
      · rw [if_neg hm, if_neg (fun z => hm ⟨(List.mem_cons.mp z.1).resolve_left (fun e => hj e.symm), z.2⟩)]
theorem wipe_set {σ : L2.St} {vs : List Nat} {i : Nat} {x : Option V} (h : i ∈ vs) : wipe (σ.set i x) vs = wipe σ vs := by
  apply List.ext_getElem?
  intro j
  rw [wipe_get, wipe_get, List.length_set]
  by_cases hj : i = j
  · subst hj
    by_cases hl : i < σ.length
    · rw [if_pos ⟨h, hl⟩, if_pos ⟨h, hl⟩]
    · rw [if_neg (fun z => hl z.2), if_neg (fun z => hl z.2), List.getElem?_eq_none (by rw [List.length_set]; omega), List.getElem?_eq_none (by omega)]
  · rw [List.getElem?_set_ne hj]
section
variable {K : PySem.W.Frag} {F : Addr → Prop} {H : Hp} {h : DHp}
mutual
theorem Tg.ok : ∀ (t : Tg) {v : V} {d : D} {σ : L2.St} {ρ : DSt} {Q' : DSt → DHp → Prop} {Q : L2.St → Hp → Prop} {vs : List Nat}, (∀ i ∈ t.slots, i ∈ vs) → Rs K F H σ ρ → Rp K F H v d → t.d d ρ h Q' →
    (∀ σ' ρ', Rs K F H σ' ρ' → wipe σ' vs = wipe σ vs → Q' ρ' h → Q σ' H) → t.v K v σ H Q
  | .nm i, v, d, σ, ρ, Q', Q, vs, hv, s, r, q, k => by
    simp only [Tg.d] at q
    simp only [Tg.v]
    exact k _ _ (s.set i r) (wipe_set (hv i (by simp [Tg.slots]))) q
  | .tp ts, v, d, σ, ρ, Q', Q, vs, hv, s, r, q, k => by
    simp only [Tg.d] at q
    simp only [Tg.v]
    obtain ⟨ds, e, e2, q⟩ := q
    subst e
    cases r with
    | tup e1 rs => exact ⟨_, _, rfl, SqT.of e1, by rw [rs.length]; exact e2, tgs_ok ts (fun i hi => hv i (by simpa [Tg.slots] using hi)) s rs q k⟩
theorem tgs_ok : ∀ (ts : List Tg) {us : List V} {ds : List D} {σ : L2.St} {ρ : DSt} {Q' : DSt → DHp → Prop} {Q : L2.St → Hp → Prop} {vs : List Nat}, (∀ i ∈ tgsSlots ts, i ∈ vs) → Rs K F H σ ρ → Rps K F H us ds → tgsD ts ds ρ h Q' →
    (∀ σ' ρ', Rs K F H σ' ρ' → wipe σ' vs = wipe σ vs → Q' ρ' h → Q σ' H) → tgsV K ts us σ H Q
  | [], us, ds, σ, ρ, Q', Q, vs, hv, s, r, q, k => by
    simp only [tgsD] at q
    simp only [tgsV]
    obtain ⟨e, q⟩ := q
    subst e
    cases r
    exact ⟨rfl, k _ _ s rfl q⟩
  | t :: ts, us, ds, σ, ρ, Q', Q, vs, hv, s, r, q, k => by
    simp only [tgsD] at q
    simp only [tgsV]
    obtain ⟨d, rr, e, q⟩ := q
    subst e
    cases r with
    | cons r1 r2 =>
      refine ⟨_, _, rfl, Tg.ok t (fun i hi => hv i (by simp [tgsSlots, hi])) s r1 q fun σ' ρ' s' e' q' => ?_⟩
      exact tgs_ok ts (fun i hi => hv i (by simp [tgsSlots, hi])) s' r2 q' fun σ2 ρ2 s2 e2 q2 => k σ2 ρ2 s2 (e2.trans e') q2
end
end
section
variable {X : Cx} {e : Expr} {es : List Expr} {pos : Pos} {t : Tg} {ts : List Tg}
theorem tg_nm (i : Nat) {x : Str} {N : List Str} {sc : Scope} (nd : N.Nodup) (hN : X.N = N) (hs : X.env.scope = sc) (hi : N[i]? = some x) (hx : Loc sc x) (hf : X.fn x = true ∨ sc.names.lookup x = some .local) : PG X (.Name x pos) ((Tg.nm i).v X.K) := by
  subst hN hs
  simp only [Tg.v]
  exact pg_name nd hi hx hf
theorem tg_nil : PGs X [] (tgsV X.K []) := by
  simp only [tgsV]
  exact pgs_nil
theorem tg_cons (h1 : PG X e (t.v X.K)) (h2 : PGs X es (tgsV X.K ts)) (hs : (assignEach (e :: es) X.env).map (·.2) = assign e X.env :: (assignEach es X.env).map (·.2) := by rfl) : PGs X (e :: es) (tgsV X.K (t :: ts)) := by
  simp only [tgsV]
  exact pgs_cons h1 h2 hs
theorem tg_tp {k : Nat} (hc : X.calm = true) (h : PGs X es (tgsV X.K ts)) (hn : (assignEach es X.env).length = ts.length := by rfl) (hst : (assignEach es X.env).findIdx? (·.1) = none := by rfl) : PG X (.Tuple es k pos) ((Tg.tp ts).v X.K) := by
  simp only [Tg.v]
  exact pg_tup hc h hn hst
end

/-! ### list comprehensions -/
/-- C: the new list's cell; Pv by the turn, what is made so far, the heap; fz: it is frozen at the end -/
def rLc (ri : DI) (t : Tg) (tt : DT) (re : DE) (vs : List Nat) (fz : Bool) : DE := fun ρ h Q => ri ρ h fun items keep h1 => items.length ≤ 1000000 ∧ ∀ C, h1 C = none → ∃ Pv : Nat → List D → DHp → Prop, Pv 0 [] (updD h1 C (.lst [])) ∧
  (∀ i x acc h, items[i]? = some x → Pv i acc h → acc.length ≤ i → keep h ∧ t.d x (wipeD ρ vs) h fun ρ2 h2 => tt ρ2 h2 fun b h3 =>
    if b = true then re ρ2 h3 fun y h4 => h4 C = some (.lst acc) ∧ Pv (i + 1) (acc ++ [y]) (updD h4 C (.lst (acc ++ [y]))) else Pv (i + 1) acc h3) ∧
  (∀ acc h, Pv items.length acc h → acc.length ≤ items.length → keep h ∧ if fz = true then h C = some (.lst acc) ∧ Q (.lst acc) (delD h C) else Q (.ref C) h)
def rYes : DT := fun _ h Q => Q true h
section
variable {X : Cx}
abbrev PDTs (X : Cx) (ifs : List Expr) (r : DT) : Prop := PTs X ifs (tDT X.K r)
theorem dts_nil : PDTs X [] rYes := ⟨fun pins s σ H Q I q => pts_nil.run pins s σ H Q I (by
  obtain ⟨F, ρ, h, Q', s, hd, q, k⟩ := q
  exact k F _ h H .refl hd q)⟩
theorem dts_one {c : Expr} {r : DT} (h : PDT X c r) : PDTs X [c] r := pts_one h
theorem tD_lc {K : PySem.W.Frag} {ri : DI} {t : Tg} {tt : DT} {re : DE} {vs : List Nat} {fz : Bool} {σ : L2.St} {H : Hp} {Q : VK} (hv : ∀ i ∈ t.slots, i ∈ vs) (q : tD K (rLc ri t tt re vs fz) σ H Q) :
    tLc (tDI K ri) (t.v K) (tDT K tt) (tD K re) vs σ H Q := by
  obtain ⟨F, ρ, h, Q', s, hd, q, k⟩ := q
  refine ⟨F, ρ, h, _, s, hd, q, fun F1 items keep h1 H1 J l1 d1 w q1 => ?_⟩
  obtain ⟨hz, q1⟩ := q1
  intro C hC
  obtain ⟨Pv, p0, step, fin⟩ := q1 C (d1.none hC)
  have l2 : Le F1 H1 F1 (upd H1 C (.lst [])) := Le.new hC
  have d2 : Hd K F1 (upd H1 C (.lst [])) (updD h1 C (.lst [])) := d1.add (c := .lst []) hC ⟨[], upd_same, .nil⟩
  refine ⟨fun i m H' => m = items.length - i ∧ i ≤ items.length ∧ ∃ F' h' acc, Le F1 H1 F' H' ∧ Hd K F' H' h' ∧ Pv i acc h' ∧ acc.length ≤ i, ⟨_, rfl, Nat.zero_le _, F1, _, [], l2, d2, p0, Nat.le_refl _⟩, ?_⟩
  rintro i m H2 ⟨rfl, hi, F2, h2, acc, l2, d2, p2, ha⟩
  by_cases hlt : i < items.length
  · have hx : items[i]? = some (items[i]) := List.getElem?_eq_getElem hlt
    obtain ⟨kp, q2⟩ := step i _ acc h2 hx p2 ha
    refine .inr ⟨w.goes i F2 H2 h2 hlt l2 d2 kp, fun H3 => ∃ F' h' acc, Le F1 H1 F' H3 ∧ Hd K F' H3 h' ∧ Pv (i + 1) acc h' ∧ acc.length ≤ i + 1, fun H3 n3 => ⟨items.length - (i + 1), by omega, rfl, hlt, n3⟩, fun x H3 y => ?_⟩
    obtain ⟨l3, d3, d', e', r'⟩ := w.yields i F2 H2 h2 x H3 hlt l2 d2 kp y
    rw [hx] at e'
    cases e'
    have l13 := l2.trans l3
    refine Tg.ok t hv (((s.le l1).le l13).wipe vs) r' q2 fun σ4 ρ4 s4 e4 q4 => ⟨e4.trans ?_, F2, ρ4, h2, _, s4, d3, q4, fun F5 b h5 H5 l5 d5 q5 => ?_⟩
    · apply List.ext_getElem?
      intro j
      rw [wipe_get, wipe_length]
      by_cases hm : j ∈ vs ∧ j < σ.length
      · rw [if_pos hm, wipe_get, if_pos hm]
      · rw [if_neg hm]
    cases b with
    | false =>
      rw [if_neg Bool.false_ne_true] at q5 ⊢
      exact ⟨F5, h5, acc, l13.trans l5, d5, q5, by omega⟩
    | true =>
      rw [if_pos rfl] at q5 ⊢
      refine ⟨F5, ρ4, h5, _, s4.le l5, d5, q5, fun F6 y6 h6 v6 H6 l6 r6 d6 q6 => ?_⟩
      obtain ⟨e6, p6⟩ := q6
      obtain ⟨⟨xs, h61, rs⟩, _⟩ := d6.cell C _ e6
      have hs : sizeLine = 16777216 := sizeLine_eq
      obtain ⟨l7, d7⟩ := d6.set (o := .lst (xs ++ [v6])) (c := .lst (acc ++ [y6])) e6 fun l => ⟨_, upd_same, (rs.le l).append (.cons (r6.le l) .nil)⟩
      exact ⟨xs, h61, by rw [rs.length]; omega, F6, _, _, ((l13.trans l5).trans l6).trans l7, d7, p6, by simp; omega⟩
  · have e : i = items.length := by omega
    subst e
    obtain ⟨kp, q2⟩ := fin acc h2 p2 ha
    refine .inl ⟨w.stops F2 H2 h2 l2 d2 kp, ?_⟩
    cases fz with
    | true =>
      rw [if_pos rfl] at q2
      obtain ⟨d3, r3⟩ := d2.freeze q2.1
      exact k _ _ _ _ _ ((l1.trans l2).trans Le.fz1) r3 d3 q2.2
    | false =>
      rw [if_neg Bool.false_ne_true] at q2
      exact k F2 _ h2 _ H2 (l1.trans l2) (.ref C) d2 q2
variable {elt tg iter : Expr} {ifs : List Expr} {scope : Scope} {own : List (Str × Nat)} {pos : Pos} {ri : DI} {t : Tg} {tt : DT} {re : DE}
theorem de_lc (fz : Bool) (hc : X.calm = true) (hN : X.N.Nodup) (hi : PDI X tg iter ri) (ok : BlkOk X.N X.env.scope scope own) (hv : ∀ i ∈ t.slots, i ∈ own.map (·.2))
    (hg : ∀ (s : Shared) (H : Hp) (C : Addr) (cl : List (Str × Addr)) (fp : List Addr), PG (X.blk s H scope (compEnvC scope cl C X.env) fp) tg (t.v X.K)) (ht : ∀ (s : Shared) (H : Hp) (C : Addr) (cl : List (Str × Addr)) (fp : List Addr), PTs (X.blk s H scope (compEnvC scope cl C X.env) fp) ifs (tDT X.K tt))
    (he : ∀ (s : Shared) (H : Hp) (C : Addr) (cl : List (Str × Addr)) (fp : List Addr), PE (X.blk s H scope (compEnvC scope cl C X.env) fp) elt (tD X.K re)) (hs : ∀ x, foldedSetIterable iter X.env x = pure x := by intro _; rfl) :
    PDE X (.ListComp elt [⟨tg, iter, ifs, 0⟩] scope pos) (rLc ri t tt re (own.map (·.2)) fz) := impE (pe_lc hc hN hi ok hg ht he hs) fun σ H Q q => tD_lc hv q
theorem ds_lc (fz : Bool) (i : Nat) {y : Str} {py spos : Pos} (hc : X.calm = true) (hN : X.N.Nodup) (hy : X.N[i]? = some y) (hyl : X.env.scope.names.lookup y = some .local)
    (hsw : swapsWith (.ListComp elt [⟨tg, iter, ifs, 0⟩] scope pos) (some (.Name y py)) spos.line X.env = pure true) (hi : PDI X tg iter ri) (ok : BlkOk X.N X.env.scope scope own) (hv : ∀ i ∈ t.slots, i ∈ own.map (·.2))
    (hg : ∀ (s : Shared) (H : Hp) (C : Addr) (cl : List (Str × Addr)) (fp : List Addr), PG (X.blk s H scope (compEnvC scope cl C X.env) fp) tg (t.v X.K)) (ht : ∀ (s : Shared) (H : Hp) (C : Addr) (cl : List (Str × Addr)) (fp : List Addr), PTs (X.blk s H scope (compEnvC scope cl C X.env) fp) ifs (tDT X.K tt))
    (he : ∀ (s : Shared) (H : Hp) (C : Addr) (cl : List (Str × Addr)) (fp : List Addr), PE (X.blk s H scope (compEnvC scope cl C X.env) fp) elt (tD X.K re)) (hs : ∀ x, foldedSetIterable iter X.env x = pure x := by intro _; rfl) :
    PDS X (.Assign [.Name y py] (.ListComp elt [⟨tg, iter, ifs, 0⟩] scope pos) spos) (rAsg (rLc ri t tt re (own.map (·.2)) fz) (gN i)) :=
  impS (ps_setLc hc hN hy hyl hsw hi ok hg ht he hs) fun D' σ H q => by
  obtain ⟨F, ρ, h, E, s, hd, q, k⟩ := q
  refine tD_lc hv ⟨F, ρ, h, _, s, hd, q, fun F1 d h1 v1 H1 l1 r1 d1 q1 => k.nx F1 _ h1 _ H1 l1 ((s.le l1).set i r1) d1 q1⟩
end
end DX

set_option maxRecDepth 100000
set_option maxHeartbeats 4000000
namespace DX
open PySem PySem.Spec PyProof.Rows L2

/-! ### what a def promises: over data, where nothing is shown by repr around it -/
abbrev DSp := List D → DHp → DQ → (Addr → DHp → Prop) → Prop
/-- the promise over values: Q' of the value and the heap told, E' of the class of an exception (made with a text alone) -/
def spD (K : PySem.W.Frag) (n : Nat) (sp : DSp) : Sp := fun vs H Q E => ∃ F ds h Q' E', ds.length = n ∧ Rps K F H vs ds ∧ Hd K F H h ∧ sp ds h Q' E' ∧ Kont K F H Q' Q ∧
  ∀ F' C h' H', Le F H F' H' → Hd K F' H' h' → E' C h' → E (.ref C) none H'
structure FnG (P : Program) (w : World) (K : PySem.W.Frag) (mg : Str → Option Value) (base : Heap) (CX : CXT) (k : Nat) (f : Addr) (fd : FuncData) (ps : List Str) (sp : Sp) : Prop where
  len : ∀ vs H Q E, sp vs H Q E → vs.length = ps.length
  run : ∀ (A : Around) (outer : List Env) (s : Shared) (H : Hp) (args : Args) (us : List Value) (vs : List V) (Q : VK) (E : XK), A.guards = some [] → Room k A → Env0 P w K mg base A outer s H → BindsTo s fd args (ps.zip us) → Vals vs us → sp vs H Q E →
    codeAny (model P w) A (.call (.ref f) args) (CR CX outer P w H s Q E) s
section
variable {P : Program} {w : World} {K : PySem.W.Frag} {mg : Str → Option Value} {base : Heap} {CX : CXT} {k : Nat} {f : Addr} {fd : FuncData} {ps N : List Str} {sp : Sp}
theorem FnG.mono {j : Nat} (G : FnG P w K mg base CX j f fd ps sp) (h : j ≤ k) : FnG P w K mg base CX k f fd ps sp :=
  ⟨G.len, fun A outer s H args us vs Q E hg hr => G.run A outer s H args us vs Q E hg (hr.mono h)⟩
/-- a def by its body -/
theorem fng_of {x qual : Str} {params : Arguments} {body : List Stmt} {scope : Scope} {dvs : List V} {kws : List (Str × V)} (D0 : FunD K x qual params body scope dvs kws f fd) (S : FnScope N ps scope) (len : ∀ vs H Q E, sp vs H Q E → vs.length = ps.length)
    (hb : ∀ (cdv : Value) (A : Around) (outer : List Env) (s : Shared) (H : Hp) (vs : List V) (Q : VK) (E : XK), A.guards = some [] → Room k (A.deeper (envOfC qual scope s.heap.objs.size f cdv)) → sp vs H Q E →
      ∃ t, PSs (cxOf CX P w K mg base N qual scope f cdv A outer s H E) body t ∧ t { nx := fun _ G => Q .non G, rt := Q } (start N vs) H) : FnG P w K mg base CX (k + 1) f fd ps sp := by
  obtain ⟨oc, od, dV, kV, doc, pm, an, cdv, ct, osl, e0, lk, hcd, _, _⟩ := D0.ex
  subst e0
  constructor
  · exact len
  intro A outer s H args us vs Q E hg hr e0 hbind rv hsp
  have hl := len vs H Q E hsp
  have Kin : K.In s.heap := e0.mod.kin.keeps fun b o z => (e0.bs b o z).1
  have lim : s.heap.NoLimit := e0.mod.nolimit.keeps fun b o z => (e0.bs b o z).1
  obtain ⟨t, pt, q⟩ := hb cdv A outer s H vs Q E hg (hr.deeper _) hsp
  apply codeAny_call_function hr.depth (Kin _ _ lk) rfl S.co S.gen rfl (PySem.W.codeRec_of Kin hcd)
  refine hbind _ _ _ _ (wpAny_newFunctionEnv_cells S.kind (fun y hy => ?_) fun env he s1 x1 => ?_)
  · obtain ⟨n, u⟩ := y
    rcases S.par n (List.of_mem_zip hy).1 with z | z
    · exact .inl z
    · exact .inr ⟨z, PySem.W.cellsFrom_some _ _ _ (.inl z)⟩
  · subst he
    have I : Inv (cxOf CX P w K mg base N qual scope f cdv A outer s H E) [] (start N vs) H s1 :=
      inv_start S hr.hd e0 hl rv x1
    refine ⟨lim.keeps x1.toInCall.keep, codeAny_func (wpAny_mono (pt.run [] s1 (start N vs) H _ I q) ?_ fun _ _ z => z)⟩
    intro fl s2 z
    cases fl with
    | ret u => obtain ⟨v, _, G, J, r2, q2⟩ := z; exact ⟨v, G, J.os, J.bare, J.base, J.hok, r2, q2⟩
    | next => obtain ⟨_, G, J, q2⟩ := z; exact ⟨.non, G, J.os, J.bare, J.base, J.hok, rfl, q2⟩
    | brk => obtain ⟨_, _, _, q2⟩ := z; exact q2.elim
    | cont => obtain ⟨_, _, _, q2⟩ := z; exact q2.elim
end
section
variable {X : Cx} {CX : CXT} {k : Nat} {f : Addr} {fd : FuncData} {ps : List Str} {sp : Sp} {E : XK} {x : Str} {p pos : Pos} {e : Expr} {es : List Expr} {t : TA} {ra : DA} {sc : Scope}
theorem run_g {pins : List (Addr × Obj)} {σ : L2.St} {H : Hp} {s : Shared} {Q : VK} {us : List Value} {vs : List V} (G : FnG X.prog X.w X.K X.mg X.base CX k f fd ps sp) (hgd : X.A.guards = some []) (hr : Room k X.A) (hb : Binds X.K fd ps []) (hx : Passes CX X E)
    (I : Inv X pins σ H s) (r : Vals vs us) (h : sp vs H Q E) : wpAny (model X.prog X.w) X.A (call (.ref f) us) (EP X pins σ Q) X.xe s := by
  have hl : us.length = ps.length := by rw [← r.length]; exact G.len _ _ _ _ h
  have hbd : BindsTo s fd ⟨us, []⟩ (ps.zip us) := by
    have z := hb s us I.kIn (by rw [List.append_nil]; exact hl)
    rw [List.append_nil] at z
    exact z
  apply wpAny_call
  refine codeAny_mono (G.run X.A X.stack s H ⟨us, []⟩ us vs Q E hgd hr I.env0 hbd r h) ?_
  intro res s2 q
  match res, q with
  | .error ex, q => exact hx pins σ H s ex s2 I q
  | .ok (.ret u), q => exact I.after q
/-- f(..), the arguments written -/
theorem pe_callG (G : FnG X.prog X.w X.K X.mg X.base CX k f fd ps sp) (hgd : X.A.guards = some []) (hr : Room k X.A) (hg : Gl X x) (hm : X.mg x = some (.ref f)) (hk : PySem.W.keepIn X.K (.ref f) = true) (hb : Binds X.K fd ps []) (hx : Passes CX X E)
    (ha : PA X (e :: es) t) (hdb : (x == ("__debug__" : Str)) = false) (he : starEach (e :: es) X.env = (false, eval e X.env) :: starEach es X.env := by rfl) (hpl : (backTo pos (starEach es X.env)).any (·.1) = false := by rfl) :
    PE X (.Call (.Name x p) (e :: es) [] pos) (tCall sp [] E t) := by
  constructor
  intro pins s σ H Q I q
  apply wpAny_Call_Name_kw
  refine ld_glob I hg hm ?_ hdb
  refine PySem.W.callWith_K (h₀ := X.base) I.mod.kin hk (thn (ha.run pos pins s σ H _ I q) fun us s1 ⟨vs, H1, I1, rv, q1⟩ => ⟨I1.kIn, ?_⟩) he hpl
  have q2 : sp (vs ++ []) H1 Q E := q1
  rw [List.append_nil] at q2
  exact run_g G hgd hr hb hx I1 rv q2
/-- a call, over data; W: what is wanted of an exception's class -/
def rCall (n : Nat) (sp : DSp) (W : Addr → DHp → Prop) (ra : DA) : DE := fun ρ h Q => ra ρ h fun ds h1 => ds.length = n ∧ sp ds h1 Q W
/-- where nothing is raised -/
theorem de_call0 {dsp : DSp} {n : Nat} (G : FnG X.prog X.w X.K X.mg X.base CX0 k f fd ps (spD X.K n dsp)) (hgd : X.A.guards = some []) (hr : Room k X.A) (hs : X.env.scope = sc) (hg : sc.names.lookup x = some .globalImplicit) (hm : X.mg x = some (.ref f)) (hk : PySem.W.keepIn X.K (.ref f) = true)
    (hb : Binds X.K fd ps []) (ha : PDA X (e :: es) ra) (hdb : (x == ("__debug__" : Str)) = false) (he : starEach (e :: es) X.env = (false, eval e X.env) :: starEach es X.env := by rfl) (hpl : (backTo pos (starEach es X.env)).any (·.1) = false := by rfl) :
    PDE X (.Call (.Name x p) (e :: es) [] pos) (rCall n dsp (fun _ _ => False) ra) := impE (pe_callG (E := E0) G hgd hr (by subst hs; exact hg) hm hk hb pass0 ha hdb he hpl) fun σ H Q q => by
  obtain ⟨F, ρ, h, Q', s, hd, q, k⟩ := q
  refine ⟨F, ρ, h, _, s, hd, q, fun F1 ds h1 vs H1 l1 rs d1 q1 => ?_⟩
  show spD X.K n dsp (vs ++ []) H1 Q E0
  rw [List.append_nil]
  exact ⟨F1, ds, h1, Q', _, q1.1, rs, d1, q1.2, k.le l1, fun _ _ _ _ _ _ z => z.elim⟩
end
section
variable {P : Program} {w : World} {K : PySem.W.Frag} {mg : Str → Option Value} {base : Heap} {k : Nat} {f : Addr} {fd : FuncData} {ps N : List Str} {n : Nat} {dsp : DSp}
/-- the slots at the entry -/
def startD (N : List Str) (ds : List D) : DSt := ds.map some ++ List.replicate (N.length - ds.length) none
/-- a def by its body, over data; nothing is raised -/
theorem fnD {x qual : Str} {params : Arguments} {body : List Stmt} {scope : Scope} {dvs : List V} {kws : List (Str × V)} (D0 : FunD K x qual params body scope dvs kws f fd) (S : FnScope N ps scope) (hn : ps.length = n)
    (hb : ∀ (X : Cx), X.prog = P → X.w = w → X.K = K → X.mg = mg → X.base = base → X.N = N → X.env.scope = scope → X.calm = true → X.A.guards = some [] → Room k X.A → (∀ y, X.fn y = true) → X.xe = (fun _ _ => False) →
      ∃ r, PDSs X body r ∧ ∀ ds h Q, ds.length = n → dsp ds h Q (fun _ _ => False) → r { nx := fun _ h' => Q .non h', rt := Q } (startD N ds) h)
    (hE : ∀ ds h Q E, dsp ds h Q E → dsp ds h Q fun _ _ => False) :
    FnG P w K mg base CX0 (k + 1) f fd ps (spD K n dsp) := by
  refine fng_of D0 S (fun vs H Q E h => ?_) fun cdv A outer s H vs Q E hg hr h => ?_
  · obtain ⟨F, ds, h, Q', E', e, rs, _⟩ := h
    rw [rs.length, e, hn]
  · obtain ⟨F, ds, h, Q', E', e, rs, hd, q, kk, ke⟩ := h
    obtain ⟨r, pr, rd⟩ := hb (cxOf CX0 P w K mg base N qual scope f cdv A outer s H E).nox rfl rfl rfl rfl rfl rfl rfl rfl hg hr (fun _ => rfl) rfl
    refine ⟨tDS K r, pr.nox, F, startD N ds, h, _, ?_, hd, rd ds h Q' e (hE _ _ _ _ q), ?_⟩
    · have z := Rs.start rs (N.length - ds.length)
      unfold startD L2.start
      rw [rs.length]
      exact z
    · exact ⟨fun F1 ρ1 h1 σ1 H1 l1 _ d1 q1 => kk F1 _ h1 _ H1 l1 .non d1 q1, kk, fun _ _ _ _ _ _ _ _ z => z.elim, fun _ _ _ _ _ _ _ _ z => z.elim⟩
end
end DX

set_option maxRecDepth 100000
set_option maxHeartbeats 4000000
namespace DX
open PySem PySem.Spec PyProof.Rows L2

/-! ### methods of lists -/
def tDM (K : PySem.W.Frag) (rR : D → List D → DHp → DQ → Prop) : V → List V → Hp → VK → Prop := fun x xs H Q => ∃ F h d ds Q', Rp K F H x d ∧ Rps K F H xs ds ∧ Hd K F H h ∧ rR d ds h Q' ∧ Kont K F H Q' Q
/-- o.m(..): ty tells the type of o -/
def rBM (ty : D → DHp → Prop) (rR : D → List D → DHp → DQ → Prop) (ro : DE) (ra : DA) : DE := fun ρ h Q => ro ρ h fun x h1 => ty x h1 ∧ ra ρ h1 fun ds h2 => rR x ds h2 Q
def isLst (x : D) (h : DHp) : Prop := match x with
  | .lst _ => True
  | .ref a => ∃ ds, h a = some (.lst ds)
  | _ => False
section
variable {X : Cx} {o e : Expr} {es : List Expr} {name : Str} {apos cpos : Pos} {id : String} {rR : D → List D → DHp → DQ → Prop} {ro : DE} {ra : DA}
theorem impM {r r' : V → List V → Hp → VK → Prop} (h : MtR X id r) (i : ∀ x xs H Q, r' x xs H Q → r x xs H Q) : MtR X id r' := fun pins s σ H x xs v us Q I rx rs q => h pins s σ H x xs v us Q I rx rs (i _ _ _ _ q)
theorem isLst_ty {K : PySem.W.Frag} {F : Addr → Prop} {H : Hp} {h : DHp} {v : V} {d : D} (r : Rp K F H v d) (hd : Hd K F H h) (e : isLst d h) : tyV K "list" v H := by
  cases r with
  | lst e1 rs => exact .inl ⟨rfl, _, e1.sq⟩
  | ref a =>
    obtain ⟨ds, e⟩ := e
    obtain ⟨⟨xs, h1, _⟩, _⟩ := hd.cell a _ e
    exact .inl ⟨rfl, xs, SqL.of h1⟩
  | _ => exact e.elim
theorem de_lm (slot : Slot "list" name id) (hty : typeOf (.builtin id) = pure (.type "method_descriptor")) (hm : MtR X id (tDM X.K rR)) (ho : PDE X o ro) (ha : PDA X (e :: es) ra)
    (hbase : attributeBase o name X.env (eval o X.env) = eval o X.env := by rfl)
    (hfew : ((backTo cpos (starEach (e :: es) X.env)).all (fun x => !x.1) && (backToKw cpos (keywordEach [] X.env)).all (fun x => x.1.isSome)
      && decide ((e :: es).length + ([] : List Keyword).length + (if ([] : List Keyword).isEmpty then 0 else 1) < 30)) = true := by rfl)
    (hline : (apos.endLine == cpos.line) = true := by rfl) (hs : starEach (e :: es) X.env = (false, eval e X.env) :: starEach es X.env := by rfl) (hplain : (backTo cpos (starEach es X.env)).any (·.1) = false := by rfl) :
    PDE X (.Call (.Attribute o name apos) (e :: es) [] cpos) (rBM isLst rR ro ra) := impE (pe_bm PySem.F.plainAttrs_list slot hty hm ho ha hbase hfew hline hs hplain) fun σ H Q q => by
  obtain ⟨F, ρ, h, Q', s, hd, q, k⟩ := q
  refine ⟨F, ρ, h, _, s, hd, q, fun F1 x h1 v1 H1 l1 rx d1 q1 => ⟨isLst_ty rx d1 q1.1, F1, ρ, h1, _, s.le l1, d1, q1.2, fun F2 ds h2 vs H2 l2 rs d2 q2 => ⟨F2, h2, x, ds, Q', rx.le l2, rs, d2, q2, k.le (l1.trans l2)⟩⟩⟩
theorem de_lm0 (slot : Slot "list" name id) (hty : typeOf (.builtin id) = pure (.type "method_descriptor")) (hm : MtR X id (tDM X.K rR)) (ho : PDE X o ro)
    (hbase : attributeBase o name X.env (eval o X.env) = eval o X.env := by rfl) (hline : (apos.endLine == cpos.line) = true := by rfl) :
    PDE X (.Call (.Attribute o name apos) [] [] cpos) (rBM isLst rR ro rNil) := impE (pe_bm0 PySem.F.plainAttrs_list slot hty hm ho hbase hline) fun σ H Q q => by
  obtain ⟨F, ρ, h, Q', s, hd, q, k⟩ := q
  refine ⟨F, ρ, h, _, s, hd, q, fun F1 x h1 v1 H1 l1 rx d1 q1 => ⟨isLst_ty rx d1 q1.1, F1, h1, x, [], Q', rx, .nil, d1, q1.2, k.le l1⟩⟩
def rAppend (x : D) (ds : List D) (h : DHp) (Q : DQ) : Prop := ∃ a xs d, x = .ref a ∧ ds = [d] ∧ h a = some (.lst xs) ∧ xs.length < sizeLine ∧ Q .non (updD h a (.lst (xs ++ [d])))
theorem m_append : MtR X "list.append" (tDM X.K rAppend) := impM mt_append fun x xs H Q q => by
  obtain ⟨F, h, d, ds, Q', rx, rs, hd, ⟨a, ys, y, e1, e2, e3, z, q⟩, k⟩ := q
  subst e1 e2
  cases rx
  cases rs with
  | cons r t =>
    cases t
    obtain ⟨⟨zs, h1, rz⟩, _⟩ := hd.cell a _ e3
    obtain ⟨l2, d2⟩ := hd.set (o := .lst (zs ++ [_])) (c := .lst (ys ++ [y])) e3 fun l => ⟨_, upd_same, (rz.le l).append (.cons (r.le l) .nil)⟩
    exact ⟨a, zs, _, rfl, rfl, h1, by rw [rz.length]; exact z, k _ _ _ _ _ l2 .non d2 q⟩
/-- pop(0) -/
def rPop0 (x : D) (ds : List D) (h : DHp) (Q : DQ) : Prop := ∃ a y ys, x = .ref a ∧ ds = [.int 0] ∧ h a = some (.lst (y :: ys)) ∧ Q y (updD h a (.lst ys))
theorem m_pop0 : MtR X "list.pop" (tDM X.K rPop0) := impM mt_popAt fun x xs H Q q => by
  obtain ⟨F, h, d, ds, Q', rx, rs, hd, ⟨a, y, ys, e1, e2, e3, q⟩, k⟩ := q
  subst e1 e2
  cases rx
  cases rs with
  | cons r t =>
    cases t; cases r
    obtain ⟨⟨zs, h1, rz⟩, _⟩ := hd.cell a _ e3
    cases rz with
    | @cons v vs _ _ r1 r2 =>
      obtain ⟨l2, d2⟩ := hd.set (o := .lst vs) (c := .lst ys) e3 fun l => ⟨_, upd_same, r2.le l⟩
      refine ⟨a, v :: vs, 0, 0, v, rfl, rfl, h1, by decide, by decide, ?_, rfl, k _ _ _ _ _ l2 (r1.le l2) d2 q⟩
      rw [seqIndex_of (by decide) (by simp)]
      rfl
/-- pop() -/
def rPopL (x : D) (ds : List D) (h : DHp) (Q : DQ) : Prop := ∃ a y ys, x = .ref a ∧ ds = [] ∧ h a = some (.lst (ys ++ [y])) ∧ Q y (updD h a (.lst ys))
theorem m_popL : MtR X "list.pop" (tDM X.K rPopL) := impM mt_pop fun x xs H Q q => by
  obtain ⟨F, h, d, ds, Q', rx, rs, hd, ⟨a, y, ys, e1, e2, e3, q⟩, k⟩ := q
  subst e1 e2
  cases rx
  cases rs
  obtain ⟨⟨zs, h1, rz⟩, _⟩ := hd.cell a _ e3
  obtain ⟨v, e4, r4⟩ := rz.get (i := ys.length) (d := y) (by simp)
  have hl : zs.length = ys.length + 1 := by rw [rz.length]; simp
  have r5 := rz.dropLast
  rw [List.dropLast_concat] at r5
  obtain ⟨l2, d2⟩ := hd.set (o := .lst zs.dropLast) (c := .lst ys) e3 fun l => ⟨_, upd_same, r5.le l⟩
  exact ⟨a, zs, v, rfl, rfl, h1, by rw [hl]; exact e4, k _ _ _ _ _ l2 (r4.le l2) d2 q⟩
end

/-! ### in, not in, index: data of any depth -/
theorem pds_len : ∀ ds : List D, (pds ds).length = ds.length
  | [] => rfl
  | d :: ds => by simp [pds, pds_len ds]
theorem pds_any (x : D) : ∀ ds : List D, ((pds ds).any fun z => PyData.eqv z x.pd) = ds.any fun z => z.eqv x
  | [] => rfl
  | d :: ds => by simp only [pds, List.any_cons, pds_any x ds]; rfl
theorem pds_get : ∀ (ds : List D) (i : Nat), (pds ds)[i]? = ds[i]?.map D.pd
  | [], i => by simp [pds]
  | d :: ds, 0 => by simp [pds]
  | d :: ds, i + 1 => by simp [pds, pds_get ds i]
def rInD' (neg : Bool) (x y : D) (h : DHp) (Q : DQ) : Prop := ∃ ds, seqD h y = some ds ∧ x.dat 60 = true ∧ dats 60 ds = true ∧ Q (.bl ((ds.any fun z => z.eqv x) != neg)) h
/-- a list or a tuple as data -/
theorem Rp.seqDp {K : PySem.W.Frag} {F : Addr → Prop} {H : Hp} {h : DHp} {v : V} {d : D} {ds : List D} (r : Rp K F H v d) (hd : Hd K F H h) (e : seqD h d = some ds) (n : dats 60 ds = true) :
    Dp K H v (.list (pds ds)) ∨ Dp K H v (.tuple (pds ds)) := by
  obtain ⟨a, xs, e1, sq, rs⟩ := r.seq hd e
  subst e1
  rcases sq with sq | sq
  · exact .inl (.lst sq (Rps.dp 60 _ _ n rs))
  · exact .inr (.tup sq (Rps.dp 60 _ _ n rs))
section
variable {X : Cx}
theorem room_in {A : Around} {x : PyData} {ds : List PyData} (hx : x.depth ≤ 60) (hu : A.units + 65 < cLine) : A.units + 1 + min (PyData.depthAll ds) x.depth < cLine := by
  have := Nat.min_le_right (PyData.depthAll ds) x.depth
  omega
theorem d_in (hu : X.A.units + 65 < cLine) : DOp X (compareOp .In) (rInD' false) := by
  intro pins s σ H x y v u Q I rx ry q
  obtain ⟨F, h, dx, dy, Q', rdx, rdy, hd, ⟨ds, e, n1, n2, q⟩, k⟩ := q
  obtain ⟨as, r1⟩ := Dp.reads I dx.pd x v (Rp.dp 60 _ _ n1 rdx) rx
  have q' := k F _ h _ H .refl (.bl _) hd q
  rw [← pds_any, Bool.bne_false] at q'
  have L1 := D.lay n1
  have L2 := dats_lay n2
  rcases rdy.seqDp hd e n2 with dp | dp
  · obtain ⟨bs, r2⟩ := Dp.reads I _ y u dp ry
    exact SeqAt.in_list_reads r2 r1 L2.1 L1.1 (room_in L1.2 hu) ⟨.bl _, H, I, rfl, q'⟩
  · obtain ⟨bs, r2⟩ := Dp.reads I _ y u dp ry
    exact SeqAt.in_tuple_reads r2 r1 L2.1 L1.1 (room_in L1.2 hu) ⟨.bl _, H, I, rfl, q'⟩
theorem d_notin (hu : X.A.units + 65 < cLine) : DOp X (compareOp .NotIn) (rInD' true) := by
  intro pins s σ H x y v u Q I rx ry q
  obtain ⟨F, h, dx, dy, Q', rdx, rdy, hd, ⟨ds, e, n1, n2, q⟩, k⟩ := q
  obtain ⟨as, r1⟩ := Dp.reads I dx.pd x v (Rp.dp 60 _ _ n1 rdx) rx
  have q' := k F _ h _ H .refl (.bl _) hd q
  rw [← pds_any, Bool.bne_true] at q'
  have L1 := D.lay n1
  have L2 := dats_lay n2
  rcases rdy.seqDp hd e n2 with dp | dp
  · obtain ⟨bs, r2⟩ := Dp.reads I _ y u dp ry
    exact SeqAt.notIn_list_reads r2 r1 L2.1 L1.1 (room_in L1.2 hu) ⟨.bl _, H, I, rfl, q'⟩
  · obtain ⟨bs, r2⟩ := Dp.reads I _ y u dp ry
    exact SeqAt.notIn_tuple_reads r2 r1 L2.1 L1.1 (room_in L1.2 hu) ⟨.bl _, H, I, rfl, q'⟩
/-- l.index(y) of a list, there -/
def rIndex' (x : D) (ds : List D) (h : DHp) (Q : DQ) : Prop := ∃ xs y j, seqD h x = some xs ∧ isLst x h ∧ ds = [y] ∧ dats 60 xs = true ∧ y.dat 60 = true ∧ xs.findIdx? (fun z => z.eqv y) = some j ∧ Q (.int (j : Nat)) h
theorem m_index (hu : X.A.units + 65 < cLine) : MtR X "list.index" (tDM X.K rIndex') := impM (mt_indexD hu) fun x xs H Q q => by
  obtain ⟨F, h, d, ds, Q', rx, rs, hd, ⟨zs, y, j, e, il, e1, n1, n2, ej, q⟩, k⟩ := q
  subst e1
  cases rs with
  | cons r t =>
    cases t
    have dl : Dp X.K H x (.list (pds zs)) := by
      cases rx with
      | lst e1 rs => simp only [seqD, Option.some.injEq] at e; subst e; exact .lst e1.sq (Rps.dp 60 _ _ n1 rs)
      | ref a =>
        obtain ⟨⟨ys, h1, rs⟩, _⟩ := hd.cell a _ (rdL_of e)
        exact .lst (SqL.of h1) (Rps.dp 60 _ _ n1 rs)
      | _ => exact il.elim
    obtain ⟨a, ea⟩ : ∃ a, x = .ref a := by cases dl; exact ⟨_, rfl⟩
    subst ea
    rw [List.findIdx?_eq_some_iff_getElem] at ej
    obtain ⟨hj, e2, e3⟩ := ej
    have sh : SeqAt.shaped (PyData.list (pds zs)) = true := by
      have L := dats_lay n1
      unfold SeqAt.shaped
      rw [Bool.and_eq_true]
      exact ⟨by simpa [PyData.canLay0] using L.1, decide_eq_true (by simp only [PyData.depth]; omega)⟩
    refine ⟨a, _, y.pd, pds zs, j, (zs[j]).pd, rfl, rfl, dl, Rp.dp 60 _ _ n2 r, sh, D.shaped n2 (by decide), by rw [pds_get, List.getElem?_eq_getElem hj]; rfl, e2, fun m z' hm hz => ?_, k F _ h _ H .refl (.int _) hd q⟩
    rw [pds_get] at hz
    have hml : m < zs.length := by omega
    rw [List.getElem?_eq_getElem hml] at hz
    cases hz
    have := e3 m hm
    simpa [D.eqv] using this
end

/-! ### slices -/
abbrev DO := DSt → DHp → (Option Int → DHp → Prop) → Prop
def tDO (K : PySem.W.Frag) (r : DO) : TO := fun σ H Q => ∃ F ρ h Q', Rs K F H σ ρ ∧ Hd K F H h ∧ r ρ h Q' ∧ ∀ F' o h' H', Le F H F' H' → Hd K F' H' h' → Q' o h' → Q o H'
def rNoP : DO := fun _ h Q => Q none h
def rPt (r : DE) : DO := fun ρ h Q => r ρ h fun x h1 => ∃ i, x = .int i ∧ Q (some i) h1
def cutD (xs : List D) (lo hi : Option Int) : List D := (xs.drop (HT.sIx xs.length 0 lo)).take (HT.sIx xs.length xs.length hi - HT.sIx xs.length 0 lo)
def rSl (rR : D → Option Int → Option Int → DHp → DQ → Prop) (re : DE) (rl rh : DO) : DE := fun ρ h Q => re ρ h fun x h1 => rl ρ h1 fun l h2 => rh ρ h2 fun u h3 => rR x l u h3 Q
def tDSl (K : PySem.W.Frag) (rR : D → Option Int → Option Int → DHp → DQ → Prop) : V → Option Int → Option Int → Hp → VK → Prop := fun x lo hi H Q => ∃ F h d Q', Rp K F H x d ∧ Hd K F H h ∧ rR d lo hi h Q' ∧ Kont K F H Q' Q
section
variable {X : Cx} {e : Expr} {lo hi : Option Expr} {pos p2 : Pos} {re : DE} {rl rh : DO} {rR : D → Option Int → Option Int → DHp → DQ → Prop}
abbrev PDO (X : Cx) (e : Option Expr) (r : DO) : Prop := PO X e (tDO X.K r)
theorem impP {e : Option Expr} {t t' : TO} (h : PO X e t) (i : ∀ σ H Q, t' σ H Q → t σ H Q) : PO X e t' := ⟨fun pins s σ H Q I q => h.run pins s σ H Q I (i _ _ _ q)⟩
theorem do_none : PDO X none rNoP := impP po_none fun σ H Q q => by
  obtain ⟨F, ρ, h, Q', s, hd, q, k⟩ := q
  exact k F none h H .refl hd q
theorem do_some (h : PDE X e re) : PDO X (some e) (rPt re) := impP (po_some h) fun σ H Q q => by
  obtain ⟨F, ρ, h, Q', s, hd, q, k⟩ := q
  refine ⟨F, ρ, h, _, s, hd, q, fun F1 x h1 v1 H1 l1 rx d1 q1 => ?_⟩
  obtain ⟨i, e, q1⟩ := q1
  subst e
  cases rx
  exact ⟨i, rfl, k F1 _ h1 H1 l1 d1 q1⟩
theorem impSl {r r' : V → Option Int → Option Int → Hp → VK → Prop} (h : SlR X r) (i : ∀ x lo hi H Q, r' x lo hi H Q → r x lo hi H Q) : SlR X r' := fun pins s σ H x v vl vu lo hi sl Q I rx a b c q => h pins s σ H x v vl vu lo hi sl Q I rx a b c (i _ _ _ _ _ q)
theorem de_slice (hr : SlR X (tDSl X.K rR)) (he : PDE X e re) (hl : PDO X lo rl) (hu : PDO X hi rh) : PDE X (.Subscript e (.Slice lo hi none p2) pos) (rSl rR re rl rh) := impE (pe_slice hr he hl hu) fun σ H Q q => by
  obtain ⟨F, ρ, h, Q', s, hd, q, k⟩ := q
  exact ⟨F, ρ, h, _, s, hd, q, fun F1 x h1 v1 H1 l1 rx d1 q1 => ⟨F1, ρ, h1, _, s.le l1, d1, q1, fun F2 l h2 H2 l2 d2 q2 => ⟨F2, ρ, h2, _, s.le (l1.trans l2), d2, q2, fun F3 u h3 H3 l3 d3 q3 => ⟨F3, h3, x, Q', rx.le (l2.trans l3), d3, q3, k.le (l1.trans (l2.trans l3))⟩⟩⟩⟩
def rSlT' (x : D) (lo hi : Option Int) (h : DHp) (Q : DQ) : Prop := ∃ ds, x = .tup ds ∧ Q (.tup (cutD ds lo hi)) h
theorem cutV_rel {K : PySem.W.Frag} {F : Addr → Prop} {H : Hp} {xs : List V} {ds : List D} (r : Rps K F H xs ds) (lo hi : Option Int) : Rps K F H (cutV xs lo hi) (cutD ds lo hi) := by
  unfold cutV cutD
  rw [r.length]
  exact (r.drop _).take _
theorem sl_t : SlR X (tDSl X.K rSlT') := impSl sl_tupA fun x lo hi H Q q => by
  obtain ⟨F, h, d, Q', rx, hd, ⟨ds, e, q⟩, k⟩ := q
  subst e
  cases rx with
  | @tup a xs _ e1 rs =>
    refine ⟨a, xs, rfl, SqT.of e1, fun w => ?_, fun _ p np => k F _ h _ _ (Le.new np) (.tup upd_same ((cutV_rel rs lo hi).le (Le.new np))) (hd.new np) q⟩
    have e : cutD ds lo hi = ds := by
      unfold cutD
      rw [← rs.length, w.1, w.2]
      simp [rs.length]
    rw [e] at q
    exact k F _ h _ H .refl (.tup e1 rs) hd q
/-- of a list: a new one, frozen or not -/
def seqL (h : DHp) : D → Option (List D)
  | .lst ds => some ds
  | .ref a => rdL h a
  | _ => none
theorem Rp.seqL {K : PySem.W.Frag} {F : Addr → Prop} {H : Hp} {h : DHp} {v : V} {d : D} {ds : List D} (r : Rp K F H v d) (hd : Hd K F H h) (e : DX.seqL h d = some ds) : ∃ a xs, v = .ref a ∧ Rd H a (.lst xs) ∧ Rps K F H xs ds := by
  cases r with
  | lst e1 rs => simp only [DX.seqL, Option.some.injEq] at e; subst e; exact ⟨_, _, rfl, e1.rd, rs⟩
  | ref a =>
    obtain ⟨⟨xs, h1, rs⟩, _⟩ := hd.cell a _ (rdL_of e)
    exact ⟨a, xs, rfl, .inl h1, rs⟩
  | _ => simp [DX.seqL] at e
def newL (fz : Bool) (ds : List D) (h : DHp) (Q : DQ) : Prop := if fz = true then Q (.lst ds) h else ∀ p, h p = none → Q (.ref p) (updD h p (.lst ds))
theorem newL_ok {K : PySem.W.Frag} {F : Addr → Prop} {H : Hp} {h : DHp} {fz : Bool} {xs : List V} {ds : List D} {Q' : DQ} {Q : VK} (rs : Rps K F H xs ds) (hd : Hd K F H h) (q : newL fz ds h Q') (k : Kont K F H Q' Q) : ∀ p, H p = none → Q (.ref p) (upd H p (.lst xs)) := fun p np => by
  unfold newL at q
  cases fz with
  | true =>
    rw [if_pos rfl] at q
    exact k _ _ h _ _ (Le.newF np) (.lst (.inl ⟨.inr rfl, upd_same⟩) (rs.le (Le.newF np))) (hd.newF np) q
  | false =>
    rw [if_neg Bool.false_ne_true] at q
    exact k F _ _ _ _ (Le.new np) (.ref p) (hd.add (c := .lst ds) np ⟨xs, upd_same, rs.le (Le.new np)⟩) (q p (hd.none np))
def rSlL' (fz : Bool) (x : D) (lo hi : Option Int) (h : DHp) (Q : DQ) : Prop := ∃ ds, seqL h x = some ds ∧ newL fz (cutD ds lo hi) h Q
theorem sl_l (fz : Bool) : SlR X (tDSl X.K (rSlL' fz)) := impSl sl_list fun x lo hi H Q q => by
  obtain ⟨F, h, d, Q', rx, hd, ⟨ds, e, q⟩, k⟩ := q
  obtain ⟨a, xs, e1, e2, rs⟩ := rx.seqL hd e
  subst e1
  exact ⟨a, xs, rfl, .inl e2, newL_ok (cutV_rel rs lo hi) hd q k⟩
end

/-! ### + of tuples, of lists; lists times a number; + of texts -/
section
variable {X : Cx}
def rCatT' (x y : D) (h : DHp) (Q : DQ) : Prop := ∃ xs ys, x = .tup xs ∧ y = .tup ys ∧ xs.length + ys.length ≤ sizeLine ∧ Q (.tup (xs ++ ys)) h
theorem d_catT : DOp X (binaryOp .Add) rCatT' := impO op_catA fun x y H Q q => by
  obtain ⟨F, h, dx, dy, Q', rx, ry, hd, ⟨xs, ys, e1, e2, z, q⟩, k⟩ := q
  subst e1 e2
  cases rx with
  | @tup a vs _ e1 r1 =>
    cases ry with
    | @tup b ws _ e2 r2 =>
      refine ⟨a, b, vs, ws, rfl, rfl, SqT.of e1, SqT.of e2, by rw [r1.length, r2.length]; exact z, fun e => ?_, fun _ e => ?_, fun _ _ p np => k F _ h _ _ (Le.new np) (.tup upd_same ((r1.append r2).le (Le.new np))) (hd.new np) q⟩
      · subst e
        cases r1
        exact k F _ h _ H .refl (.tup e2 r2) hd q
      · subst e
        cases r2
        rw [List.append_nil] at q
        exact k F _ h _ H .refl (.tup e1 r1) hd q
theorem Rd.lstM {H : Hp} {a : Addr} {xs : List V} {pins : List (Addr × Obj)} {σ : L2.St} {s : Shared} (r : Rd H a (.lst xs)) (I : Inv X pins σ H s) : xs.length ≤ sizeLine ∧ ∃ (its : List Value) (n : Nat), Vals xs its ∧ s.heap.get? a = some { cls := .type "list", data := .seq its.toArray n } := by
  obtain ⟨z, its, n, rv, e⟩ := r.ok I.hok
  exact ⟨z, its, n, rv, e⟩
theorem op_catR : OpR X (binaryOp .Add) (fun x y H Q => ∃ l b xs zs, x = .ref l ∧ y = .ref b ∧ Rd H l (.lst xs) ∧ Rd H b (.lst zs) ∧ xs.length + zs.length ≤ sizeLine ∧ ∀ p, H p = none → Q (.ref p) (upd H p (.lst (xs ++ zs)))) := by
  intro pins s σ H x y v u Q I rx ry q
  obtain ⟨l, b, xs, zs, e1, e2, h1, h2, z, q⟩ := q
  subst e1 e2
  cases rx
  cases ry
  obtain ⟨_, i1, n1, r1, g1⟩ := Rd.lstM h1 I
  obtain ⟨_, i2, n2, r2, g2⟩ := Rd.lstM h2 I
  have hz : i1.toArray.size + i2.toArray.size ≤ sizeLine := by
    simp only [List.size_toArray]
    rw [← r1.length, ← r2.length]
    omega
  refine PySem.P.add_list g1 g2 ?_ hz
  rw [List.append_toArray]
  exact ⟨.ref _, _, I.lnew (t' := s.toks) (r1.append r2) (by rw [List.length_append]; exact z), rfl, q _ I.fresh⟩
def rCatL' (fz : Bool) (x y : D) (h : DHp) (Q : DQ) : Prop := ∃ xs ys, seqL h x = some xs ∧ seqL h y = some ys ∧ xs.length + ys.length ≤ sizeLine ∧ newL fz (xs ++ ys) h Q
theorem d_catL (fz : Bool) : DOp X (binaryOp .Add) (rCatL' fz) := impO op_catR fun x y H Q q => by
  obtain ⟨F, h, dx, dy, Q', rx, ry, hd, ⟨xs, ys, e1, e2, z, q⟩, k⟩ := q
  obtain ⟨a, vs, e3, h3, r3⟩ := rx.seqL hd e1
  obtain ⟨b, ws, e4, h4, r4⟩ := ry.seqL hd e2
  subst e3 e4
  exact ⟨a, b, vs, ws, rfl, rfl, h3, h4, by rw [r3.length, r4.length]; exact z, newL_ok (r3.append r4) hd q k⟩
theorem str_len (s : String) : (Str.ofString s).length = s.length := by
  rw [Str.ofString_eq_toList]
  show (s.toList.map Char.toNat).toArray.size = _
  rw [List.size_toArray, List.length_map, String.length_toList]
theorem str_append (s t : String) : Str.ofString s ++ Str.ofString t = Str.ofString (s ++ t) := by
  rw [Str.ofString_eq_toList, Str.ofString_eq_toList, Str.ofString_eq_toList]
  show (⟨_ ++ _⟩ : Str) = _
  simp
def rCatS (x y : D) (h : DHp) (Q : DQ) : Prop := ∃ a b, x = .str a ∧ y = .str b ∧ a.length + b.length ≤ sizeLine ∧ Q (.str (a ++ b)) h
theorem d_catS : DOp X (binaryOp .Add) rCatS := impO op_add_str fun x y H Q q => by
  obtain ⟨F, h, dx, dy, Q', rx, ry, hd, ⟨a, b, e1, e2, z, q⟩, k⟩ := q
  subst e1 e2
  cases rx; cases ry
  refine ⟨_, _, rfl, rfl, by rw [str_len, str_len]; exact z, ?_⟩
  rw [str_append]
  exact k F _ h _ H .refl (.str _) hd q
end
end DX

set_option maxRecDepth 100000
set_option maxHeartbeats 4000000
namespace DX
open PySem PySem.Spec PyProof.Rows L2

/-! ### glue: what is known where a body or a block runs -/
structure Ct (X : Cx) (N : List Str) (sc : Scope) (k : Nat) : Prop where
  nn : X.N = N
  sc : X.env.scope = sc
  nd : N.Nodup
  calm : X.calm = true
  gd : X.A.guards = some []
  room : Room k X.A
  xe : X.xe = fun _ _ => False
abbrev Xb (X : Cx) (s : Shared) (H : Hp) (scope : Scope) (C : Addr) (cl : List (Str × Addr)) (fp : List Addr) : Cx := X.blk s H scope (compEnvC scope cl C X.env) fp
/-- a name at its place -/
structure Nm (N : List Str) (sc : Scope) (i : Nat) (x : Str) : Prop where
  ix : N[i]? = some x
  vis : Vis sc x
  d1 : (x == ("__debug__" : Str)) = false
  d2 : (x == ("__classdict__" : Str)) = false
/-- a name of the module's or built in -/
structure Gn (sc : Scope) (x : Str) : Prop where
  hg : sc.names.lookup x = some .globalImplicit
  hn : x ≠ "__name__"
  d1 : (x == ("__debug__" : Str)) = false
section
variable {X : Cx} {N : List Str} {sc : Scope} {k : Nat}
theorem Ct.blk (C : Ct X N sc k) {s : Shared} {H : Hp} {scope : Scope} {A : Addr} {cl : List (Str × Addr)} {fp : List Addr} : Ct (Xb X s H scope A cl fp) N (relS scope sc) k := by
  obtain ⟨h1, h2, h3, h4, h5, h6, h7⟩ := C
  subst h2
  exact ⟨h1, rfl, h3, h4, h5, h6, rfl⟩
theorem Ct.u64 (C : Ct X N sc k) : X.A.units + 64 < cLine := C.room.units
theorem Ct.u65 (C : Ct X N sc k) : X.A.units + 65 < cLine := by have := C.room.un; omega
theorem Ct.u1 (C : Ct X N sc k) : X.A.units + 1 < cLine := hu_of C.room
theorem Ct.pass (C : Ct X N sc k) : PassesOwn (model X.prog X.w) X.A X.env X.xe := by
  rw [C.xe]
  exact PassesOwn.never
/-- a def of the module's, as it is called -/
def Has (P : Program) (w : World) (K : PySem.W.Frag) (mg : Str → Option Value) (base : Heap) (x : Str) (k n : Nat) (sp : DSp) : Prop :=
  ∃ f fd ps, FnG P w K mg base CX0 k f fd ps (spD K n sp) ∧ mg x = some (.ref f) ∧ PySem.W.keepIn K (.ref f) = true ∧ Binds K fd ps []
abbrev HasX (X : Cx) (x : Str) (k n : Nat) (sp : DSp) : Prop := Has X.prog X.w X.K X.mg X.base x k n sp
variable {e a b c : Expr} {es : List Expr} {pos p : Pos} {x : Str} {ra rb rc : DE} {rr : DA}
theorem xv (C : Ct X N sc k) (i : Nat) (n : Nm N sc i x) : PDE X (.Name x pos) (rVar i) := de_var i C.nn C.sc n.ix n.vis n.d1 n.d2
theorem xcall (C : Ct X N sc k) {j n : Nat} {sp : DSp} (H : HasX X x j n sp) (hj : j ≤ k) (g : Gn sc x) (ha : PDA X (e :: es) rr) (he : starEach (e :: es) X.env = (false, eval e X.env) :: starEach es X.env := by rfl) (hpl : (backTo pos (starEach es X.env)).any (·.1) = false := by rfl) :
    PDE X (.Call (.Name x p) (e :: es) [] pos) (rCall n sp (fun _ _ => False) rr) := by
  obtain ⟨f, fd, ps, G, hm, hk, hb⟩ := H
  exact de_call0 (G.mono hj) C.gd C.room C.sc g.hg hm hk hb ha g.d1 he hpl
theorem xbi (C : Ct X N sc k) {id : String} {rR : List D → DHp → DQ → Prop} (hc : CallR X (.builtin id) (tDC X.K rR)) (g : Gn sc x) (hm : X.mg x = none) (hv : bootBuiltins x = some (.builtin id)) (ha : PDA X (e :: es) rr)
    (he : starEach (e :: es) X.env = (false, eval e X.env) :: starEach es X.env := by rfl) (hpl : (backTo pos (starEach es X.env)).any (·.1) = false := by rfl) : PDE X (.Call (.Name x p) (e :: es) [] pos) (rCB rR rr) := de_callB hc C.sc g.hg hm hv ha g.hn g.d1 he hpl
theorem xty (C : Ct X N sc k) {T : String} {rR : List D → DHp → DQ → Prop} (hc : CallR X (.type T) (tDC X.K rR)) (g : Gn sc x) (hm : X.mg x = none) (hv : bootBuiltins x = some (.type T)) (ha : PDA X (e :: es) rr)
    (he : starEach (e :: es) X.env = (false, eval e X.env) :: starEach es X.env := by rfl) (hpl : (backTo pos (starEach es X.env)).any (·.1) = false := by rfl) : PDE X (.Call (.Name x p) (e :: es) [] pos) (rCB rR rr) := de_callTy hc C.sc g.hg hm hv ha g.hn g.d1 he hpl
theorem xbty (C : Ct X N sc k) {T : String} (g : Gn sc x) (hm : X.mg x = none) (hv : bootBuiltins x = some (.type T)) : PDE X (.Name x pos) (rC (.ty T)) := de_bty C.sc g.hg hm hv g.hn g.d1
theorem xset (C : Ct X N sc k) (i : Nat) {pos' : Pos} (n : Nm N sc i x) (hl : sc.names.lookup x = some .local ∨ (sc.names.lookup x = some .cell ∧ X.fn x = true)) (he : PDE X e ra)
    (hsw : swapsWith e (some (.Name x pos')) pos.line X.env = pure false := by rfl) : PDS X (.Assign [.Name x pos'] e pos) (rAsg ra (gN i)) :=
  ds_set i C.nd C.nn C.sc n.ix (hl.imp id (·.1)) (hl.elim .inr fun z => .inl z.2) he hsw
theorem xgn (C : Ct X N sc k) (i : Nat) (n : Nm N sc i x) (hl : sc.names.lookup x = some .local ∨ (sc.names.lookup x = some .cell ∧ X.fn x = true)) : PDG X (.Name x pos) (gN i) :=
  dg_name i C.nd C.nn C.sc n.ix (hl.imp id (·.1)) (hl.elim .inr fun z => .inl z.2)
theorem xtg (C : Ct X N sc k) (i : Nat) (n : Nm N sc i x) (hl : sc.names.lookup x = some .local ∨ (sc.names.lookup x = some .cell ∧ X.fn x = true)) : PG X (.Name x pos) ((Tg.nm i).v X.K) :=
  tg_nm i C.nd C.nn C.sc n.ix (hl.imp id (·.1)) (hl.elim .inr fun z => .inl z.2)
theorem Ct.blkOk (C : Ct X N sc k) {scope : Scope} {own : List (Str × Nat)} (h : blkC N sc scope own = true) : BlkOk X.N X.env.scope scope own := by
  rw [C.nn, C.sc]
  exact blkOk_by h
theorem xlc (C : Ct X N sc k) (fz : Bool) {elt tg iter : Expr} {ifs : List Expr} {scope : Scope} {own : List (Str × Nat)} {ri : DI} {t : Tg} {tt : DT} {re : DE} (hi : PDI X tg iter ri) (ok : blkC N sc scope own = true) (hv : ∀ i ∈ t.slots, i ∈ own.map (·.2))
    (hg : ∀ (s : Shared) (H : Hp) (A : Addr) (cl : List (Str × Addr)) (fp : List Addr), Ct (Xb X s H scope A cl fp) N (relS scope sc) k → PG (Xb X s H scope A cl fp) tg (t.v X.K))
    (ht : ∀ (s : Shared) (H : Hp) (A : Addr) (cl : List (Str × Addr)) (fp : List Addr), Ct (Xb X s H scope A cl fp) N (relS scope sc) k → PTs (Xb X s H scope A cl fp) ifs (tDT X.K tt))
    (he : ∀ (s : Shared) (H : Hp) (A : Addr) (cl : List (Str × Addr)) (fp : List Addr), Ct (Xb X s H scope A cl fp) N (relS scope sc) k → PE (Xb X s H scope A cl fp) elt (tD X.K re)) (hs : ∀ x, foldedSetIterable iter X.env x = pure x := by intro _; rfl) :
    PDE X (.ListComp elt [⟨tg, iter, ifs, 0⟩] scope pos) (rLc ri t tt re (own.map (·.2)) fz) :=
  de_lc fz C.calm (C.nn.symm ▸ C.nd) hi (C.blkOk ok) hv (fun s H A cl fp => hg s H A cl fp C.blk) (fun s H A cl fp => ht s H A cl fp C.blk) (fun s H A cl fp => he s H A cl fp C.blk) hs
theorem xslc (C : Ct X N sc k) (fz : Bool) (i : Nat) {elt tg iter : Expr} {ifs : List Expr} {scope : Scope} {own : List (Str × Nat)} {ri : DI} {t : Tg} {tt : DT} {re : DE} {py spos : Pos} (n : Nm N sc i x) (hl : sc.names.lookup x = some .local)
    (hline : (py.line == pos.line) = true) (hno : (scope.names.any fun (n, k) => n == x && (k == .local || k == .cell)) = false) (hi : PDI X tg iter ri) (ok : blkC N sc scope own = true) (hv : ∀ i ∈ t.slots, i ∈ own.map (·.2)) (hk : sc.kind = .function)
    (hg : ∀ (s : Shared) (H : Hp) (A : Addr) (cl : List (Str × Addr)) (fp : List Addr), Ct (Xb X s H scope A cl fp) N (relS scope sc) k → PG (Xb X s H scope A cl fp) tg (t.v X.K))
    (ht : ∀ (s : Shared) (H : Hp) (A : Addr) (cl : List (Str × Addr)) (fp : List Addr), Ct (Xb X s H scope A cl fp) N (relS scope sc) k → PTs (Xb X s H scope A cl fp) ifs (tDT X.K tt))
    (he : ∀ (s : Shared) (H : Hp) (A : Addr) (cl : List (Str × Addr)) (fp : List Addr), Ct (Xb X s H scope A cl fp) N (relS scope sc) k → PE (Xb X s H scope A cl fp) elt (tD X.K re)) (hs : ∀ x, foldedSetIterable iter X.env x = pure x := by intro _; rfl) :
    PDS X (.Assign [.Name x py] (.ListComp elt [⟨tg, iter, ifs, 0⟩] scope pos) spos) (rAsg (rLc ri t tt re (own.map (·.2)) fz) (gN i)) := by
  have e := C.sc
  have e2 := C.nn
  refine ds_lc fz i C.calm (C.nn.symm ▸ C.nd) (by rw [e2]; exact n.ix) (by rw [e]; exact hl) ?_ hi (C.blkOk ok) hv (fun s H A cl fp => hg s H A cl fp C.blk) (fun s H A cl fp => ht s H A cl fp C.blk) (fun s H A cl fp => he s H A cl fp C.blk) hs
  exact sw_true (by rw [e]; exact hk) (by rw [e]; exact hl) hline hno
/-- a def, whole -/
theorem xdef {P : Program} {w : World} {K : PySem.W.Frag} {mg : Str → Option Value} {base : Heap} {f : Addr} {fd : FuncData} {ps : List Str} {n : Nat} {dsp : DSp} {x qual : Str} {params : Arguments} {body : List Stmt} {scope : Scope} {dvs : List V} {kws : List (Str × V)} {rd : DS}
    (D0 : FunD K x qual params body scope dvs kws f fd) (S : FnScope N ps scope) (hn : ps.length = n)
    (hb : ∀ (X : Cx), X.prog = P → X.w = w → X.K = K → X.mg = mg → X.base = base → Ct X N scope k → (∀ y, X.fn y = true) → PDSs X body rd)
    (hr : ∀ ds h Q, ds.length = n → dsp ds h Q (fun _ _ => False) → rd { nx := fun _ h' => Q .non h', rt := Q } (startD N ds) h)
    (hE : ∀ ds h Q E, dsp ds h Q E → dsp ds h Q fun _ _ => False) : FnG P w K mg base CX0 (k + 1) f fd ps (spD K n dsp) :=
  fnD D0 S hn (fun X e1 e2 e3 e4 e5 e6 e7 e8 e9 e10 e11 e12 => ⟨rd, hb X e1 e2 e3 e4 e5 ⟨e6, e7, S.nd, e8, e9, e10, e12⟩ e11, hr⟩) hE
end

/-! ### a dict that is written -/
def rPairs : List (DE × DE) → DSt → DHp → (List (D × D) → DHp → Prop) → Prop
  | [], _, h, Q => Q [] h
  | (rk, rv) :: r, ρ, h, Q => rk ρ h fun x h1 => rv ρ h1 fun y h2 => rPairs r ρ h2 fun ps h3 => Q ((x, y) :: ps) h3
def mergeD (kvs more : List (DK × D)) : List (DK × D) := more.foldl (fun acc kv => putD acc kv.1 kv.2) kvs
def rDisp (trs : List (DE × DE)) : DE := fun ρ h Q => ∀ p, h p = none → rPairs trs ρ (updD h p (.dK [])) fun ps h2 => h2 p = some (.dK []) ∧ ∃ kvs : List (DK × D), ps.map (fun q => (keyD q.1, q.2)) = kvs.map (fun q => (some q.1, q.2)) ∧ kvs.length ≤ 15 ∧ Q (.ref p) (updD h2 p (.dK (mergeD [] kvs)))
structure PDPs (X : Cx) (pos : Pos) (keys : List (Option Expr)) (values : List Expr) (trs : List (DE × DE)) : Prop where
  run : PPs X pos keys values (trs.map fun q => (tD X.K q.1, tD X.K q.2))
section
variable {X : Cx} {pos : Pos} {k v : Expr} {keys : List (Option Expr)} {values : List Expr} {rk rv : DE} {trs : List (DE × DE)}
theorem dp_nil : PDPs X pos [] [] [] := ⟨pps_nil⟩
theorem dp_cons (hk : PDE X k rk) (hv : PDE X v rv) (hr : PDPs X pos keys values trs) : PDPs X pos (some k :: keys) (v :: values) ((rk, rv) :: trs) := ⟨pps_cons hk hv hr.run⟩
theorem pairs_ok {K : PySem.W.Frag} : ∀ {trs : List (DE × DE)} {F : Addr → Prop} {H : Hp} {σ : L2.St} {ρ : DSt} {h : DHp} {Q' : List (D × D) → DHp → Prop} {Q : List (V × V) → Hp → Prop}, Rs K F H σ ρ → Hd K F H h → rPairs trs ρ h Q' →
    (∀ F' ps h' qs H', Le F H F' H' → Paired (fun (q : V × V) (p : D × D) => Rp K F' H' q.1 p.1 ∧ Rp K F' H' q.2 p.2) qs ps → Hd K F' H' h' → Q' ps h' → Q qs H') → tPairs (trs.map fun q => (tD K q.1, tD K q.2)) σ H Q
  | [], F, H, σ, ρ, h, Q', Q, s, hd, q, kk => kk F [] h [] H .refl .nil hd q
  | (rk, rv) :: r, F, H, σ, ρ, h, Q', Q, s, hd, q, kk => by
    refine ⟨F, ρ, h, _, s, hd, q, fun F1 x h1 v1 H1 l1 rx d1 q1 => ⟨F1, ρ, h1, _, s.le l1, d1, q1, fun F2 y h2 v2 H2 l2 ry d2 q2 => ?_⟩⟩
    refine pairs_ok (s.le (l1.trans l2)) d2 q2 fun F3 ps h3 qs H3 l3 rs d3 q3 => kk F3 _ h3 _ H3 (l1.trans (l2.trans l3)) (.cons ⟨rx.le (l2.trans l3), ry.le l3⟩ rs) d3 q3
theorem merge_ok {K : PySem.W.Frag} {F : Addr → Prop} {H : Hp} : ∀ {more : List (DK × D)} {ms : List (Key × V)} {kvs : List (DK × D)} {ks : List (Key × V)}, Paired (RKv K F H) ms more → Paired (RKv K F H) ks kvs → Paired (RKv K F H) (mergeK ks ms) (mergeD kvs more)
  | [], _, _, _, r, t => by cases r; exact t
  | m :: more, _, kvs, ks, r, t => by
    cases r with
    | @cons p q ps qs h1 h2 =>
      have e : p.1 = toKey m.1 := h1.1
      have st := alongPut (f := toKey) (fun a b => toKey_inj) t m.1 h1.2
      show Paired (RKv K F H) (mergeK (putK ks p.1 p.2) ps) (mergeD (putD kvs m.1 m.2) more)
      rw [e]
      exact merge_ok h2 st
theorem de_disp (h : PDPs X pos keys values trs) (hall : keys.all (·.isSome) = true) (hl : keys.length = values.length) (h0 : keys ≠ []) (h15 : keys.length ≤ 15) : PDE X (.Dict keys values pos) (rDisp trs) := impE (pe_disp h.run hall hl h0 h15) fun σ H Q q => by
  obtain ⟨F, ρ, h, Q', s, hd, q, k⟩ := q
  intro p np
  refine pairs_ok (s.le (Le.new np)) (hd.add (c := .dK []) np ⟨[], upd_same, .nil⟩) (q p (hd.none np)) fun F1 ps h1 qs H1 l1 rs d1 q1 => ?_
  obtain ⟨e, kvs, ek, z, q1⟩ := q1
  obtain ⟨⟨ks, h11, rk⟩, _⟩ := d1.cell p _ e
  cases rk
  -- the pairs as keys and values
  have key : ∀ {ps : List (D × D)} {qs : List (V × V)} {kvs : List (DK × D)}, Paired (fun (q : V × V) (p : D × D) => Rp X.K F1 H1 q.1 p.1 ∧ Rp X.K F1 H1 q.2 p.2) qs ps → ps.map (fun q => (keyD q.1, q.2)) = kvs.map (fun q => (some q.1, q.2)) →
      ∃ ms : List (Key × V), qs = ms.map (fun kv => (kV kv.1, kv.2)) ∧ Paired (RKv X.K F1 H1) ms kvs := fun {ps qs kvs} r => by
    induction r generalizing kvs with
    | nil =>
      intro e
      cases kvs with
      | nil => exact ⟨[], rfl, .nil⟩
      | cons _ _ => simp at e
    | @cons a b as bs h t ih =>
      intro e
      cases kvs with
      | nil => simp at e
      | cons kv kvs =>
        simp only [List.map_cons, List.cons.injEq, Prod.mk.injEq] at e
        obtain ⟨ms, e1, r1⟩ := ih e.2
        have e3 := h.1.key e.1.1
        refine ⟨(toKey kv.1, a.2) :: ms, by rw [List.map_cons, ← e1, ← e3], .cons ⟨rfl, ?_⟩ r1⟩
        rw [← e.1.2]
        exact h.2
  obtain ⟨ms, e1, r1⟩ := key rs ek
  refine ⟨h11, ms, e1, by rw [paired_len r1]; exact z, ?_⟩
  obtain ⟨l2, d2⟩ := d1.set (o := .dK (mergeK [] ms)) (c := .dK (mergeD [] kvs)) e fun l => ⟨_, upd_same, merge_ok (Paired.mapP r1 fun p q z => ⟨z.1, z.2.le l⟩) .nil⟩
  exact k F1 _ _ _ _ (((Le.new np).trans l1).trans l2) (.ref p) d2 q1
end
end DX
namespace DX
open PySem PySem.Spec PyProof.Rows L2
/-! ### the ways are joined -/
def rCut (r1 r2 : DS) : DS := fun E ρ h => ∃ M : DSt → DHp → Prop, r1 { E with nx := M } ρ h ∧ ∀ ρ h, M ρ h → r2 E ρ h
theorem dss_cut {X : Cx} {st : Stmt} {rest : List Stmt} {rs rs2 : DS} (h1 : PDS X st rs) (h2 : PDSs X rest rs2) : PDSs X (st :: rest) (rCut rs rs2) := impSs (pss_cons h1 h2) fun D' σ H q => by
  obtain ⟨F, ρ, h, E, s, hd, ⟨M, q1, q2⟩, k⟩ := q
  exact ⟨F, ρ, h, _, s, hd, q1, fun F1 ρ1 h1 σ1 H1 l1 s1 d1 z => ⟨F1, ρ1, h1, E, s1, d1, q2 ρ1 h1 z, k.le l1⟩, k.rt, k.bk, k.ct⟩
end DX

set_option maxRecDepth 100000
set_option maxHeartbeats 4000000
namespace DX
open PySem PySem.Spec PyProof.Rows L2
theorem boot_len' : bootBuiltins "len" = some (.builtin "len") := by decide +kernel
theorem boot_abs' : bootBuiltins "abs" = some (.builtin "abs") := by decide +kernel
theorem boot_max' : bootBuiltins "max" = some (.builtin "max") := by decide +kernel
theorem boot_min' : bootBuiltins "min" = some (.builtin "min") := by decide +kernel
theorem boot_isinstance' : bootBuiltins "isinstance" = some (.builtin "isinstance") := by decide +kernel
theorem boot_sorted' : bootBuiltins "sorted" = some (.builtin "sorted") := by decide +kernel
theorem boot_repr' : bootBuiltins "repr" = some (.builtin "repr") := by decide +kernel
theorem boot_any' : bootBuiltins "any" = some (.builtin "any") := by decide +kernel
theorem boot_all' : bootBuiltins "all" = some (.builtin "all") := by decide +kernel
theorem boot_sum' : bootBuiltins "sum" = some (.builtin "sum") := by decide +kernel
theorem boot_tuple' : bootBuiltins "tuple" = some (.type "tuple") := by decide +kernel
theorem boot_list' : bootBuiltins "list" = some (.type "list") := by decide +kernel
theorem boot_int' : bootBuiltins "int" = some (.type "int") := by decide +kernel
theorem boot_str' : bootBuiltins "str" = some (.type "str") := by decide +kernel
theorem boot_set' : bootBuiltins "set" = some (.type "set") := by decide +kernel
theorem boot_dict' : bootBuiltins "dict" = some (.type "dict") := by decide +kernel
theorem boot_bool' : bootBuiltins "bool" = some (.type "bool") := by decide +kernel
theorem boot_range' : bootBuiltins "range" = some (.type "range") := by decide +kernel
theorem boot_zip' : bootBuiltins "zip" = some (.type "zip") := by decide +kernel
theorem boot_enumerate' : bootBuiltins "enumerate" = some (.type "enumerate") := by decide +kernel
end DX

set_option maxRecDepth 100000
set_option maxHeartbeats 4000000
namespace DX
open PySem PySem.Spec PyProof.Rows L2
/-! ### data, reckoned -/
section
variable {h : DHp} {n : Nat} {i j : Int} {s t : String} {ds es : List D} {b c : Bool} {a : Addr} {d e : D}
theorem resD_int : resD h (.int i) = .int i := rfl
theorem resD_str : resD h (.str s) = .str s := rfl
theorem resD_bl : resD h (.bl b) = .bl b := rfl
theorem resD_non : resD h .non = .non := rfl
theorem resD_tup : resD h (.tup ds) = .tup ds := rfl
theorem resD_ktup : resD h (.ktup ds) = .ktup ds := rfl
theorem resD_klst : resD h (.klst ds) = .klst ds := rfl
theorem resD_lst : resD h (.lst ds) = .lst ds := rfl
theorem resD_ref (q : h a = some (.lst ds)) : resD h (.ref a) = .lst ds := by simp only [resD, rdL, q]
theorem dat_int : D.dat n (.int i) = true := by cases n <;> rfl
theorem dat_str : D.dat n (.str s) = true := by cases n <;> rfl
theorem dat_bl : D.dat n (.bl b) = true := by cases n <;> rfl
theorem dat_non : D.dat n .non = true := by cases n <;> rfl
theorem dat_nil : D.dat (n + 1) (.lst []) = true := rfl
theorem dat_tup : D.dat (n + 1) (.tup ds) = dats n ds := rfl
theorem dat_lst : D.dat (n + 1) (.lst ds) = dats n ds := rfl
theorem dats_all : ∀ ds : List D, dats n ds = ds.all (D.dat n)
  | [] => rfl
  | d :: ds => by rw [List.all_cons, ← dats_all ds]; rfl
theorem dats_of (q : ∀ d ∈ ds, d.dat n = true) : dats n ds = true := by rw [dats_all]; exact List.all_eq_true.mpr q
theorem beqOf (b : Bool) (p : Prop) [Decidable p] (q : b = true ↔ p) : b = decide p := by
  by_cases z : p
  · rw [decide_eq_true z]; exact q.mpr z
  · rw [decide_eq_false z]
    cases b with
    | false => rfl
    | true => exact absurd (q.mp rfl) z
theorem eqv_int : D.eqv (.int i) (.int j) = decide (i = j) := beqOf _ _ (by simp [D.eqv, D.pd, PyData.eqv])
theorem eqv_str : D.eqv (.str s) (.str t) = decide (s = t) := beqOf _ _ (by
  simp only [D.eqv, D.pd, PyData.eqv, beq_iff_eq]
  exact ⟨ofString_inj, fun z => by rw [z]⟩)
theorem eqv_bl : D.eqv (.bl b) (.bl c) = (b == c) := rfl
theorem eqv_tup : D.eqv (.tup ds) (.tup es) = eqvs ds es := by simp [D.eqv, D.pd, PyData.eqv, eqvs]
theorem eqv_lst : D.eqv (.lst ds) (.lst es) = eqvs ds es := by simp [D.eqv, D.pd, PyData.eqv, eqvs]
theorem eqvs_cons : eqvs (d :: ds) (e :: es) = (d.eqv e && eqvs ds es) := rfl
theorem eqvs_nil : eqvs [] [] = true := rfl
theorem eqvs_nil' : eqvs ds [] = ds.isEmpty := by cases ds <;> rfl
theorem eqv_nil : D.eqv (.lst ds) (.lst []) = ds.isEmpty := by rw [eqv_lst, eqvs_nil']
theorem eqv_tnil : D.eqv (.tup ds) (.tup []) = ds.isEmpty := by rw [eqv_tup, eqvs_nil']
theorem seqD_tup : seqD h (.tup ds) = some ds := rfl
theorem seqD_ktup : seqD h (.ktup ds) = some ds := rfl
theorem seqD_klst : seqD h (.klst ds) = some ds := rfl
theorem seqD_lst : seqD h (.lst ds) = some ds := rfl
theorem seqD_ref (q : h a = some (.lst ds)) : seqD h (.ref a) = some ds := by simp only [seqD, rdL, q]
theorem seqL_lst : seqL h (.lst ds) = some ds := rfl
theorem seqL_ref (q : h a = some (.lst ds)) : seqL h (.ref a) = some ds := by simp only [seqL, rdL, q]
theorem isN_non : D.isN .non = true := rfl
theorem isN_int : D.isN (.int i) = false := rfl
theorem isN_str : D.isN (.str s) = false := rfl
theorem isN_bl : D.isN (.bl b) = false := rfl
theorem isN_tup : D.isN (.tup ds) = false := rfl
theorem isN_lst : D.isN (.lst ds) = false := rfl
theorem isN_ref : D.isN (.ref a) = false := rfl
theorem isLst_lst : isLst (.lst ds) h := trivial
theorem isLst_ref (q : h a = some (.lst ds)) : isLst (.ref a) h := ⟨ds, q⟩
theorem atI_0 {x : D} {xs : List D} : atI (x :: xs) 0 = some x := atI_nat (j := 0) rfl
theorem atI_1 {x y : D} {xs : List D} : atI (x :: y :: xs) 1 = some y := atI_nat (j := 1) rfl
theorem atI_2 {x y z : D} {xs : List D} : atI (x :: y :: z :: xs) 2 = some z := atI_nat (j := 2) rfl
theorem atI_3 {x y z u : D} {xs : List D} : atI (x :: y :: z :: u :: xs) 3 = some u := atI_nat (j := 3) rfl
theorem atI_of {xs : List D} {x : D} (h0 : 0 ≤ i) (h1 : xs[i.toNat]? = some x) : atI xs i = some x := by
  have q := atI_nat h1
  rw [Int.toNat_of_nonneg h0] at q
  exact q
theorem atI_lt {xs : List D} (h0 : 0 ≤ i) (h1 : i < xs.length) : ∃ x, x ∈ xs ∧ xs[i.toNat]? = some x ∧ atI xs i = some x := by
  have hl : i.toNat < xs.length := by omega
  exact ⟨xs[i.toNat], List.getElem_mem hl, List.getElem?_eq_getElem hl, atI_of h0 (List.getElem?_eq_getElem hl)⟩
theorem delD_upd {h : DHp} {a : Addr} {c : Cell} (q : h a = none) : delD (updD h a c) a = h := by
  funext b
  unfold delD updD
  by_cases z : b = a
  · subst z; rw [if_pos rfl, q]
  · rw [if_neg z, if_neg z]
theorem upd_updD {h : DHp} {a : Addr} {c c' : Cell} : updD (updD h a c) a c' = updD h a c' := by
  funext b
  unfold updD
  split <;> rfl
end
end DX

set_option maxRecDepth 100000
set_option maxHeartbeats 4000000
namespace DX
open PySem PySem.Spec PyProof.Rows L2

/-! ### xs[i] = v -/
section
variable {X : Cx} {o i e value : Expr} {pos pos' : Pos} {ro ri rv : DE}
def tSetD (K : PySem.W.Frag) : V → V → V → Hp → (Hp → Prop) → Prop := fun o i v H Q => ∃ (F : Addr → Prop) (h : DHp) (a : Addr) (k : Int) (d : D) (ds : List D) (j : Nat) (Q' : DHp → Prop), o = .ref a ∧ i = .int k ∧ Rp K F H v d ∧ Hd K F H h ∧ h a = some (.lst ds) ∧ ixN ds.length k = some j ∧ Q' (updD h a (.lst (ds.set j d))) ∧ ∀ F' h' H', Le F H F' H' → Hd K F' H' h' → Q' h' → Q H'
theorem set_listD : PSet X (tSetD X.K) := by
  intro pins s σ H o i v ov iv u Q I ro ri rv q
  obtain ⟨F, h, a, k, d, ds, j, Q', rfl, rfl, rd, hd, e, ej, q, kk⟩ := q
  obtain ⟨⟨xs, h1, rx⟩, _⟩ := hd.cell a _ e
  refine L2.set_list pins s σ H _ _ v ov iv u Q I ro ri rv ⟨a, xs, k, j, rfl, rfl, h1, by rw [rx.length]; exact ej, ?_⟩
  obtain ⟨l2, d2⟩ := hd.set (o := .lst (xs.set j v)) (c := .lst (ds.set j d)) e fun l => ⟨_, upd_same, (rx.le l).set (rd.le l) j⟩
  exact kk _ _ _ l2 d2 q
def rLP (ro ri rv : DE) : DS := fun E ρ h => rv ρ h fun d h1 => ro ρ h1 fun x h2 => ri ρ h2 fun y h3 => ∃ a k ds j, x = .ref a ∧ y = .int k ∧ h3 a = some (.lst ds) ∧ ixN ds.length k = some j ∧ E.nx ρ (updD h3 a (.lst (ds.set j d)))
theorem ds_lput (hv : PDE X value rv) (ho : PDE X o ro) (hi : PDE X i ri)
    (ha : ∀ v, assign (.Subscript o i pos') X.env v = (do
      let ov ← holding [v] (eval o X.env)
      let iv ← holding [v, ov] (eval i X.env)
      standAt pos'
      holding [v, ov, iv] (setItem ov iv v)
      release [v, ov, iv] []) := by intro _; rfl)
    (hs : swapsWithSole [.Subscript o i pos'] value pos.line X.env = pure false := by rfl) (hw : swappedStores [.Subscript o i pos'] value X.env = pure none := by rfl)
    (h1 : (assignEach [.Subscript o i pos'] X.env).map (·.2) = [assign (.Subscript o i pos') X.env] := by rfl) : PDS X (.Assign [.Subscript o i pos'] value pos) (rLP ro ri rv) :=
  impS (ps_asg hv (pg_sub ho hi set_listD ha) hs hw h1) fun D' σ H q => by
  obtain ⟨F, ρ, h, E, s, hd, q, k⟩ := q
  refine ⟨F, ρ, h, _, s, hd, q, fun F1 d h1 v1 H1 l1 rd d1 q1 => ⟨F1, ρ, h1, _, s.le l1, d1, q1, fun F2 x h2 v2 H2 l2 rx d2 q2 => ⟨F2, ρ, h2, _, s.le (l1.trans l2), d2, q2, fun F3 y h3 v3 H3 l3 ry d3 q3 => ?_⟩⟩⟩
  obtain ⟨a, j, ds, n, e1, e2, e3, e4, q3⟩ := q3
  subst e1 e2
  cases rx; cases ry
  exact ⟨F3, h3, a, j, d, ds, n, fun h' => E.nx ρ h', rfl, rfl, rd.le (l2.trans l3), d3, e3, e4, q3, fun F' h' H' l4 d4 q4 => k.nx F' ρ h' σ H' (((l1.trans l2).trans l3).trans l4) (s.le (((l1.trans l2).trans l3).trans l4)) d4 q4⟩
end

/-! ### a list times a number -/
theorem Rps.rep {K : PySem.W.Frag} {F : Addr → Prop} {H : Hp} {vs : List V} {ds : List D} (r : Rps K F H vs ds) : ∀ n : Nat, Rps K F H (List.replicate n vs).flatten (List.replicate n ds).flatten
  | 0 => .nil
  | n + 1 => by rw [List.replicate_succ, List.replicate_succ, List.flatten_cons, List.flatten_cons]; exact r.append (Rps.rep r n)
section
variable {X : Cx}
def rRepL' (fz : Bool) (x y : D) (h : DHp) (Q : DQ) : Prop := ∃ a k ds, x = .ref a ∧ y = .int k ∧ h a = some (.lst ds) ∧ -(2 ^ 63) ≤ k ∧ k < 2 ^ 63 ∧ ds.length * k.toNat ≤ sizeLine ∧ newL fz (List.replicate k.toNat ds).flatten (delD h a) Q
theorem d_repL (fz : Bool) : DOp X (binaryOp .Mult) (rRepL' fz) := impO op_rep fun x y H Q q => by
  obtain ⟨F, h, dx, dy, Q', rx, ry, hd, ⟨a, k, ds, e1, e2, e3, b1, b2, z, q⟩, kk⟩ := q
  subst e1 e2
  cases rx; cases ry
  obtain ⟨⟨xs, h1, rx⟩, _⟩ := hd.cell a _ e3
  exact ⟨a, k, xs, rfl, rfl, h1, b1, b2, by rw [rx.length]; exact z, newL_ok (rx.rep k.toNat) hd.del q kk⟩
end

/-! ### enumerate -/
set_option maxHeartbeats 1000000 in
theorem meets_enumerate_new1 {v : Value} {o : Obj} {H : Heap → Prop} (B : Begins v o H) :
    Meets (Builtin.«enumerate.__new__» ⟨[.type "enumerate", v], []⟩) (fun _ R s => H s.heap ∧
      R (.ok (.ret (.ref (s.heap.push o).objs.size))) { s with heap := (s.heap.push o).push { cls := .type "enumerate", data := .fields #[.none, .bool false, .ref s.heap.objs.size, rawInt 0, .none, .none] } }) :=
  .of_wp fun prog w A R s h => by
    obtain ⟨hp, g, d, tk, os⟩ := s; obtain ⟨h1, h⟩ := h
    have hsub := sub_enumerate
    have q1 : ∀ {A' : Around} {E : Value → Shared → Prop} {Q : Value → Shared → Prop}, Q (.ref hp.objs.size) ⟨hp.push o, g, d, tk, os⟩ → wpAny (model prog w) A' (pyIter v) Q E ⟨hp, g, d, tk, os⟩ :=
      fun q => B.iter prog w _ _ ⟨hp, g, d, tk, os⟩ _ h1 q
    wp_walk using q1
    refine wpAny_stack_any fun st => wpAny_pure ?_
    split
    · rename_i c _ _ _ _ _
      cases (c == Value.type "enumerate")
      · wp_walk using q1
        exact ⟨_, rfl, h⟩
      · wp_walk using q1
        exact ⟨_, rfl, h⟩
    · wp_walk using q1
      exact ⟨_, rfl, h⟩
section
variable {prog : Program} {w : World} {A : Around} {E : Value → Shared → Prop} {s : Shared}
theorem enum_begins1 {v : Value} {o : Obj} {H : Heap → Prop} {Q : Value → Shared → Prop} (B : Begins v o H) (h1 : H s.heap)
    (h : ∀ h', IsEnum h' (s.heap.objs.size + 1) s.heap.objs.size 0 .none → h'.get? s.heap.objs.size = some o → h'.objs.size = s.heap.objs.size + 2 →
      (∀ b o, s.heap.get? b = some o → h'.get? b = some o) → Q (.ref (s.heap.objs.size + 1)) { s with heap := h' }) :
    wpAny (model prog w) A (call (.type "enumerate") [v]) Q E s := by
  refine callType_new F.called_enumerate (by decide) (F.typeCall_enumerate_1 _) (F.newCall_enumerate_1 _) (fun obj => F.args_object_init_2 obj _) F.entry_enumerate_new
    (meets_enumerate_new1 B) ⟨h1, ?_⟩
  have hz : (s.heap.push o).objs.size = s.heap.objs.size + 1 := Heap.size_push ..
  show _ ∧ _
  rw [hz]
  have he : IsEnum ((s.heap.push o).push { cls := .type "enumerate", data := .fields #[.none, .bool false, .ref s.heap.objs.size, rawInt 0, .none, .none] }) (s.heap.objs.size + 1) s.heap.objs.size 0 .none := by
    have := Heap.get?_push_size (s.heap.push o) (o := { cls := .type "enumerate", data := .fields #[.none, .bool false, .ref s.heap.objs.size, rawInt 0, .none, .none] }) rfl
    rw [hz] at this; exact this
  refine ⟨⟨_, he, rfl⟩, h _ he (Heap.get?_push_of_some _ (Heap.get?_push_size _ B.free)) (by rw [Heap.size_push, hz]) fun b o x => Heap.get?_push_of_some _ (Heap.get?_push_of_some _ x)⟩
end
/-- the tuple at a, each item in a new pair -/
def IteT (K : PySem.W.Frag) (a : Addr) : It :=
  ⟨fun i H => ∃ (xs : List V) (x : V), SqT K H a xs ∧ xs[i]? = some x, fun i H v H' => ∃ T x, v = .ref T ∧ H T = none ∧ H' = upd H T (.tup [.int (i : Nat), x]) ∧ ∀ xs, SqT K H a xs → xs[i]? = some x, fun i H => ∃ xs : List V, SqT K H a xs ∧ xs.length ≤ i⟩
theorem turn_enumT {P : Program} {w : World} {K : PySem.W.Frag} {elts : List Expr} {kk : Nat} {tpos : Pos} (a e it : Addr) (hea : e ≠ a) (hia : a ≠ it) :
    Turn P w K (.Tuple elts kk tpos) (IteT K a) [e, it] e (fun i h => (∃ old, IsEnum h e it ((i : Nat) : Int) old) ∧ h.IsTupleIter it a i ∧ e ≠ it) where
  mem := by simp
  obj := fun i h st b hb => by
    obtain ⟨⟨old, he⟩, ⟨o, ho, hc, hd⟩, _⟩ := st
    have e' : b = e ∨ b = it := by simpa using hb
    rcases e' with z | z
    · rw [z]; exact ⟨_, he, fun v q => nomatch q⟩
    · rw [z]; exact ⟨o, ho, fun v q => by rw [hd] at q; cases q⟩
  keep := fun i h h' st k => let ⟨⟨old, he⟩, hi, hne⟩ := st; ⟨⟨old, k e (by simp) _ he⟩, hi.at fun o q => k it (by simp) o q, hne⟩
  item := by
    intro X hP hw hK hc i pins s σ H E I hf st hg
    subst hP hw hK
    obtain ⟨⟨old, he⟩, hit, hne⟩ := st
    obtain ⟨xs, x, hq, hx⟩ := hg
    obtain ⟨its, rv, p, hz⟩ := I.tuple hq
    obtain ⟨u, hu, ru⟩ := rv.get hx
    have hel : e < s.heap.objs.size := Heap.lt_size he
    have hil : it < s.heap.objs.size := by obtain ⟨_, q, _⟩ := hit; exact Heap.lt_size q
    have pt : s.heap.IsTuple a its.toArray := p
    have hlt : i < its.toArray.size := by
      have := (List.getElem?_eq_some_iff.mp hu).1
      simpa using this
    refine wpAny_pyNext_enum_itemD (D := Draws.tuple (prog := X.prog) (w := X.w) (A := X.A.in1) (I.ok.hd hc) it a hia its.toArray) he ⟨hit, pt⟩ hlt hne (by simp [hne, hea]) fun x' h' tk hP ho hst' hT hsz hk => ?_
    have ex : x' = u := by
      have h2 : its.toArray[i]? = some u := by simpa using hu
      rw [h2] at hP
      exact (Option.some.inj hP).symm
    subst ex
    refine ⟨_, rfl, wpAny_letOwnedTupleGo_enum (s := { s with heap := h', toks := tk + 1 }) ho fun h'' he' sb => ?_⟩
    have hT2 : h''.get? s.heap.objs.size = some { cls := .type "tuple", data := .seq #[.int i tk, x'] } := (sb.2 _ (Nat.ne_of_gt hel)).trans hT
    have new : ObjOk X.prog X.w (upd H s.heap.objs.size (.tup [.int (i : Nat), x])) h'' s.heap.objs.size (.tup [.int (i : Nat), x]) :=
      ⟨by show 2 ≤ sizeLine; decide, [.int i tk, x'], .cons ⟨_, rfl⟩ (.cons ru .nil), ⟨_, hT2, rfl, _, rfl⟩⟩
    have I1 : Inv X pins σ (upd H s.heap.objs.size (.tup [.int (i : Nat), x])) { s with heap := h'', toks := tk + 1 } :=
      I.turnedNew (ch := [e, it]) (fun b ob hb q => (sb.2 b (fun z => hb (by simp [z]))).trans (hk b ob (fun z => hb (by simp [z])) (fun z => hb (by simp [z])) q)) hf (Nat.le_refl _) new
    refine ⟨.ref s.heap.objs.size, _, I1, rfl, ⟨_, x, rfl, I.hok.fresh (Nat.le_refl _), rfl, fun ys hy => by rw [I.tuple_inj hy hq]; exact hx⟩, ⟨⟨x', ?_⟩, hst'.1.at fun o q => (sb.2 it (Ne.symm hne)).trans q, hne⟩, fun b hb => ?_⟩
    · have e1 : ((i + 1 : Nat) : Int) = (i : Int) + 1 := by omega
      rw [e1]; exact he'
    · have hb' : b < s.heap.objs.size := by
        have e' : b = e ∨ b = it := by simpa using hb
        rcases e' with z | z
        · rw [z]; exact hel
        · rw [z]; exact hil
      rw [upd_ne (Nat.ne_of_lt hb')]
      exact (hf b hb).1
  done := by
    intro X hP hw hK hc i pins s σ H E I hf st hg
    subst hP hw hK
    obtain ⟨⟨old, he⟩, hit, hne⟩ := st
    obtain ⟨xs, hq, hx⟩ := hg
    obtain ⟨its, rv, p, hz⟩ := I.tuple hq
    obtain ⟨f0, f1, f2, f3, f4, f5⟩ := hf it (by simp)
    have hl := rv.length
    have pt : s.heap.IsTuple a its.toArray := p
    have hT : s.TypeIs (.ref e) "enumerate" := ⟨_, he, rfl⟩
    unfold pyNext
    refine wpAny_bind (wpAny_attempt (wpAny_callSpecial?_slot (name := Str.ofString "__next__") hT F.slot_enumerate_next
      (wpAny_call_entry F.slot_enumerate_next hT F.entry_enumerate_next ?_ (F.args_enumerate_next_1 _))))
    show wpAny _ _ (field (.ref e) 2 >>= _) _ _ _
    refine wpAny_bind (wpAny_field he rfl (x := .ref it) rfl ?_)
    refine wpAny_bind (wpAny_nextOf_tuple_end (A := X.A.in1) (show X.A.in1.handled = none from I.ok.hd hc) hit pt (by simp; omega) fun h' x he' hx' => ?_)
    obtain ⟨o, ho, hc⟩ := hx'
    refine wpAny_bind (wpAny_isInstance (T := "StopIteration") (b := true) ⟨o, ho, hc⟩ isSubtype_stop ?_)
    exact wpAny_pure ⟨rfl, I.turned (t' := s.toks) (fun b o hb q => he' b o hb q) f0 f1 f3 f4 f5⟩
  self := fun A i s Q E st h => let ⟨⟨_, he⟩, _⟩ := st; wpAny_pyIter_enum he h
def iEnumA (K : PySem.W.Frag) (ta : TA) : TI := fun σ H R => ta σ H fun vs H1 => ∃ a, vs = [.ref a] ∧ (((∃ xs, SqL K H1 a xs) ∧ R (Ite K a) H1) ∨ ((∃ xs, SqT K H1 a xs) ∧ R (IteT K a) H1))
theorem pi_enumA {X : Cx} {e : Expr} {ta : TA} {p pos tpos : Pos} {elts : List Expr} {kk : Nat} (hg : Gl X "enumerate") (hm : X.mg "enumerate" = none) (ha : PA X [e] ta) (hs : starEach [e] X.env = [(false, eval e X.env)] := by rfl) :
    PI X (.Tuple elts kk tpos) (.Call (.Name "enumerate" p) [e] [] pos) (iEnumA X.K ta) := by
  refine ⟨fun pins s σ H R I h => ?_⟩
  refine Call_ (ld_blt I hg hm PyProof.Rows.boot_enumerate (PyProof.Rows.callWith_type1 (thn (ha.run pos pins s σ H _ I h) fun us s1 ⟨vs, H1, I1, r1, q1⟩ => ?_) hs rfl))
  obtain ⟨a, ex, q⟩ := q1
  subst ex
  cases r1 with
  | cons r rr =>
    cases rr
    cases r
    have fp2 : ∀ b ∈ [s1.heap.objs.size + 1, s1.heap.objs.size], FpOk X pins H1 b := fun b hb => by
      have e' : b = s1.heap.objs.size + 1 ∨ b = s1.heap.objs.size := by simpa using hb
      have hle : s1.heap.objs.size ≤ b := by
        rcases e' with z | z
        · rw [z]; exact Nat.le_add_right _ _
        · rw [z]; exact Nat.le_refl _
      exact I1.fpOk hle (I1.hok.fresh hle)
    rcases q with ⟨⟨xs, hq⟩, q⟩ | ⟨⟨xs, hq⟩, q⟩
    · obtain ⟨its, rv, p', hz⟩ := I1.list hq
      refine call_enumerate_list p'.isList fun h' he hit hsz hk => wpAny_pyIter_enum he ?_
      have I2 : Inv X pins σ H1 { s1 with heap := h' } := I1.kept (t' := s1.toks) hk
      exact ⟨s1.heap.objs.size + 1, [s1.heap.objs.size + 1, s1.heap.objs.size], _, _, H1, rfl, I2, turn_enum a (s1.heap.objs.size + 1) s1.heap.objs.size, ⟨⟨.none, he⟩, hit, Nat.succ_ne_self _⟩, fp2, q⟩
    · obtain ⟨its, rv, p', hz⟩ := I1.tuple hq
      have pt : s1.heap.IsTuple a its.toArray := p'
      have hal : a < s1.heap.objs.size := by obtain ⟨_, q, _⟩ := id pt; exact Heap.lt_size q
      refine enum_begins1 (begins_tuple a its.toArray) pt fun h' he hit hsz hk => wpAny_pyIter_enum he ?_
      have I2 : Inv X pins σ H1 { s1 with heap := h' } := I1.kept (t' := s1.toks) hk
      exact ⟨s1.heap.objs.size + 1, [s1.heap.objs.size + 1, s1.heap.objs.size], _, _, H1, rfl, I2, turn_enumT a (s1.heap.objs.size + 1) s1.heap.objs.size (Nat.ne_of_gt (Nat.lt_succ_of_lt hal)) (Nat.ne_of_lt hal), ⟨⟨.none, he⟩, ⟨_, hit, rfl, rfl⟩, Nat.succ_ne_self _⟩, fp2, q⟩
/-- the pairs of enumerate -/
def enD (ds : List D) : List D := ds.mapIdx fun i d => .tup [.int (i : Nat), d]
theorem enD_length (ds : List D) : (enD ds).length = ds.length := by unfold enD; rw [List.length_mapIdx]
theorem enD_get {ds : List D} {i : Nat} : (enD ds)[i]? = (ds[i]?).map fun d => .tup [.int (i : Nat), d] := by unfold enD; rw [List.getElem?_mapIdx]
theorem wk_enumL {K : PySem.W.Frag} {a : Addr} {ds : List D} {keep : DHp → Prop} {F0 : Addr → Prop} {H0 : Hp} (hk : ∀ F H h, Le F0 H0 F H → Hd K F H h → keep h → ∃ xs, SqL K H a xs ∧ Rps K F H xs ds) : Wk K (Ite K a) (enD ds) keep F0 H0 where
  goes := fun i F H h hi l d k => by
    obtain ⟨xs, sq, r⟩ := hk F H h l d k
    rw [enD_length] at hi
    exact ⟨xs, xs[i]'(by rw [r.length]; exact hi), sq, by simp⟩
  stops := fun F H h l d k => by
    obtain ⟨xs, sq, r⟩ := hk F H h l d k
    exact ⟨xs, sq, by rw [r.length, enD_length]; exact Nat.le_refl _⟩
  yields := fun i F H h x H' hi l d k y => by
    obtain ⟨xs, sq, r⟩ := hk F H h l d k
    obtain ⟨T, x, e1, e2, e3, y⟩ := y
    subst e1 e3
    obtain ⟨d', e4, e5⟩ := r.getV (y xs sq)
    exact ⟨Le.new e2, d.new e2, _, by rw [enD_get, e4]; rfl, .tup upd_same (.cons (.int _) (.cons (e5.le (Le.new e2)) .nil))⟩
theorem wk_enumT {K : PySem.W.Frag} {a : Addr} {ds : List D} {keep : DHp → Prop} {F0 : Addr → Prop} {H0 : Hp} (hk : ∀ F H, Le F0 H0 F H → ∃ xs, SqT K H a xs ∧ Rps K F H xs ds) : Wk K (IteT K a) (enD ds) keep F0 H0 where
  goes := fun i F H h hi l d k => by
    obtain ⟨xs, sq, r⟩ := hk F H l
    rw [enD_length] at hi
    exact ⟨xs, xs[i]'(by rw [r.length]; exact hi), sq, by simp⟩
  stops := fun F H h l d k => by
    obtain ⟨xs, sq, r⟩ := hk F H l
    exact ⟨xs, sq, by rw [r.length, enD_length]; exact Nat.le_refl _⟩
  yields := fun i F H h x H' hi l d k y => by
    obtain ⟨xs, sq, r⟩ := hk F H l
    obtain ⟨T, x, e1, e2, e3, y⟩ := y
    subst e1 e3
    obtain ⟨d', e4, e5⟩ := r.getV (y xs sq)
    exact ⟨Le.new e2, d.new e2, _, by rw [enD_get, e4]; rfl, .tup upd_same (.cons (.int _) (.cons (e5.le (Le.new e2)) .nil))⟩
theorem Rp.seqE {K : PySem.W.Frag} {F : Addr → Prop} {H : Hp} {h : DHp} {v : V} {d : D} {ds : List D} (r : Rp K F H v d) (hd : Hd K F H h) (e : seqD h d = some ds) :
    ∃ a, v = .ref a ∧ (((∃ xs, SqL K H a xs) ∧ Wk K (Ite K a) (enD ds) (fun h => seqD h d = some ds) F H) ∨ ((∃ xs, SqT K H a xs) ∧ Wk K (IteT K a) (enD ds) (fun h => seqD h d = some ds) F H)) := by
  cases r with
  | tup e1 rs =>
    simp only [seqD, Option.some.injEq] at e; subst e
    exact ⟨_, rfl, .inr ⟨⟨_, SqT.of e1⟩, wk_enumT fun F2 H2 l => ⟨_, SqT.of (l.tup _ _ e1), rs.le l⟩⟩⟩
  | ktup e1 rs =>
    simp only [seqD, Option.some.injEq] at e; subst e
    exact ⟨_, rfl, .inr ⟨⟨_, e1.sq⟩, wk_enumT fun F2 H2 l => ⟨_, (KTup.le l e1).sq, rs.le l⟩⟩⟩
  | klst e1 rs =>
    simp only [seqD, Option.some.injEq] at e; subst e
    exact ⟨_, rfl, .inl ⟨⟨_, .inr e1⟩, wk_enumL fun F2 H2 h l _ _ => ⟨_, .inr e1, rs.le l⟩⟩⟩
  | lst e1 rs =>
    simp only [seqD, Option.some.injEq] at e; subst e
    exact ⟨_, rfl, .inl ⟨⟨_, e1.sq⟩, wk_enumL fun F2 H2 h l _ _ => ⟨_, (e1.le l).sq, rs.le l⟩⟩⟩
  | ref a =>
    obtain ⟨⟨xs, h1, rs⟩, _⟩ := hd.cell a _ (rdL_of e)
    refine ⟨a, rfl, .inl ⟨⟨xs, SqL.of h1⟩, wk_enumL fun F2 H2 h2 l d2 k => ?_⟩⟩
    obtain ⟨⟨ys, h3, r3⟩, _⟩ := d2.cell a _ (rdL_of k)
    exact ⟨ys, SqL.of h3, r3⟩
  | _ => simp [seqD] at e
def rEnum (ra : DA) : DI := fun ρ h R => ra ρ h fun xs h1 => ∃ x ds, xs = [x] ∧ seqD h1 x = some ds ∧ R (enD ds) (fun h => seqD h x = some ds) h1
section
variable {X : Cx} {e : Expr} {ra : DA} {p pos tpos : Pos} {elts : List Expr} {kk : Nat} {sc : Scope}
theorem di_enum (hs0 : X.env.scope = sc) (hg : sc.names.lookup (Str.ofString "enumerate") = some .globalImplicit) (hm : X.mg "enumerate" = none) (ha : PDA X [e] ra) (hs : starEach [e] X.env = [(false, eval e X.env)] := by rfl) :
    PDI X (.Tuple elts kk tpos) (.Call (.Name "enumerate" p) [e] [] pos) (rEnum ra) := impPI (pi_enumA (by subst hs0; exact hg) hm ha hs) fun σ H R q => by
  obtain ⟨F, ρ, h, R', s, hd, q, k⟩ := q
  refine ⟨F, ρ, h, _, s, hd, q, fun F1 ds h1 vs H1 l1 rs d1 q1 => ?_⟩
  obtain ⟨x, ys, e1, e2, q1⟩ := q1
  subst e1
  cases rs with
  | cons r t =>
    cases t
    obtain ⟨a, e3, w⟩ := r.seqE d1 e2
    subst e3
    refine ⟨a, rfl, ?_⟩
    rcases w with ⟨sq, w⟩ | ⟨sq, w⟩
    · exact .inl ⟨sq, k F1 _ _ h1 H1 _ l1 d1 w q1⟩
    · exact .inr ⟨sq, k F1 _ _ h1 H1 _ l1 d1 w q1⟩
end
end DX

set_option maxRecDepth 100000
set_option maxHeartbeats 4000000
namespace DX
open PySem PySem.Spec PyProof.Rows L2

/-! ### dict(zip(list, tuple)): what PySem's PairArg.zip is for two lists, for a list and a tuple -/
section
variable {prog : Program} {w : World} {A : Around} {E : Value → Shared → Prop} {s : Shared}
theorem sepLT {z TI TO i1 i2 l1 l2 : Addr} (D : ZipApart z TI TO i1 i2 l1 l2) : ZipSep2 z TI TO i1 i2 [i1, l1] [i2, l2] where
  TIz := D.TIz
  TOz := D.TOz
  TITO := D.TITO
  TIi1 := D.TIi1
  mem1 := List.mem_cons_self
  zf1 := by simp [D.i1z.symm, D.l1z.symm]
  Tf1 := by simp [D.TOi1, D.l1TO.symm]
  TIi2 := D.TIi2
  mem2 := List.mem_cons_self
  zf2 := by simp [D.i2z.symm, D.l2z.symm]
  Tf2 := by simp [D.TOi2, D.l2TO.symm]
  sep1_2 := by simp [D.i12, D.l2i1.symm]
  sep2_1 := by simp [D.i12.symm, D.l1i2.symm]
theorem zip_next_itemLT_held {z TI TO T i1 i2 l1 l2 : Addr} {f : Bool} {uT : Obj} {k1 k2 : Nat} {us vs : Array Value} {x y : Value} {Q : Value → Shared → Prop} (D : ZipApart z TI TO i1 i2 l1 l2)
    (hz : IsZipHeld s.heap z TI TO T f) (hT : s.heap.get? T = some uT) (eTI : IsPair s.heap TI (.ref i1) (.ref i2))
    (h1 : s.heap.IsListIter i1 l1 k1) (h2 : s.heap.IsTupleIter i2 l2 k2) (el1 : s.heap.IsList l1 us) (el2 : s.heap.IsTuple l2 vs) (ax : us[k1]? = some x) (ay : vs[k2]? = some y)
    (fin : ∀ h', IsZipHeld h' z TI TO T true → h'.IsListIter i1 l1 (k1 + 1) → h'.IsTupleIter i2 l2 (k2 + 1) → IsPair h' s.heap.objs.size x y → h'.objs.size = s.heap.objs.size + 1 →
      (∀ c o, c ≠ z → c ≠ i1 → c ≠ i2 → s.heap.get? c = some o → h'.get? c = some o) → Q (.ref s.heap.objs.size) { s with heap := h' }) :
    wpAny (model prog w) A (Builtin.«zip.__next__» ⟨[.ref z], []⟩) (fun fin s' => ∃ v, fin = .done (.ret v) ∧ Q v s') E s := by
  show wpAny _ _ (field (.ref z) 2 >>= _) _ _ _
  refine wpAny_bind (wpAny_field hz rfl (x := .bool false) rfl ?_); show wpAny _ _ (field (.ref z) 3 >>= _) _ _ _
  refine wpAny_bind (wpAny_field hz rfl (x := .ref TI) rfl ?_); refine wpAny_bind (wpAny_seqItems eTI rfl ?_)
  show wpAny _ _ (Builtin.SmallTypes.ownedTupleIsFree (.ref z) >>= _) _ _ _
  refine wpAny_bind (wpAny_tupleHeld_zip hz hT fun g₁ wz₁ ws₁ => ?_); simp only [Bool.false_eq_true, if_false]
  refine wpAny_bind ?_
  rw [← Array.forIn_toList]
  simp only [List.forIn_cons, List.forIn_nil]
  refine wpAny_bind (wpAny_bind (wpAny_holding ?_))
  show wpAny _ _ (Builtin.SmallTypes.nextOf (.ref i1) >>= _) _ _ _
  refine wpAny_bind (wpAny_nextOf_list_item (s := { s with heap := g₁ }) (h1.extBut ws₁.extBut D.i1z) (el1.extBut ws₁.extBut D.l1z) ax fun g₂ h1₂ ws₂ => wpAny_pure ?_); refine wpAny_pure ?_
  refine wpAny_bind (wpAny_bind (wpAny_holding ?_))
  show wpAny _ _ (Builtin.SmallTypes.nextOf (.ref i2) >>= _) _ _ _
  refine wpAny_bind (wpAny_nextOf_tuple_item (s := { s with heap := g₂ }) ((h2.extBut ws₁.extBut D.i2z).extBut ws₂.extBut D.i12.symm) ((el2.extBut ws₁.extBut D.l2z).extBut ws₂.extBut D.l2i1) ay fun g₃ h2₃ ws₃ => wpAny_pure ?_); refine wpAny_pure (wpAny_pure ?_)
  show wpAny _ _ (newTuple [x, y] >>= _) _ _ _
  refine wpAny_bind (wpAny_newTuple ?_); have esz : g₃.objs.size = s.heap.objs.size := by rw [ws₃.1, ws₂.1, ws₁.1]
  have hz₃ : IsZipHeld g₃ z TI TO T true := ws₃.extBut _ _ D.i2z.symm (ws₂.extBut _ _ D.i1z.symm wz₁)
  have kp : ∀ c o, c ≠ z → c ≠ i1 → c ≠ i2 → s.heap.get? c = some o → g₃.get? c = some o := fun c o c1 c2 c3 e => ws₃.extBut _ _ c3 (ws₂.extBut _ _ c2 (ws₁.extBut _ _ c1 e))
  have h1₃ : g₃.IsListIter i1 l1 (k1 + 1) := h1₂.extBut ws₃.extBut D.i12
  refine wpAny_pure ⟨_, rfl, ?_⟩
  show Q (.ref g₃.objs.size) _
  have hp : IsPair (g₃.push { cls := .type "tuple", data := .seq #[x, y] }) g₃.objs.size x y := Heap.get?_push_size _ rfl
  have wz4 : (g₃.push { cls := .type "tuple", data := .seq #[x, y] }).objs.size = g₃.objs.size + 1 := Heap.size_push ..
  rw [esz] at hp wz4 ⊢
  exact fin _ (Heap.get?_push_of_some _ hz₃) (h1₃.at fun o e => Heap.get?_push_of_some _ e) (h2₃.at fun o e => Heap.get?_push_of_some _ e) hp wz4 fun c o c1 c2 c3 e => Heap.get?_push_of_some _ (kp c o c1 c2 c3 e)

theorem zip_next_endLT_held {z TI TO T i1 i2 l1 l2 : Addr} {f : Bool} {uT : Obj} {k1 k2 : Nat} {us vs : Array Value} {Q : Fin → Shared → Prop} (hh : A.handled = none) (D : ZipApart z TI TO i1 i2 l1 l2)
    (hz : IsZipHeld s.heap z TI TO T f) (hT : s.heap.get? T = some uT) (eTI : IsPair s.heap TI (.ref i1) (.ref i2))
    (h1 : s.heap.IsListIter i1 l1 k1) (h2 : s.heap.IsTupleIter i2 l2 k2) (el1 : s.heap.IsList l1 us) (el2 : s.heap.IsTuple l2 vs) (lend : us[k1]? = none ∨ vs[k2]? = none)
    (err : ∀ h' e, (∀ c o, c ≠ z → c ≠ i1 → c ≠ i2 → s.heap.get? c = some o → h'.get? c = some o) → (∃ o, h'.get? e = some o ∧ o.cls = .type "StopIteration") → E (.ref e) { s with heap := h' }) :
    wpAny (model prog w) A (Builtin.«zip.__next__» ⟨[.ref z], []⟩) Q E s := by
  show wpAny _ _ (field (.ref z) 2 >>= _) _ _ _
  refine wpAny_bind (wpAny_field hz rfl (x := .bool false) rfl ?_); show wpAny _ _ (field (.ref z) 3 >>= _) _ _ _
  refine wpAny_bind (wpAny_field hz rfl (x := .ref TI) rfl ?_); refine wpAny_bind (wpAny_seqItems eTI rfl ?_)
  show wpAny _ _ (Builtin.SmallTypes.ownedTupleIsFree (.ref z) >>= _) _ _ _
  refine wpAny_bind (wpAny_tupleHeld_zip hz hT fun g₁ wz₁ ws₁ => ?_); simp only [Bool.false_eq_true, if_false]
  refine wpAny_bind ?_
  rw [← Array.forIn_toList]
  simp only [List.forIn_cons, List.forIn_nil]
  refine wpAny_bind (wpAny_bind (wpAny_holding ?_))
  show wpAny _ _ (Builtin.SmallTypes.nextOf (.ref i1) >>= _) _ _ _
  cases ax : us[k1]? with
  | none =>
    refine wpAny_bind (wpAny_nextOf_list_end (s := { s with heap := g₁ }) hh (h1.extBut ws₁.extBut D.i1z) (el1.extBut ws₁.extBut D.l1z) ax fun g₂ e ws₂ he => ?_)
    exact err g₂ e (fun c o c1 c2 _ x => ws₂ _ _ c2 (ws₁.extBut _ _ c1 x)) he
  | some x =>
    have ay : vs[k2]? = none := by rcases lend with h | h; rw [ax] at h; cases h; exact h
    refine wpAny_bind (wpAny_nextOf_list_item (s := { s with heap := g₁ }) (h1.extBut ws₁.extBut D.i1z) (el1.extBut ws₁.extBut D.l1z) ax fun g₂ h1₂ ws₂ => wpAny_pure ?_)
    refine wpAny_pure ?_
    refine wpAny_bind (wpAny_bind (wpAny_holding ?_))
    show wpAny _ _ (Builtin.SmallTypes.nextOf (.ref i2) >>= _) _ _ _
    refine wpAny_bind (wpAny_nextOf_tuple_end (s := { s with heap := g₂ }) hh ((h2.extBut ws₁.extBut D.i2z).extBut ws₂.extBut D.i12.symm) ((el2.extBut ws₁.extBut D.l2z).extBut ws₂.extBut D.l2i1) ay fun g₃ e ws₃ he => ?_)
    exact err g₃ e (fun c o c1 c2 c3 x => ws₃ _ _ c3 (ws₂.extBut _ _ c2 (ws₁.extBut _ _ c1 x))) he

theorem nextZip_itemLT_held {z TI TO T i1 i2 l1 l2 : Addr} {f : Bool} {uT : Obj} {k1 k2 : Nat} {us vs : Array Value} {x y : Value} {Q : Option Value → Shared → Prop} (D : ZipApart z TI TO i1 i2 l1 l2)
    (hz : IsZipHeld s.heap z TI TO T f) (hT : s.heap.get? T = some uT) (eTI : IsPair s.heap TI (.ref i1) (.ref i2))
    (h1 : s.heap.IsListIter i1 l1 k1) (h2 : s.heap.IsTupleIter i2 l2 k2) (el1 : s.heap.IsList l1 us) (el2 : s.heap.IsTuple l2 vs) (ax : us[k1]? = some x) (ay : vs[k2]? = some y)
    (fin : ∀ h', IsZipHeld h' z TI TO T true → h'.IsListIter i1 l1 (k1 + 1) → h'.IsTupleIter i2 l2 (k2 + 1) → IsPair h' s.heap.objs.size x y → h'.objs.size = s.heap.objs.size + 1 →
      (∀ c o, c ≠ z → c ≠ i1 → c ≠ i2 → s.heap.get? c = some o → h'.get? c = some o) → Q (some (.ref s.heap.objs.size)) { s with heap := h' }) :
    wpAny (model prog w) A (pyNext (.ref z)) Q E s := by
  have tyz : s.TypeIs (.ref z) "zip" := ⟨_, hz, rfl⟩
  unfold pyNext
  exact wpAny_bind (wpAny_attempt (wpAny_callSpecial?_slot (name := Str.ofString "__next__") tyz F.slot_zip_next
    (wpAny_call_entry F.slot_zip_next tyz F.entry_zip_next
      (zip_next_itemLT_held D hz hT eTI h1 h2 el1 el2 ax ay fun h' a1 a3 a4 a5 a6 a7 => wpAny_pure (fin h' a1 a3 a4 a5 a6 a7)) (F.args_zip_next_1 _))))
theorem nextZip_endLT_held {z TI TO T i1 i2 l1 l2 : Addr} {f : Bool} {uT : Obj} {k1 k2 : Nat} {us vs : Array Value} {Q : Option Value → Shared → Prop} (hh : A.handled = none) (D : ZipApart z TI TO i1 i2 l1 l2)
    (hz : IsZipHeld s.heap z TI TO T f) (hT : s.heap.get? T = some uT) (eTI : IsPair s.heap TI (.ref i1) (.ref i2))
    (h1 : s.heap.IsListIter i1 l1 k1) (h2 : s.heap.IsTupleIter i2 l2 k2) (el1 : s.heap.IsList l1 us) (el2 : s.heap.IsTuple l2 vs) (lend : us[k1]? = none ∨ vs[k2]? = none)
    (fin : ∀ h', (∀ c o, c ≠ z → c ≠ i1 → c ≠ i2 → s.heap.get? c = some o → h'.get? c = some o) → Q none { s with heap := h' }) : wpAny (model prog w) A (pyNext (.ref z)) Q E s := by
  have tyz : s.TypeIs (.ref z) "zip" := ⟨_, hz, rfl⟩
  unfold pyNext
  refine wpAny_bind (wpAny_attempt (wpAny_callSpecial?_slot (name := Str.ofString "__next__") tyz F.slot_zip_next
    (wpAny_call_entry F.slot_zip_next tyz F.entry_zip_next (zip_next_endLT_held hh D hz hT eTI h1 h2 el1 el2 lend fun h' e kp he => ?_) (F.args_zip_next_1 _))))
  obtain ⟨o, ho, hc⟩ := he
  refine wpAny_bind (wpAny_isInstance (T := "StopIteration") (b := true) ⟨o, ho, hc⟩ isSubtype_stop ?_); exact wpAny_pure (fin _ kp)
end
section
variable {prog : Program} {w : World}
theorem zipLT_arg (z TI TO i1 i2 l1 l2 : Addr) (D : ZipApart z TI TO i1 i2 l1 l2) (us vs : Array Value) :
    PairArg prog w "zip" z [z, TI, TO, i1, i2, l1, l2] [z, TO, i1, i2] (min us.size vs.size) (fun i k v => us[i]? = some k ∧ vs[i]? = some v)
      (fun h => IsZip h z TI TO .none ∧ IsPair h TI (.ref i1) (.ref i2) ∧ (∃ a b, IsPair h TO a b) ∧ h.IsListIter i1 l1 0 ∧ h.IsTupleIter i2 l2 0 ∧ h.IsList l1 us ∧ h.IsTuple l2 vs) where
  type := fun s ok => ⟨_, ok.1, rfl⟩
  notDict := by decide
  keep := fun h h' ok kp => by
    obtain ⟨hz, eTI, ⟨a, b, eTO⟩, h1, h2, el1, el2⟩ := ok
    exact ⟨kp _ _ hz, kp _ _ eTI, ⟨a, b, kp _ _ eTO⟩, h1.at fun o e => kp _ o e, h2.at fun o e => kp _ o e, el1.at fun o e => kp _ o e, el2.at fun o e => kp _ o e⟩
  there := fun h ok b hb => by
    obtain ⟨hz, eTI, ⟨a, c, eTO⟩, ⟨o1, h1, _⟩, ⟨o2, h2, _⟩, ⟨o3, el1, _⟩, ⟨o4, el2, _⟩⟩ := ok
    simp only [List.mem_cons, List.not_mem_nil, or_false] at hb
    rcases hb with rfl | rfl | rfl | rfl | rfl | rfl | rfl
    all_goals first | exact ⟨_, hz⟩ | exact ⟨_, eTI⟩ | exact ⟨_, eTO⟩ | exact ⟨_, h1⟩ | exact ⟨_, h2⟩ | exact ⟨_, el1⟩ | exact ⟨_, el2⟩
  sub := fun b hb => by simp at hb ⊢; rcases hb with rfl | rfl | rfl | rfl <;> simp
  noKeys := fun A s Q E hA ok h => getAttrOr_miss_zip ok.1 rfl rfl rfl zip_no_keys (by decide +kernel) hA h
  iter := fun A s d Q E hA ok hd nfp h => by
    obtain ⟨hz, eTI, ⟨a, b, eTO⟩, h1, h2, el1, el2⟩ := ok
    simp only [List.mem_cons, List.not_mem_nil, or_false, not_or] at nfp
    obtain ⟨dz, dTI, dTO, di1, di2, dl1, dl2⟩ := nfp
    refine wpAny_pyIter_zip hz (h z [z, TO, i1, i2] (fun i h => IsPair h TI (.ref i1) (.ref i2) ∧ h.IsListIter i1 l1 i ∧ h.IsTupleIter i2 l2 i ∧ h.IsList l1 us ∧ h.IsTuple l2 vs ∧
      ((IsZip h z TI TO .none ∧ ∃ a b, IsPair h TO a b) ∨ ∃ T f uT, IsZipHeld h z TI TO T f ∧ h.get? T = some uT ∧ T ≠ z ∧ T ≠ i1 ∧ T ≠ i2 ∧ T ≠ d)) s.heap s.toks ?_
      ⟨eTI, h1, h2, el1, el2, .inl ⟨hz, a, b, eTO⟩⟩ (fun _ _ e => e) fun b hb => .inl hb)
    exact {
      off := fun hm => by
        simp only [List.mem_cons, List.not_mem_nil, or_false] at hm
        rcases hm with e | e | e | e
        · exact dz e
        · exact dTO e
        · exact di1 e
        · exact di2 e
      frame := fun i g₁ g₂ st kp => by
        obtain ⟨eTI, h1, h2, el1, el2, hz⟩ := st
        refine ⟨kp _ _ (Ne.symm dTI) eTI, h1.at fun o e => kp _ o (Ne.symm di1) e, h2.at fun o e => kp _ o (Ne.symm di2) e, el1.at fun o e => kp _ o (Ne.symm dl1) e, el2.at fun o e => kp _ o (Ne.symm dl2) e, ?_⟩
        rcases hz with ⟨hz, a, b, eTO⟩ | ⟨T, f, uT, hz, hT, r1, r2, r3, r4⟩
        · exact .inl ⟨kp _ _ (Ne.symm dz) hz, a, b, kp _ _ (Ne.symm dTO) eTO⟩
        · exact .inr ⟨T, f, uT, kp _ _ (Ne.symm dz) hz, kp _ _ r4 hT, r1, r2, r3, r4⟩
      item := fun i t₁ R₁ U₁ hi st hds fin => by
        obtain ⟨eTI, h1, h2, el1, el2, hz⟩ := st
        have lx : i < us.size := Nat.lt_of_lt_of_le hi (Nat.min_le_left ..)
        have ly : i < vs.size := Nat.lt_of_lt_of_le hi (Nat.min_le_right ..)
        have ex := Array.getElem?_eq_getElem lx
        have ey := Array.getElem?_eq_getElem ly
        have lt : ∀ {c o}, t₁.heap.get? c = some o → t₁.heap.objs.size ≠ c := fun e => Nat.ne_of_gt (Heap.lt_size e)
        have n1 : t₁.heap.objs.size ≠ i1 := let ⟨_, e, _⟩ := h1; lt e
        have n2 : t₁.heap.objs.size ≠ i2 := let ⟨_, e, _⟩ := h2; lt e
        rcases hz with ⟨hz, a, b, eTO⟩ | ⟨T, f, uT, hz, hT, r1, r2, r3, r4⟩
        · refine wpAny_pyNext_zipD2_item (sepLT D) (Draws.list (A := A.in1) hA i1 l1 D.l1i1 us) (Draws.tuple (A := A.in1) hA i2 l2 D.l2i2 vs) hz eTI eTO ⟨h1, el1⟩ ⟨h2, el2⟩ lx ly fun x1 x2 h' tk p1 p2 a1 a2 a3 a4 a5 a6 kp => ?_
          exact fin t₁.heap.objs.size _ _ h' tk ⟨p1, p2⟩ (.inl ⟨_, a5, rfl, _, rfl⟩)
            ⟨kp _ _ D.TIz D.TITO D.TIi1 D.TIi2 eTI, a3.1, a4.1, el1.at fun o e => kp _ o D.l1z D.l1TO D.l1i1 D.l1i2 e, el2.at fun o e => kp _ o D.l2z D.l2TO D.l2i1 D.l2i2 e,
              .inr ⟨t₁.heap.objs.size, false, _, a1, a5, lt hz, n1, n2, Nat.ne_of_gt hds⟩⟩
            fun c o hc e => kp c o (fun x => hc (by simp [x])) (fun x => hc (by simp [x])) (fun x => hc (by simp [x])) (fun x => hc (by simp [x])) e
        · refine nextZip_itemLT_held D hz hT eTI h1 h2 el1 el2 ex ey fun h' a1 a3 a4 a5 a6 kp => ?_
          exact fin t₁.heap.objs.size _ _ h' t₁.toks ⟨ex, ey⟩ (.inl ⟨_, a5, rfl, _, rfl⟩)
            ⟨kp _ _ D.TIz D.TIi1 D.TIi2 eTI, a3, a4, el1.at fun o e => kp _ o D.l1z D.l1i1 D.l1i2 e, el2.at fun o e => kp _ o D.l2z D.l2i1 D.l2i2 e,
              .inr ⟨T, true, uT, a1, kp _ _ r1 r2 r3 hT, r1, r2, r3, r4⟩⟩
            fun c o hc e => kp c o (fun x => hc (by simp [x])) (fun x => hc (by simp [x])) (fun x => hc (by simp [x])) e
      done := fun t₁ R₁ U₁ st fin => by
        obtain ⟨eTI, h1, h2, el1, el2, hz⟩ := st
        have lend : us[min us.size vs.size]? = none ∨ vs[min us.size vs.size]? = none := by
          rcases Nat.le_total us.size vs.size with h | h
          · exact .inl (Array.getElem?_eq_none (by rw [Nat.min_eq_left h]; exact Nat.le_refl _))
          · exact .inr (Array.getElem?_eq_none (by rw [Nat.min_eq_right h]; exact Nat.le_refl _))
        rcases hz with ⟨hz, a, b, eTO⟩ | ⟨T, f, uT, hz, hT, r1, r2, r3, r4⟩
        · exact wpAny_pyNext_zipD2_end (sepLT D) (Draws.list (A := A.in1) hA i1 l1 D.l1i1 us) (Draws.tuple (A := A.in1) hA i2 l2 D.l2i2 vs) hz eTI eTO ⟨h1, el1⟩ ⟨h2, el2⟩ (Nat.min_le_left ..) (Nat.min_le_right ..) (by omega) fun h' tk kp => fin h' tk fun c o hc e => kp c o (fun x => hc (by simp [x])) (fun x => hc (by simp [x])) (fun x => hc (by simp [x])) (fun x => hc (by simp [x])) e
        · exact nextZip_endLT_held hA D hz hT eTI h1 h2 el1 el2 lend fun h' kp => fin h' t₁.toks fun c o hc e => kp c o (fun x => hc (by simp [x])) (fun x => hc (by simp [x])) (fun x => hc (by simp [x])) e }
end

section
variable {X : Cx}
/-- the pairs of keys and worths, as they lie -/
theorem zipKV (P : Program) (w : World) : ∀ {kvs : List (Key × V)} {us vs : List Value}, Vals (kvs.map fun p => kV p.1) us → Vals (kvs.map (·.2)) vs → ∃ prs : List (Key × Value), KV kvs prs ∧ prs.length = kvs.length ∧ prs.length = us.length ∧ prs.length = vs.length ∧
    ∀ (i : Nat) (k v : Value), us[i]? = some k → vs[i]? = some v → ∃ y : Key, prs[i]? = some (y, v) ∧ keyIs y k = true
  | [], us, vs, r, t => by
    cases r; cases t
    exact ⟨[], .nil, rfl, rfl, rfl, fun i k v e => by simp at e⟩
  | kv :: kvs, us, vs, r, t => by
    rw [List.map_cons] at r t
    cases r with
    | @cons _ u _ us r1 r2 =>
      cases t with
      | @cons _ v0 _ vs t1 t2 =>
        obtain ⟨prs, q1, q2, q3, q4, q5⟩ := zipKV P w r2 t2
        refine ⟨(kv.1, v0) :: prs, .cons ⟨rfl, t1⟩ q1, by simp [q2], by simp [q3], by simp [q4], fun i k v e1 e2 => ?_⟩
        cases i with
        | zero =>
          have e1 : u = k := by simpa using e1
          have e2 : v0 = v := by simpa using e2
          subst e1 e2
          exact ⟨kv.1, rfl, kV_is (P := P) (w := w) r1⟩
        | succ i =>
          obtain ⟨y, e3, e4⟩ := q5 i k v (by simpa using e1) (by simpa using e2)
          exact ⟨y, by simpa using e3, e4⟩
def tDZ (K : PySem.W.Frag) (ta : TA) : TE := fun σ H Q => ta σ H fun vs H1 => ∃ (a b : Addr) (kvs : List (Key × V)), vs = [.ref a, .ref b] ∧ SqL K H1 a (kvs.map fun p => kV p.1) ∧ SqT K H1 b (kvs.map (·.2)) ∧ ∀ p, H1 p = none → Q (.ref p) (upd H1 p (.dK (mergeK [] kvs)))
theorem pe_dictzip {e e2 : Expr} {ta : TA} {p1 p2 pos1 pos2 : Pos} (hc : X.calm = true) (g1 : Gl X "dict") (m1 : X.mg "dict" = none) (g2 : Gl X "zip") (m2 : X.mg "zip" = none) (ha : PA X [e, e2] ta)
    (hs1 : starEach [.Call (.Name "zip" p2) [e, e2] [] pos2] X.env = [(false, eval (.Call (.Name "zip" p2) [e, e2] [] pos2) X.env)] := by rfl)
    (hs2 : starEach [e, e2] X.env = (false, eval e X.env) :: starEach [e2] X.env := by rfl) (hpl2 : (backTo pos2 (starEach [e2] X.env)).any (·.1) = false := by rfl) :
    PE X (.Call (.Name "dict" p1) [.Call (.Name "zip" p2) [e, e2] [] pos2] [] pos1) (tDZ X.K ta) := by
  refine ⟨fun pins s σ H Q I h => ?_⟩
  refine wpAny_Call_Name_kw (ld_blt I g1 m1 boot_dict' ?_)
  refine PyProof.Rows.callWith_type1 (PyProof.Rows.args_cons ?_ hs1) hs1 rfl
  refine Call_ (ld_blt I g2 m2 boot_zip' (PyProof.Rows.callWith_type1 (thn (ha.run pos2 pins s σ H _ I h) fun us s1 ⟨vs, H1, I1, r1, q1⟩ => ?_) hs2 hpl2))
  obtain ⟨a, b, kvs, ex, qa, qb, q⟩ := q1
  subst ex
  cases r1 with
  | cons r rr =>
    cases rr with
    | cons r' rr =>
      cases rr; cases r; cases r'
      obtain ⟨ia, ra, pa, za⟩ := I1.list qa
      obtain ⟨ib, rb, pb, zb⟩ := I1.tuple qb
      have ta' : s1.heap.IsTuple b ib.toArray := pb
      have la : a < s1.heap.objs.size := by obtain ⟨_, q, _⟩ := id pa.isList; exact Heap.lt_size q
      have lb : b < s1.heap.objs.size := by obtain ⟨_, q, _⟩ := id ta'; exact Heap.lt_size q
      refine zip_begins2 (begins_list a ia.toArray) (begins_tuple b ib.toArray) pa.isList ta' fun g hz hTI hTO e1 e2 gz gk => ?_
      refine PyProof.Rows.args_nil ?_
      obtain ⟨prs, k1, k2, k3, k4, k5⟩ := zipKV X.prog X.w ra rb
      have hlen : prs.length ≤ sizeLine := by rw [k2]; simpa using za
      refine PySem.call_dict_pairs (knd := mixKind X.prog X.w) (kvs := prs) (zipLT_arg (prog := X.prog) (w := X.w) _ _ _ _ _ a b (PySem.W.ktu_apart s1.heap.objs.size a b la lb) ia.toArray ib.toArray) (I1.ok.hd hc)
        ⟨hz, hTI, ⟨_, _, hTO⟩, ⟨_, e1, rfl, rfl⟩, ⟨_, e2, rfl, rfl⟩, pa.isList.at fun o z => gk _ o z, ta'.at fun o z => gk _ o z⟩ ⟨by simp [← k3, ← k4], fun i k v ⟨e3, e4⟩ => k5 i k v (by simpa using e3) (by simpa using e4)⟩ (by simp [← k3, ← k4]; exact hlen) fun g2 tk hd gk2 => ?_
      have old : ∀ c o, s1.heap.get? c = some o → g2.get? c = some o := fun c o z => by
        have hl := Heap.lt_size z
        refine gk2 c o (fun m => ?_) (gk c o z)
        simp only [List.mem_cons, List.not_mem_nil, or_false] at m
        rcases m with m | m | m | m
        · exact absurd hl (by rw [m]; exact Nat.not_lt.mpr (Nat.le_add_right _ _))
        · exact absurd hl (by rw [m]; exact Nat.not_lt.mpr (Nat.le_add_right _ _))
        · exact absurd hl (by rw [m]; exact Nat.lt_irrefl _)
        · exact absurd hl (by rw [m]; exact Nat.not_lt.mpr (Nat.le_add_right _ _))
      have hle : s1.heap.objs.size ≤ g.objs.size := by rw [gz]; exact Nat.le_add_right _ _
      have hm : (g.objs.size == sysModules) = false := beq_eq_false_iff_ne.mpr (Nat.ne_of_gt (Nat.lt_of_lt_of_le I1.big hle))
      have hl2 : (mergeK [] kvs).length ≤ sizeLine := by
        refine Nat.le_trans (length_mergeK kvs []) ?_
        rw [List.length_nil, Nat.zero_add, ← k2]
        exact hlen
      exact ⟨.ref g.objs.size, upd H1 g.objs.size (.dK (mergeK [] kvs)), I1.laid (t' := tk) old hle (show ObjOk X.prog X.w _ _ _ (.dK (mergeK [] kvs)) from ⟨hl2, hm, merged [] prs, KV.merge k1 .nil, hd⟩), rfl, q _ (I1.hok.fresh hle)⟩
def rDictZip (r1 r2 : DE) : DE := fun ρ h Q => rCons r1 (rCons r2 rNil) ρ h fun ds h2 => ∃ x y xs ys ks, ds = [x, .tup ys] ∧ y = D.tup ys ∧ seqL h2 x = some xs ∧ keysD xs = some ks ∧ ks.length = ys.length ∧ ∀ p, h2 p = none → Q (.ref p) (updD h2 p (.dK (mergeD [] (ks.zip ys))))
theorem zipKs {K : PySem.W.Frag} {F : Addr → Prop} {H : Hp} : ∀ {ks : List DK} {xs ys : List D} {us vs : List V}, keysD xs = some ks → ks.length = ys.length → Rps K F H us xs → Rps K F H vs ys → ∃ kvs : List (Key × V), us = (kvs.map fun p => kV p.1) ∧ vs = kvs.map (·.2) ∧ Paired (RKv K F H) kvs (ks.zip ys)
  | [], xs, ys, us, vs, e, hl, r, t => by
    cases ys with
    | nil =>
      cases t
      cases xs with
      | nil => cases r; exact ⟨[], rfl, rfl, .nil⟩
      | cons x xs => simp only [keysD] at e; split at e <;> cases e
    | cons _ _ => simp at hl
  | k :: ks, xs, ys, us, vs, e, hl, r, t => by
    cases ys with
    | nil => simp at hl
    | cons y ys =>
      cases xs with
      | nil => cases e
      | cons x xs =>
        simp only [keysD] at e
        cases e1 : keyD x with
        | none => rw [e1] at e; cases e
        | some k' =>
          cases e2 : keysD xs with
          | none => rw [e1, e2] at e; cases e
          | some ks' =>
            rw [e1, e2] at e
            have e' : k' :: ks' = k :: ks := Option.some.inj e
            cases e'
            cases r with
            | cons r1 r2 =>
              cases t with
              | cons t1 t2 =>
                obtain ⟨kvs, q1, q2, q3⟩ := zipKs e2 (by simpa using hl) r2 t2
                exact ⟨(toKey k, _) :: kvs, by rw [List.map_cons, ← q1, r1.key e1], by rw [List.map_cons, ← q2], .cons ⟨rfl, t1⟩ q3⟩
theorem de_dictzip {e e2 : Expr} {ra rb : DE} {p1 p2 pos1 pos2 : Pos} (hc : X.calm = true) (g1 : Gl X "dict") (m1 : X.mg "dict" = none) (g2 : Gl X "zip") (m2 : X.mg "zip" = none) (ha : PDE X e ra) (hb : PDE X e2 rb)
    (hs1 : starEach [.Call (.Name "zip" p2) [e, e2] [] pos2] X.env = [(false, eval (.Call (.Name "zip" p2) [e, e2] [] pos2) X.env)] := by rfl)
    (hs2 : starEach [e, e2] X.env = (false, eval e X.env) :: starEach [e2] X.env := by rfl) (hpl2 : (backTo pos2 (starEach [e2] X.env)).any (·.1) = false := by rfl) (hs3 : starEach [e2] X.env = (false, eval e2 X.env) :: starEach [] X.env := by rfl) :
    PDE X (.Call (.Name "dict" p1) [.Call (.Name "zip" p2) [e, e2] [] pos2] [] pos1) (rDictZip ra rb) := impE (pe_dictzip hc g1 m1 g2 m2 (da_cons ha (da_cons hb da_nil hs3) hs2) hs1 hs2 hpl2) fun σ H Q q => by
  obtain ⟨F, ρ, h, Q', s, hd, q, k⟩ := q
  refine ⟨F, ρ, h, _, s, hd, q, fun F1 ds h1 vs H1 l1 rs d1 q1 => ?_⟩
  obtain ⟨x, y, xs, ys, ks, e1, e2, e3, e4, e5, q1⟩ := q1
  subst e1
  cases rs with
  | cons r1 r2 =>
    cases r2 with
    | cons r2 r3 =>
      cases r3
      obtain ⟨a, us, e6, e7, ru⟩ := r1.seqL d1 e3
      subst e6
      cases r2 with
      | @tup b vs _ e8 rv =>
        obtain ⟨kvs, q2, q3, q4⟩ := zipKs e4 e5 ru rv
        refine ⟨a, b, kvs, rfl, by rw [← q2]; exact .inl e7, by rw [← q3]; exact SqT.of e8, fun p np => ?_⟩
        exact k F1 _ _ _ _ (l1.trans (Le.new np)) (.ref p) (d1.add (c := .dK (mergeD [] (ks.zip ys))) np ⟨_, upd_same, merge_ok (Paired.mapP q4 fun _ _ z => ⟨z.1, z.2.le (Le.new np)⟩) .nil⟩) (q1 p (d1.none np))
theorem xdictzip {N : List Str} {sc : Scope} {kk : Nat} (C : Ct X N sc kk) (g1 : Gn sc "dict") (g2 : Gn sc "zip") {e e2 : Expr} {ra rb : DE} {p1 p2 pos1 pos2 : Pos} (m1 : X.mg "dict" = none) (m2 : X.mg "zip" = none) (ha : PDE X e ra) (hb : PDE X e2 rb)
    (hs1 : starEach [.Call (.Name "zip" p2) [e, e2] [] pos2] X.env = [(false, eval (.Call (.Name "zip" p2) [e, e2] [] pos2) X.env)] := by rfl)
    (hs2 : starEach [e, e2] X.env = (false, eval e X.env) :: starEach [e2] X.env := by rfl) (hpl2 : (backTo pos2 (starEach [e2] X.env)).any (·.1) = false := by rfl) (hs3 : starEach [e2] X.env = (false, eval e2 X.env) :: starEach [] X.env := by rfl) :
    PDE X (.Call (.Name "dict" p1) [.Call (.Name "zip" p2) [e, e2] [] pos2] [] pos1) (rDictZip ra rb) := de_dictzip C.calm (by have e := C.sc; subst e; exact g1.hg) m1 (by have e := C.sc; subst e; exact g2.hg) m2 ha hb hs1 hs2 hpl2 hs3
end
end DX

set_option maxRecDepth 100000
set_option maxHeartbeats 4000000
namespace DX
open PySem PySem.Spec PyProof.Rows L2
/-! ### sets of texts: what HandS.Set has of sets of ints, told of texts -/
def keyX (e : Int × Value) : Str := match e.2 with | .str k _ => k | _ => Str.empty
def GoodX (w : World) (e : Int × Value) : Prop := ∃ k tk, e.2 = Value.str k tk ∧ e.1 = hashStr w k

/-- texts in a set at a: S tells which, n how many; the table is one that may be walked -/
def SetX (w : World) (h : Heap) (a : Addr) (S : Str → Bool) (n : Nat) : Prop :=
  ∃ o es ep t, h.get? a = some o ∧ o.ExactSet ∧ o.data = .set es ep t ∧ (∀ e ∈ es.toList, GoodX w e) ∧ (es.toList.map keyX).Nodup ∧ (∀ k, S k = true ↔ k ∈ es.toList.map keyX) ∧
    es.size < scanBound ∧ t.fits es.size = true ∧ es.size = n ∧ Ris t.place.toList ∧ (w.params.followText "set-order" = true ∨ t.led = true)

section
variable {P : Program} {w : World} {h h' : Heap} {a : Addr} {S : Str → Bool} {n : Nat}

theorem SetX.at (R : SetX w h a S n) (k : ∀ o, h.get? a = some o → h'.get? a = some o) : SetX w h' a S n := by
  obtain ⟨o, es, ep, t, ho, r⟩ := R
  exact ⟨o, es, ep, t, k o ho, r⟩
theorem SetX.lt (R : SetX w h a S n) : a < h.objs.size := by
  obtain ⟨o, es, ep, t, ho, r⟩ := R
  exact Heap.lt_size ho
theorem SetX.congr {S' : Str → Bool} (R : SetX w h a S n) (e : ∀ k, S' k = S k) : SetX w h a S' n := by
  have q : S' = S := funext e
  rw [q]; exact R
theorem goodx_elems {l : List (Int × Value)} (g : ∀ e ∈ l, GoodX w e) : ElemsOf (PySem.strKind P w) l := fun e he => by
  obtain ⟨k, tk, h1, h2⟩ := g e he
  exact ⟨⟨k, by rw [h1]; exact strKind_is P w k tk, h2⟩, by rw [h1] <;> rfl⟩
theorem goodx_is {e : Int × Value} (g : GoodX w e) (k : Str) : (PySem.strKind P w).is k e.2 = true ↔ keyX e = k := by
  obtain ⟨k0, tk, h1, _⟩ := g
  unfold keyX
  rw [h1]
  show ((k0 == k) = true) ↔ k0 = k
  exact beq_iff_eq
theorem goodx_mem {l : List (Int × Value)} (g : ∀ e ∈ l, GoodX w e) (k : Str) : k ∈ l.map keyX ↔ ∃ e ∈ l, (PySem.strKind P w).is k e.2 = true := by
  rw [List.mem_map]
  constructor
  · rintro ⟨e, he, q⟩
    exact ⟨e, he, (goodx_is (g e he) k).2 q⟩
  · rintro ⟨e, he, q⟩
    exact ⟨e, he, (goodx_is (g e he) k).1 q⟩
theorem SetX.setOf (R : SetX w h a S n) : h.SetOf (PySem.strKind P w) a S n := by
  obtain ⟨o, es, ep, t, ho, hx, hd, g, nd, hm, hb, hf, hn, _⟩ := R
  exact ⟨o, es, ep, t, ho, hx, hd, goodx_elems g, fun k => (hm k).trans (goodx_mem g k), hb, hf, hn⟩
end

section
variable {P : Program} {w : World} {A : Around} {E : Value → Shared → Prop} {s : Shared} {a : Addr} {S : Str → Bool} {n : Nat}

/-! ### add -/
theorem storex_at {h : Heap} {a : Addr} {o : Obj} {es es' : Array (Int × Value)} {ep : Nat} {t t' : SetTable} (ho : h.get? a = some o) (hd : o.data = .set es ep t) :
    (h.update a (Obj.putSet es' t')).get? a = some { o with data := .set es' (ep + 1) t' } := by
  have q := Heap.get?_update_self (Obj.putSet es' t') ho (by rw [putSet_of es' t' hd]; rfl)
  rw [putSet_of es' t' hd] at q
  exact q

theorem setX_tail {g : Bool → Sem Unit} (hg : ∀ (b : Bool) (s₁ : Shared) (Q' : Unit → Shared → Prop), Q' () s₁ → wpAny (model P w) A (g b) Q' E s₁)
    {o : Obj} {es : Array (Int × Value)} {ep : Nat} {t : SetTable} (ho : s.heap.get? a = some o) (exs : o.ExactSet) (hd : o.data = .set es ep t)
    {es1 : Array (Int × Value)} {t2 : SetTable} {S' : Str → Bool} (g1 : ∀ e ∈ es1.toList, GoodX w e) (nd1 : (es1.toList.map keyX).Nodup) (m1 : ∀ k, S' k = true ↔ k ∈ es1.toList.map keyX)
    (bd1 : es1.size < scanBound) (ft2 : t2.fits es1.size = true) (hr : Ris t2.place.toList) (hl : w.params.followText "set-order" = true ∨ t2.led = true) {wasDummy : Bool} {R : Option Bool → Shared → Prop}
    (hR : ∀ h', Heap.SameBut a s.heap h' → SetX w h' a S' es1.size → R (some true) { s with heap := h' }) :
    wpAny (model P w) A (do
        storeSet a es1 t2
        if (!wasDummy && t2.tooFull) = true then do
            g (relayAll t2 es1 (SetTable.grown es1.size)).2.2
            storeSet a (relayAll t2 es1 (SetTable.grown es1.size)).1 (relayAll t2 es1 (SetTable.grown es1.size)).2.1
            pure (some true)
          else pure (some true)) R E s := by
  refine wpAny_bind (wpAny_storeSet_of ho hd ?_ (fits_of_scanBound bd1))
  have o1 := storex_at (es' := es1) (t' := t2) ho hd
  have sm1 := Heap.SameBut.update s.heap a (Obj.putSet es1 t2)
  split
  · have prm := relayAll_perm t2 es1 (SetTable.grown es1.size)
    have ft3 := relayAll_fits t2 es1 (SetTable.grown es1.size)
    have rs3 := relayAll_ris t2 es1 (SetTable.grown es1.size)
    have lq3 := relayAll_led t2 es1 (SetTable.grown es1.size)
    generalize relayAll t2 es1 (SetTable.grown es1.size) = Z at prm ft3 rs3 lq3 ⊢
    obtain ⟨es2, t3, gave⟩ := Z
    dsimp only at prm ft3 rs3 lq3 ⊢
    have hsz : es2.size = es1.size := by rw [← Array.length_toList, prm.length_eq, Array.length_toList]
    have bd2 : es2.size < scanBound := by rw [hsz]; exact bd1
    refine wpAny_bind (hg _ _ _ ?_)
    refine wpAny_bind (wpAny_storeSet_of o1 rfl ?_ (fits_of_scanBound bd2))
    have o2 := storex_at (es' := es2) (t' := t3) o1 rfl
    refine wpAny_pure (hR _ (sm1.trans (Heap.SameBut.update _ a _)) ?_)
    exact ⟨_, es2, _, t3, o2, exs, rfl, fun e he => g1 e (prm.mem_iff.mp he), (prm.map keyX).nodup_iff.mpr nd1, fun k => (m1 k).trans (prm.map keyX).mem_iff.symm, bd2, ft3, hsz, rs3,
      hl.imp id fun z => by rw [lq3]; exact z⟩
  · exact wpAny_pure (hR _ sm1 ⟨_, es1, _, t2, o1, exs, rfl, g1, nd1, m1, bd1, ft2, rfl, hr, hl⟩)

theorem setX_hashed {k : Str} {tk : Tok} {Q : Bool → Shared → Prop} (R : SetX w s.heap a S n) (room : n + 1 < scanBound)
    (hQ : ∀ h', Heap.SameBut a s.heap h' → SetX w h' a (fun j => S j || decide (j = k)) (if S k = true then n else n + 1) → Q (!S k) { s with heap := h' }) :
    wpAny (model P w) A (setAddHashed a (.str k tk) ((PySem.strKind P w).hash k)) Q E s := by
  obtain ⟨o, es, ep, t, ho, exs, hd, g, nd, hm, hb, hf, hn, hr, hl⟩ := R
  have isk : (PySem.strKind P w).is k (.str k tk) = true := strKind_is P w k tk
  have scn : (Value.str k tk).scannable = true := rfl
  have els : ElemsOf (PySem.strKind P w) es.toList := goodx_elems g
  unfold setAddHashed setAddHashedIn
  refine wpAny_holding (wpAny_bind (wpAny_setState_of ho hd hf ?_))
  dsimp only
  rw [byScan_of scn hb els]
  simp only [↓reduceIte]
  unfold setAddByScan
  refine wpAny_bind ?_
  refine wpAny_bind (wpAny_rule ?_)
  refine wpAny_bind (wpAny_setScan_of isk ho hd hf els ?_)
  cases fnd : List.findIdx? (fun e => (PySem.strKind P w).is k e.2) es.toList with
  | some j =>
    dsimp only
    obtain ⟨hj, pj, _⟩ := List.findIdx?_eq_some_iff_getElem.mp fnd
    have mem : S k = true := (hm k).2 ((goodx_mem (P := P) (w := w) g k).2 ⟨es.toList[j], List.getElem_mem hj, pj⟩)
    refine wpAny_pure (wpAny_pure ?_)
    have q := hQ s.heap (Heap.SameBut.refl a s.heap) ⟨o, es, ep, t, ho, exs, hd, g, nd, fun i => by
      rw [Bool.or_eq_true, decide_eq_true_eq, ← hm i]
      exact ⟨fun z => z.elim id (fun e => e ▸ mem), .inl⟩, hb, hf, by rw [if_pos mem]; exact hn, hr, hl⟩
    rw [mem] at q
    exact q
  | none =>
    dsimp only
    have nok : k ∉ es.toList.map keyX := fun z => by
      obtain ⟨e, he, q⟩ := (goodx_mem (P := P) (w := w) g k).1 z
      have c := List.findIdx?_eq_none_iff.mp fnd e he
      rw [q] at c
      cases c
    have mem : S k = false := by
      cases q : S k with
      | false => rfl
      | true => exact absurd ((hm k).1 q) nok
    have gvw : ∀ (b : Bool) {s₁ : Shared} {Q' : Unit → Shared → Prop}, Q' () s₁ → wpAny (model P w) A (match b with | true => rule "set.scan.the-table-gave-way" | false => pure ()) Q' E s₁ :=
      fun b s₁ Q' q => by cases b <;> first | exact wpAny_pure q | exact wpAny_rule q
    have prm := layNew_perm t es ((PySem.strKind P w).hash k) (.str k tk)
    have ft1 := layNew_fits t es ((PySem.strKind P w).hash k) (.str k tk)
    have rs1 := layNew_ris t es ((PySem.strKind P w).hash k) (.str k tk) hr
    have lq1 := layNew_led t es ((PySem.strKind P w).hash k) (.str k tk)
    generalize layNew t es ((PySem.strKind P w).hash k) (.str k tk) = Z at prm ft1 rs1 lq1 ⊢
    obtain ⟨es1, t1, wasDummy, gave⟩ := Z
    dsimp only at prm ft1 rs1 lq1 ⊢
    rw [Array.toList_push] at prm
    have pc : es1.toList.Perm (((PySem.strKind P w).hash k, Value.str k tk) :: es.toList) := prm.trans (List.perm_append_singleton _ _)
    have pk : (es1.toList.map keyX).Perm (k :: es.toList.map keyX) := pc.map keyX
    have g1 : ∀ e ∈ es1.toList, GoodX w e := fun e he => by
      rcases List.mem_cons.mp (pc.mem_iff.mp he) with z | z
      · rw [z]; exact ⟨k, tk, rfl, rfl⟩
      · exact g e z
    have nd1 : (es1.toList.map keyX).Nodup := pk.nodup_iff.mpr (List.nodup_cons.mpr ⟨nok, nd⟩)
    have m1 : ∀ i, (S i || decide (i = k)) = true ↔ i ∈ es1.toList.map keyX := fun i => by
      rw [Bool.or_eq_true, decide_eq_true_eq, hm i, pk.mem_iff, List.mem_cons]
      exact Or.comm
    have hsz : es1.size = n + 1 := by rw [← Array.length_toList, pc.length_eq, List.length_cons, Array.length_toList, hn]
    have bd1 : es1.size < scanBound := by rw [hsz]; exact room
    have ldd : w.params.followText "set-order" = true ∨ t1.led = true := hl.imp id fun z => by rw [lq1]; exact z
    have fin : ∀ h', Heap.SameBut a s.heap h' → SetX w h' a (fun j => S j || decide (j = k)) es1.size → Q true { s with heap := h' } := fun h' sb r => by
      have q := hQ h' sb
      rw [mem] at q
      rw [hsz] at r
      exact q r
    refine wpAny_bind (gvw _ ?_)
    split
    · refine wpAny_bind ?_
      rw [hashByValue_scannable 8 scn]
      refine wpAny_pure ?_
      refine setX_tail ?_ ho exs hd g1 nd1 m1 bd1 ?_ ?_ ?_ ?_
      · intro b s₁ Q' q; cases b <;> first | exact wpAny_pure q | exact wpAny_rule q
      · first | (split <;> first | exact ft1 | exact SetTable.fits_plain_off ft1) | exact ft1
      · first | (split <;> exact rs1) | exact rs1
      · first | (split <;> exact ldd) | exact ldd
      · intro h' sb r; dsimp only; exact wpAny_pure (fin h' sb r)
    · refine wpAny_bind (wpAny_pure ?_)
      simp only [↓reduceIte]
      refine setX_tail ?_ ho exs hd g1 nd1 m1 bd1 ft1 rs1 ldd ?_
      · intro b s₁ Q' q; cases b <;> first | exact wpAny_pure q | exact wpAny_rule q
      · intro h' sb r; dsimp only; exact wpAny_pure (fin h' sb r)

end

section
variable {prog : Program} {w : World} {A : Around} {R : Result → Shared → Prop} {I : Addr} {fp wr : List Addr} {G : Array GenState → Array GenState → Prop} {n : Nat} {P : Nat → Value → Prop} {St : Nat → Shared → Prop}
theorem take_any {xs : List Str} {i : Nat} {x : Str} (hx : xs[i]? = some x) (k : Str) : (xs.take (i + 1)).any (· == k) = ((xs.take i).any (· == k) || decide (k = x)) := by
  rw [List.take_add_one, hx]
  simp only [List.any_append, Option.toList_some, List.any_cons, List.any_nil, Bool.or_false]
  congr 1
  by_cases e : k = x
  · subst e; simp
  · have e2 : ¬ x = k := fun z => e z.symm
    simp [e, e2]
theorem loopX (W : WalksS prog w A.in1 I fp wr G n P St) (S : Addr) (off : S ∉ fp) (xs : List Str) (len : xs.length = n) (few : n < 64) (val : ∀ i v, P i v → ∃ x t, xs[i]? = some x ∧ v = .str x t) :
    ∀ (k i : Nat) (s : Shared), n - i = k → i ≤ n → St i s → (∃ m, m ≤ i ∧ SetX w s.heap S (fun k' => (xs.take i).any (· == k')) m) →
      (∀ s' m, Moved (S :: wr) G s s' → m ≤ n → SetX w s'.heap S (fun k' => (xs.take n).any (· == k')) m → R (.ok (.ret .none)) s') →
      codeAny (model prog w) A (.builtin "set.update.loop" ⟨[.ref S, .ref I], []⟩) R s := by
  have wrS : S ∉ wr := fun z => off (W.sub _ z)
  have more : ∀ b ∈ wr, b ∈ S :: wr := fun b z => List.mem_cons_of_mem _ z
  intro k
  induction k with
  | zero =>
    intro i s ek le st ⟨m, lm, q⟩ fin
    obtain rfl : i = n := by omega
    refine codeAny_builtin PyProof.Rows.F.entry_set_update_loop ?_
    rw [Around.under_plainId PyProof.Rows.F.plain_set_update_loop _]; show wpAny _ A.in1 (pyNext (.ref I) >>= _) _ _ s
    exact wpAny_bind (W.done s _ _ st fun s' mv => wpAny_pure (fin s' m (mv.mono more) lm (q.at fun o e => mv.heap S o wrS e)))
  | succ k ih =>
    intro i s ek le st ⟨m, lm, q⟩ fin
    have lt : i < n := by omega
    refine codeAny_builtin PyProof.Rows.F.entry_set_update_loop ?_
    rw [Around.under_plainId PyProof.Rows.F.plain_set_update_loop _]; show wpAny _ A.in1 (pyNext (.ref I) >>= _) _ _ s
    refine wpAny_bind (W.item i s _ _ lt st fun v s' pv st' mv => ?_)
    obtain ⟨x, tk, hx, rfl⟩ := val i v pv
    have q' := q.at fun o e => mv.heap S o wrS e
    show wpAny _ A.in1 (holding [Value.str x tk] (setAdd S (.str x tk)) >>= _) _ _ s'
    refine wpAny_bind (wpAny_holding ?_); unfold setAdd
    refine wpAny_holding (wpAny_bind ((PySem.strKind prog w).pyHash (k := x) (strKind_is _ _ _ _) ?_))
    refine setX_hashed (P := prog) (s := { s' with toks := s'.toks + 1 }) q' (by unfold scanBound; omega) fun g sb r => ?_
    have r2 : ∃ m', m' ≤ i + 1 ∧ SetX w g S (fun k' => (xs.take (i + 1)).any (· == k')) m' := by
      refine ⟨_, ?_, r.congr fun k' => take_any hx k'⟩
      split <;> omega
    refine wpAny_pure ⟨plainId_quiet PyProof.Rows.F.plain_set_update_loop _, ih (i + 1) _ (by omega) lt (W.frame _ s' _ _ st' (Nat.le_succ _) fun b hb o e => ?_) r2 fun s2 m2 mv2 l2 q2 => ?_⟩
    · rw [sb.2 b fun z => off (z ▸ hb)]; exact e
    · refine fin s2 m2 (Moved.trans W.gtrans ((mv.mono more).then_heap (Nat.le_succ _) fun b o hb e => ?_) mv2) l2 q2
      rw [sb.2 b fun z => hb (by rw [z]; exact List.mem_cons_self)]; exact e
end

theorem setX_fresh {w : World} {h : Heap} {a : Addr} (ho : h.get? a = some { cls := .type "set", dict := none, data := .set #[] 0 (.fresh 0 0 (!w.params.followText "set-order")) }) : SetX w h a (fun _ => false) 0 := by
  refine ⟨_, #[], 0, _, ho, ⟨rfl, rfl, rfl⟩, rfl, fun e z => by simp at z, by simp, fun k => by simp, by decide, by rfl, rfl, List.Pairwise.nil, ?_⟩
  show _ ∨ (!w.params.followText "set-order") = true
  cases w.params.followText "set-order" <;> simp

section
variable {P : Program} {w : World} {A : Around} {E : Value → Shared → Prop} {s : Shared} {a : Addr} {S : Str → Bool} {n : Nat}
theorem call_set_texts {l : Addr} {items : Array Value} (xs : List Str) {Q : Value → Shared → Prop} (hh : A.handled = none) (hl : s.heap.IsList l items) (hit : StrsAre items.toList xs) (hfew : xs.length < 64)
    (h : ∀ (h' : Heap) (tk m : Nat), m < 64 → SetX w h' s.heap.objs.size (fun k => xs.any (· == k)) m → (∀ b o, s.heap.get? b = some o → h'.get? b = some o) → Q (.ref s.heap.objs.size) { s with heap := h', toks := tk }) :
    wpAny (model P w) A (call (.type "set") [.ref l]) Q E s := by
  have hisz : xs.length = items.size := by rw [← StrsAre.len_eq hit, Array.length_toList]
  obtain ⟨c, tl, mrs⟩ := F.called_set.mro
  have mds := F.called_set.made
  have sbs := F.called_set.sub
  refine wpAny_call (codeAny_of_tree ?_)
  show wpAny _ _ (callAny (.type "set") _) _ _ _
  refine wpAny_pure ⟨Code.quiet_builtin _ (by decide +kernel), codeAny_builtin F.entry_type_call ?_⟩
  rw [Around.under_plain (weight_type_call_type "set" [.ref l] []) rfl]
  have h1 := F.called_set.notType
  have h2 := F.called_set.canCreate
  have cts := F.typeCall_set_1 (.ref l)
  repeat (any_goals (first | assumption | wp_step))

  refine codeAny_mono (code_set_led1 (.ref l) (E := E) (Q₁ := fun obj s₁ => obj = .ref s.heap.objs.size ∧ s₁ = { s with heap := s.heap.push { cls := .type "set", dict := none, data := .set #[] 0 (.fresh 0 0 (!w.params.followText "set-order")) } }) ⟨rfl, rfl⟩) fun r s₁ hr => ?_
  cases r with
  | error e => exact hr
  | ok fl =>
    cases fl with
    | ret obj =>
      obtain ⟨rfl, rfl⟩ := hr
      have vS : (s.heap.push { cls := .type "set", dict := none, data := .set #[] 0 (.fresh 0 0 (!w.params.followText "set-order")) }).get? s.heap.objs.size = some { cls := .type "set", dict := none, data := .set #[] 0 (.fresh 0 0 (!w.params.followText "set-order")) } := Heap.get?_push_size _ rfl
      have tS : Shared.TypeIs { s with heap := s.heap.push { cls := .type "set", dict := none, data := .set #[] 0 (.fresh 0 0 (!w.params.followText "set-order")) } } (.ref s.heap.objs.size) "set" := ⟨_, vS, rfl⟩
      have ini := F.called_set.init.lookup
      have bni := F.called_set.init.bind (.ref s.heap.objs.size)
      repeat (any_goals (first | assumption | wp_step))

      refine codeAny_mono (codeAny_call_builtin (R := wants (fun r s₂ => r = .none ∧ ∃ h' tk m, s₂ = { s with heap := h', toks := tk } ∧ m < 64 ∧ SetX w h' s.heap.objs.size (fun k => xs.any (· == k)) m ∧
          (∀ b o, s.heap.get? b = some o → h'.get? b = some o)) E) F.called_set.init.plain F.entry_set_init (check_set_init_1 tS ?_)) fun r₂ s₂ hr₂ => ?_
      · obtain ⟨ol, gol, hcl, nl, hdl⟩ := hl
        obtain ⟨ocls, odict, odata, oslots⟩ := ol
        simp only at hcl hdl
        subst hcl; subst hdl
        have gol' : (s.heap.push { cls := .type "set", dict := none, data := .set #[] 0 (.fresh 0 0 (!w.params.followText "set-order")) }).get? l = some { cls := .type "list", dict := odict, data := .seq items nl, slots := oslots } := Heap.get?_push_of_some _ gol
        have hsls := F.sub_list_set
        have hslf := F.sub_list_frozenset
        have hne : (Value.type "list" == Value.type "dict") = false := by decide
        have lq1 : (s.heap.push { cls := .type "set", dict := none, data := .set #[] 0 (.fresh 0 0 (!w.params.followText "set-order")) }).IsList l items := ⟨_, gol', rfl, nl, rfl⟩
        unfold Builtin.«set.__init__» noKeywords Builtin.Frozenset.updateFrom
        generalize hPI : pyIter = PI
        wp_walk
        subst hPI

        refine wpAny_pyIter_list lq1 ?_
        refine wpAny_bind (wpAny_runValue ?_)
        have ltS : l < s.heap.objs.size := Heap.lt_size gol
        have hh3 : A.in1.in1.in1.handled = none := by simp [hh]
        have hz1 : (s.heap.push { cls := .type "set", dict := none, data := .set #[] 0 (.fresh 0 0 (!w.params.followText "set-order")) }).objs.size = s.heap.objs.size + 1 := Heap.size_push ..
        have niI : l ≠ (s.heap.push { cls := .type "set", dict := none, data := .set #[] 0 (.fresh 0 0 (!w.params.followText "set-order")) }).objs.size := by
          rw [Heap.size_push]; exact Nat.ne_of_lt (Nat.lt_succ_of_lt ltS)
        have offS : s.heap.objs.size ∉ [(s.heap.push { cls := .type "set", dict := none, data := .set #[] 0 (.fresh 0 0 (!w.params.followText "set-order")) }).objs.size, l] := by
          rw [Heap.size_push]; simp only [List.mem_cons, List.mem_singleton, List.not_mem_nil, or_false, not_or]
          exact ⟨Nat.ne_of_lt (Nat.lt_succ_self _), Nat.ne_of_gt ltS⟩
        have vls : ∀ (i : Nat) (v : Value), items[i]? = some v → ∃ x t, xs[i]? = some x ∧ v = .str x t := fun i v hv => by
          obtain ⟨t, e⟩ := SS.strs_at hit i v (by rw [Array.getElem?_toList]; exact hv)
          have hi : i < xs.length := by rw [hisz]; exact (Array.getElem?_eq_some_iff.mp hv).1
          exact ⟨_, t, List.getElem?_eq_getElem hi, by rw [e, List.getD_eq_getElem?_getD, List.getElem?_eq_getElem hi]; rfl⟩
        have none_of : ∀ b, s.heap.objs.size ≤ b → s.heap.get? b = none := fun b hb => by
          cases q : s.heap.get? b with
          | none => rfl
          | some o => exact absurd (Nat.lt_of_lt_of_le (Heap.lt_size q) hb) (Nat.lt_irrefl _)
        refine loopX ((Walks.list hh3 _ l niI items).toS) s.heap.objs.size offS xs hisz (by rw [← hisz]; exact hfew) vls (items.size - 0) 0 _ (by omega) (Nat.zero_le _)
          ⟨⟨_, Heap.get?_push_size _ rfl, rfl, rfl⟩, (lq1.push _)⟩ ?hS0 ?hR
        case hS0 =>
          have gts : ((s.heap.push { cls := .type "set", dict := none, data := .set #[] 0 (.fresh 0 0 (!w.params.followText "set-order")) }).push { cls := .type "list_iterator", data := .fields #[.ref l, .int 0 0] }).get? s.heap.objs.size
              = some { cls := .type "set", dict := none, data := .set #[] 0 (.fresh 0 0 (!w.params.followText "set-order")) } := Heap.get?_push_of_some _ vS
          exact ⟨0, Nat.le_refl _, (setX_fresh (w := w) gts).congr fun _ => by simp⟩
        case hR =>
          intro s' m hm lm vS'
          obtain ⟨h', g2, d', tk', os'⟩ := s'
          have eg : g2 = s.gens := hm.gens
          have ed : d' = s.drawn := hm.drawn
          have eo : os' = s.os := hm.os
          subst eg; subst ed; subst eo
          show wpAny _ _ _ _ _ _
          refine wpAny_pure ?_
          show wpAny _ _ (ret Value.none) _ _ _
          refine wpAny_pure ⟨rfl, h', tk', m, rfl, by rw [← hisz] at lm; omega, vS'.congr fun k => by rw [← hisz, List.take_length], fun b o e => ?_⟩
          have nb : b ∉ [s.heap.objs.size, (s.heap.push { cls := .type "set", dict := none, data := .set #[] 0 (.fresh 0 0 (!w.params.followText "set-order")) }).objs.size] := fun z => by
            rcases List.mem_cons.mp z with z | z
            · rw [z, none_of _ (Nat.le_refl _)] at e; cases e
            · rw [List.mem_singleton.mp z, none_of _ (by rw [Heap.size_push]; exact Nat.le_succ _)] at e; cases e
          exact hm.heap b o nb (Heap.get?_push_of_some _ (Heap.get?_push_of_some _ e))
      · cases r₂ with
        | error e => exact hr₂
        | ok fl₂ =>
          cases fl₂ with
          | ret r =>
            obtain ⟨rfl, h', tk, m, rfl, lm, vS', hk'⟩ := hr₂
            repeat (any_goals (first | assumption | wp_step))
            exact h _ _ _ lm vS' hk'
          | _ => exact hr₂.elim
    | _ => exact hr.elim

theorem sorted_setX {S : Str → Bool} {n : Nat} {Q : Value → Shared → Prop} (R : SetX w s.heap a S n) (hh : A.handled = none) (h64 : n < 64)
    (hQ : ∀ s' p (out : Array Value) (c : Nat) (ns : List Str), (∀ b o, s.heap.get? b = some o → s'.heap.get? b = some o) → s'.gens = s.gens → s'.os = s.os → s.heap.objs.size ≤ p →
      s'.heap.get? p = some (seqObj "list" out c) → StrsAre out.toList ns → sortedS ns = true ∧ ns.Nodup → (∀ k, k ∈ ns ↔ S k = true) → ns.length = n → Q (.ref p) s') :
    wpAny (model P w) A (call (.builtin "sorted") [.ref a]) Q E s := by
  obtain ⟨o, es, ep, t, ho, exs, hd, g, nd, hm, hb, hf, hn, hr, hl⟩ := R
  refine Calls.call_function_entry kind_sorted plain_sorted entry_sorted (args_sorted1 _) ?_
  unfold Builtin.«sorted»
  refine wpAny_bind (m := checkCount "sorted" 1 1 _) (wpAny_pure ?_)
  refine wpAny_bind (collect_set (A := A.in1) hh ⟨o, ho, exs.1, hd⟩ hf hb hr hl fun s1 vs k1 hz g1 o1 prm => ?_)
  have lvs : vs.length = n := by rw [prm.length_eq, List.length_map, Array.length_toList]; exact hn
  have sts : StrsAre vs (vs.map strOf) := strsAre_map vs fun v hv => by
    obtain ⟨e, he, q⟩ := List.mem_map.mp (prm.mem_iff.mp hv)
    obtain ⟨k, tk, h1, _⟩ := g e he
    exact ⟨k, tk, by rw [← q]; exact h1⟩
  have pk : (vs.map strOf).Perm (es.toList.map keyX) := by
    have q := prm.map strOf
    rw [List.map_map] at q
    refine q.trans (List.Perm.of_eq (List.map_congr_left fun e he => ?_))
    obtain ⟨k, tk, h1, _⟩ := g e he
    show strOf e.2 = keyX e
    unfold keyX
    rw [h1]; rfl
  refine wpAny_bind (wpAny_newList ?_ (by rw [lvs, sizeLine_eq]; omega))
  have goL : (s1.heap.push (seqObj "list" vs.toArray 0)).get? s1.heap.objs.size = some (seqObj "list" vs.toArray 0) := Heap.get?_push_size _ rfl
  refine wpAny_bind (wpAny_holding (wpAny_call_entry slot_list_sort ⟨_, goL, rfl⟩ entry_list_sort (list_sort_treeK strKind_oneLt goL sts.keysOf (fun v₁ v₂ rest e => keyKind_strs (ss := vs.map strOf) (by rw [← e]; exact sts)) (by rw [lvs]; exact h64) fun st' b1 b2 => ⟨_, rfl, ?_⟩) (args_list_sort _)))
  obtain ⟨ns', a1, a2, a3⟩ := sorted_out_str sts b1 b2
  generalize (arrOf st').map (·.2) = out at a1 ⊢
  obtain ⟨c, hc⟩ := sortedHeap_at (vs := vs) (out := out) goL
  have pn : ns'.Perm (es.toList.map keyX) := a2.trans pk
  refine wpAny_pure ⟨_, rfl, hQ _ s1.heap.objs.size out c ns' (fun b u e => ?_) g1 o1 hz hc a1 ⟨a3, pn.nodup_iff.mpr nd⟩ (fun k => by rw [pn.mem_iff, ← hm k]) ?_⟩
  · have q := k1 b u e
    have hlt := Heap.lt_size q
    show (sortedHeap (s1.heap.push (seqObj "list" vs.toArray 0)) s1.heap.objs.size vs out).get? b = some u
    rw [sortedHeap_old (Nat.ne_of_lt hlt) (by rw [size_push']; exact Nat.lt_succ_of_lt hlt)]
    exact Heap.get?_push_of_some _ q
  · rw [pn.length_eq, List.length_map, Array.length_toList]; exact hn
end
end DX

set_option maxRecDepth 100000
set_option maxHeartbeats 4000000
namespace DX
open PySem PySem.Spec PyProof.Rows L2
/-! ### sorted(set(texts)) -/
def SetXO (w : World) (a : Addr) (S : Str → Bool) (n : Nat) : HO := .ext fun h => SetX w h a S n
theorem setXO_new {w : World} {P : Program} {H : Hp} {h : Heap} {a : Addr} {S : Str → Bool} {n : Nat} (R : SetX w h a S n) : ObjOk P w H h a (SetXO w a S n) :=
  ⟨R, let ⟨o, _, _, _, ho, _⟩ := R; ⟨o, ho⟩, fun g1 g2 q k => SetX.at q k⟩
section
variable {X : Cx}
def rSetX (K : PySem.W.Frag) (w : World) : List V → Hp → VK → Prop := fun xs H Q => ∃ (l : Addr) (ks : List Str), xs = [V.ref l] ∧ SqL K H l (ks.map V.str) ∧ ks.length < 64 ∧
  ∀ a m, m < 64 → H a = none → Q (.ref a) (upd H a (SetXO w a (fun k => ks.any (· == k)) m))
theorem cr_setX (hc : X.calm = true) : CallR X (.type "set") (rSetX X.K X.w) := by
  intro pins s σ H xs us Q I r h
  obtain ⟨l, ks, rfl, hl, hf, q⟩ := h
  rw [Vals.ref1 r]
  obtain ⟨its, rv, pl, _⟩ := I.list hl
  refine call_set_texts (P := X.prog) (w := X.w) ks (I.ok.hd hc) pl.isList (by simpa using strsAre_of rv) hf fun g tk m lm R k => ?_
  exact ⟨.ref s.heap.objs.size, _, I.laid (t' := tk) k (Nat.le_refl _) (setXO_new R), rfl, q _ m lm (I.hok.fresh (Nat.le_refl _))⟩
def rSortedX (w : World) : List V → Hp → VK → Prop := fun vs H Q => ∃ (a : Addr) (S : Str → Bool) (n : Nat), vs = [V.ref a] ∧ H a = some (SetXO w a S n) ∧ n < 64 ∧
  ∀ (ns : List Str) (p : Addr), sortedS ns = true → ns.Nodup → (∀ k, k ∈ ns ↔ S k = true) → H p = none → Q (.ref p) (upd H p (.lst (ns.map V.str)))
theorem vals_of_strs : ∀ {us : List Value} {xs : List Str}, StrsAre us xs → Vals (xs.map V.str) us
  | _, _, .nil => .nil
  | _, _, .cons x t r => .cons ⟨t, rfl⟩ (vals_of_strs r)
theorem cr_sortedX (hc : X.calm = true) : CallR X (.builtin "sorted") (rSortedX X.w) := by
  intro pins s σ H vs us Q I r h
  obtain ⟨a, S, n, rfl, ha, h64, q⟩ := h
  have R : SetX X.w s.heap a S n := (I.hok a _ ha).1
  rw [Vals.ref1 r]
  refine sorted_setX (P := X.prog) R (I.ok.hd hc) h64 fun s' p out c ns k g o hp hg hi hs hm hl => ?_
  have len : (ns.map V.str).length ≤ sizeLine := by rw [List.length_map, hl, sizeLine_eq]; omega
  have np : H p = none := I.hok.fresh hp
  have J : L2.Inv X pins σ (upd H p (.lst (ns.map V.str))) { s with heap := s'.heap, gens := s'.gens, drawn := s'.drawn, toks := s'.toks } :=
    I.call (ch := []) (Un.laid k hp np) (I.hok.laid k hp ⟨len, out.toList, c, vals_of_strs hi, hg⟩) (by rw [g]; exact I.bare) (fun _ z => nomatch z)
  have e : s' = { s with heap := s'.heap, gens := s'.gens, drawn := s'.drawn, toks := s'.toks } := by
    cases s'; cases s; cases o; rfl
  rw [e]
  exact ⟨.ref p, _, J, rfl, q ns p hs.1 hs.2 hm np⟩
theorem strs_rps {K : PySem.W.Frag} {F : Addr → Prop} {H : Hp} : ∀ {xs : List String} {vs : List V}, Rps K F H vs (xs.map D.str) → vs = (xs.map Str.ofString).map V.str
  | [], vs, r => by cases r; rfl
  | x :: xs, vs, r => by
    rw [List.map_cons] at r
    cases r with
    | cons r t => cases r; rw [strs_rps t]; rfl
theorem rps_strs {K : PySem.W.Frag} {F : Addr → Prop} {H : Hp} : ∀ (xs : List String), Rps K F H ((xs.map Str.ofString).map V.str) (xs.map D.str)
  | [] => .nil
  | x :: xs => .cons (.str x) (rps_strs xs)
def ascS (ns : List String) : Prop := sortedS (ns.map Str.ofString) = true
def rSortedSet (fz : Bool) (r : DE) : DE := fun ρ h Q => r ρ h fun x h1 => ∃ xs : List String, seqL h1 x = some (xs.map D.str) ∧ xs.length < 64 ∧ ∀ ns : List String, ns.Nodup → ascS ns → (∀ k, k ∈ ns ↔ k ∈ xs) → newL fz (ns.map D.str) h1 Q
theorem back_strs {xs : List String} : ∀ {ns : List Str}, (∀ k ∈ ns, k ∈ xs.map Str.ofString) → ∃ ms : List String, ns = ms.map Str.ofString
  | [], _ => ⟨[], rfl⟩
  | n :: ns, h => by
    obtain ⟨ms, e⟩ := back_strs (ns := ns) fun k z => h k (List.mem_cons_of_mem _ z)
    obtain ⟨m, _, e2⟩ := List.mem_map.mp (h n List.mem_cons_self)
    exact ⟨m :: ms, by rw [List.map_cons, e2, e]⟩
theorem newL_delext {K : PySem.W.Frag} {F : Addr → Prop} {H : Hp} {h : DHp} {a : Addr} {o : HO} (hn : H a = none) (hd : Hd K F H h) : Hd K F (upd H a o) h := hd.new hn
variable {N : List Str} {sc : Scope} {k : Nat} {e : Expr} {re : DE} {p1 p2 pos1 pos2 : Pos}
theorem xsortedset (C : Ct X N sc k) (fz : Bool) (g1 : Gn sc "sorted") (g2 : Gn sc "set") (m1 : X.mg "sorted" = none) (m2 : X.mg "set" = none) (he : PDE X e re)
    (hs1 : starEach [.Call (.Name "set" p2) [e] [] pos2] X.env = (false, eval (.Call (.Name "set" p2) [e] [] pos2) X.env) :: starEach [] X.env := by rfl)
    (hs2 : starEach [e] X.env = (false, eval e X.env) :: starEach [] X.env := by rfl) :
    PDE X (.Call (.Name "sorted" p1) [.Call (.Name "set" p2) [e] [] pos2] [] pos1) (rSortedSet fz re) := by
  have sc' := C.sc
  refine impE (pe_callB (cr_sortedX C.calm) (by subst sc'; exact g1.hg) m1 boot_sorted' (pa_cons (pe_callTy (cr_setX C.calm) (by subst sc'; exact g2.hg) m2 boot_set' (pa_cons he pa_nil hs2) g2.hn g2.d1 hs2 rfl) pa_nil hs1) g1.hn g1.d1 hs1 rfl) fun σ H Q q => ?_
  obtain ⟨F, ρ, h, Q', s, hd, q, k⟩ := q
  refine ⟨F, ρ, h, _, s, hd, q, fun F1 x h1 v1 H1 l1 rx d1 q1 => ?_⟩
  obtain ⟨xs, e1, few, q1⟩ := q1
  obtain ⟨a, vs, e2, e3, rv⟩ := rx.seqL d1 e1
  subst e2
  have e4 := strs_rps rv
  subst e4
  refine ⟨a, xs.map Str.ofString, rfl, .inl e3, by rw [List.length_map]; exact few, fun b m lm nb => ?_⟩
  refine ⟨b, _, m, rfl, upd_same, lm, fun ns p asc nd hm np => ?_⟩
  have mm : ∀ k, k ∈ ns ↔ k ∈ xs.map Str.ofString := fun k => by
    rw [hm k, List.any_eq_true]
    constructor
    · rintro ⟨y, hy, e⟩
      rw [← eq_of_beq e]; exact hy
    · exact fun z => ⟨k, z, by simp⟩
  obtain ⟨ms, rfl⟩ := back_strs fun k z => (mm k).1 z
  have nd' : ms.Nodup := List.Pairwise.of_map _ (fun _ _ hne e => hne (congrArg _ e)) nd
  have q2 := q1 ms nd' asc fun k => ⟨fun z => by
    obtain ⟨y, hy, e⟩ := List.mem_map.mp ((mm _).1 (List.mem_map_of_mem z))
    rw [← ofString_inj e]; exact hy, fun z => by
    obtain ⟨y, hy, e⟩ := List.mem_map.mp ((mm _).2 (List.mem_map_of_mem z))
    rw [← ofString_inj e]; exact hy⟩
  exact newL_ok (rps_strs ms) (d1.new nb) q2 (k.le (l1.trans (Le.new nb))) p np
end
end DX

set_option maxRecDepth 100000
set_option maxHeartbeats 4000000
namespace DX
open PySem PySem.Spec PyProof.Rows L2
/-! ### repr of data -/
def okS (s : String) : Prop := ∃ t : String, reprText (Str.ofString s) = Str.ofString t
mutual
def D.shw : D → Prop
  | .non => True | .bl _ => True | .int i => i.natAbs < 10 ^ 12 | .str s => okS s
  | .tup ds => shws ds | .lst ds => shws ds | .ktup ds => shws ds | .klst ds => shws ds | .ref _ => False | .ty _ => False
def shws : List D → Prop
  | [] => True
  | d :: ds => d.shw ∧ shws ds
end
mutual
def D.bk : D → Nat
  | .str s => s.length | .tup ds => bks ds | .lst ds => bks ds | .ktup ds => bks ds | .klst ds => bks ds
  | .non => 0 | .bl _ => 0 | .int _ => 0 | .ref _ => 0 | .ty _ => 0
def bks : List D → Nat
  | [] => 0
  | d :: ds => d.bk + 1 + bks ds
end
def isS (x : Str) : Prop := ∃ t : String, x = Str.ofString t
theorem isS_lit (t : String) : isS (Str.ofString t) := ⟨t, rfl⟩
theorem isS.app {x y : Str} : isS x → isS y → isS (x ++ y)
  | ⟨a, e⟩, ⟨b, e2⟩ => ⟨a ++ b, by rw [e, e2, str_append]⟩
theorem isS_join : ∀ ts : List Str, (∀ t ∈ ts, isS t) → isS (Str.join ", " ts)
  | [], _ => ⟨"", rfl⟩
  | [x], h => h x List.mem_cons_self
  | x :: y :: r, h => by
    show isS (x ++ ", " ++ Str.join ", " (y :: r))
    exact ((h x List.mem_cons_self).app (isS_lit _)).app (isS_join (y :: r) fun t z => h t (List.mem_cons_of_mem _ z))
theorem ch_small (s : String) : ((Str.ofString s).cps.toList.all fun c => decide (c < 16 ^ 8)) = true := by
  rw [List.all_eq_true]
  intro c hc
  have h := strOk_of s
  unfold PyData.strOk at h
  rw [← Array.all_toList, List.all_eq_true] at h
  have := of_decide_eq_true (h c hc)
  exact decide_eq_true (by omega)
theorem log_small {i : Int} (h : i.natAbs < 10 ^ 12) : i.natAbs.log2 < 1920 := by
  have e : (10 : Nat) ^ 12 ≤ 2 ^ 40 := by decide
  by_cases z : i.natAbs = 0
  · rw [z]; decide
  · have := (Nat.log2_lt z).mpr (Nat.lt_of_lt_of_le h e)
    omega
mutual
theorem shw_ok : ∀ d : D, d.shw → d.pd.showable = true ∧ d.pd.leavesShort 13 = true ∧ d.pd.bulk = d.bk ∧ isS d.pd.shown
  | .non, _ => ⟨by simp [D.pd, PyData.showable], by simp [D.pd, PyData.leavesShort], by simp [D.pd, PyData.bulk, D.bk], by simp only [D.pd]; rw [PyData.shown_none]; exact isS_lit _⟩
  | .bl b, _ => ⟨by simp [D.pd, PyData.showable], by simp [D.pd, PyData.leavesShort], by simp [D.pd, PyData.bulk, D.bk], by simp only [D.pd]; rw [PyData.shown_bool]; cases b <;> exact isS_lit _⟩
  | .int i, h => by
    have h : i.natAbs < 10 ^ 12 := by simpa [D.shw] using h
    refine ⟨?_, ?_, by simp [D.pd, PyData.bulk, D.bk], by simp only [D.pd]; rw [PyData.shown_int]; exact isS_lit _⟩
    · simp only [D.pd, PyData.showable]; exact decide_eq_true (log_small h)
    · simp only [D.pd, PyData.leavesShort]; exact decide_eq_true (PyData.shown_int_le h)
  | .str s, h => by
    obtain ⟨t, ht⟩ : okS s := by simpa [D.shw] using h
    refine ⟨by simp [D.pd, PyData.showable], ?_, ?_, by simp only [D.pd]; rw [PyData.shown_str]; exact ⟨t, ht⟩⟩
    · simp only [D.pd, PyData.leavesShort]; exact ch_small s
    · simp only [D.pd, PyData.bulk, D.bk]; exact str_len s
  | .tup ds, h => by
    obtain ⟨a, b, c, d⟩ := shws_ok ds (by simpa [D.shw] using h)
    refine ⟨by simp only [D.pd, PyData.showable]; exact a, by simp only [D.pd, PyData.leavesShort]; exact b, by simp only [D.pd, PyData.bulk, D.bk]; exact c, ?_⟩
    simp only [D.pd]; rw [PyData.shown_tuple]
    refine ((isS_lit _).app (isS_join _ d)).app ?_
    exact isS_lit _
  | .lst ds, h => by
    obtain ⟨a, b, c, d⟩ := shws_ok ds (by simpa [D.shw] using h)
    refine ⟨by simp only [D.pd, PyData.showable]; exact a, by simp only [D.pd, PyData.leavesShort]; exact b, by simp only [D.pd, PyData.bulk, D.bk]; exact c, ?_⟩
    simp only [D.pd]; rw [PyData.shown_list]
    exact ((isS_lit _).app (isS_join _ d)).app (isS_lit _)
  | .ktup ds, h => by
    obtain ⟨a, b, c, d⟩ := shws_ok ds (by simpa [D.shw] using h)
    refine ⟨by simp only [D.pd, PyData.showable]; exact a, by simp only [D.pd, PyData.leavesShort]; exact b, by simp only [D.pd, PyData.bulk, D.bk]; exact c, ?_⟩
    simp only [D.pd]; rw [PyData.shown_tuple]
    exact ((isS_lit _).app (isS_join _ d)).app (isS_lit _)
  | .klst ds, h => by
    obtain ⟨a, b, c, d⟩ := shws_ok ds (by simpa [D.shw] using h)
    refine ⟨by simp only [D.pd, PyData.showable]; exact a, by simp only [D.pd, PyData.leavesShort]; exact b, by simp only [D.pd, PyData.bulk, D.bk]; exact c, ?_⟩
    simp only [D.pd]; rw [PyData.shown_list]
    exact ((isS_lit _).app (isS_join _ d)).app (isS_lit _)
  | .ref _, h => by simp [D.shw] at h
  | .ty _, h => by simp [D.shw] at h
theorem shws_ok : ∀ ds : List D, shws ds → PyData.showableAll (pds ds) = true ∧ PyData.leavesShortAll 13 (pds ds) = true ∧ PyData.bulkAll (pds ds) = bks ds ∧ ∀ t ∈ PyData.shownAll (pds ds), isS t
  | [], _ => ⟨by simp [pds, PyData.showableAll], by simp [pds, PyData.leavesShortAll], by simp [pds, PyData.bulkAll, bks], by simp [pds, PyData.shownAll]⟩
  | d :: ds, h => by
    have h : d.shw ∧ shws ds := by simpa [shws] using h
    obtain ⟨a, b, c, e⟩ := shw_ok d h.1
    obtain ⟨a2, b2, c2, e2⟩ := shws_ok ds h.2
    refine ⟨by simp only [pds, PyData.showableAll, a, a2, Bool.and_self], by simp only [pds, PyData.leavesShortAll, b, b2, Bool.and_self], by simp only [pds, PyData.bulkAll, bks, c, c2], ?_⟩
    simp only [pds, PyData.shownAll]
    intro t ht
    rcases List.mem_cons.mp ht with z | z
    · rw [z]; exact e
    · exact e2 t z
end
/-- the text of repr -/
noncomputable def D.rep (d : D) : String := open Classical in if h : isS d.pd.shown then Classical.choose h else ""
theorem rep_of {d : D} (h : isS d.pd.shown) : d.pd.shown = Str.ofString d.rep := by
  unfold D.rep
  rw [dif_pos h]
  exact Classical.choose_spec h
def isSeq : D → Prop
  | .tup _ => True | .lst _ => True | .ktup _ => True | .klst _ => True
  | _ => False
section
variable {X : Cx}
def rReprV (K : PySem.W.Frag) : List V → Hp → VK → Prop := fun xs H Q => ∃ a pd, xs = [.ref a] ∧ Dp K H (.ref a) pd ∧ pd.canLay0 = true ∧ pd.depth ≤ 60 ∧ pd.showable = true ∧ pd.shown.length ≤ sizeLine ∧ Q (.str pd.shown) H
theorem cr_repr (gd : X.A.guards = some []) (hu : X.A.units + 64 < cLine) : CallR X (.builtin "repr") (rReprV X.K) := by
  intro pins s σ H xs us Q I r h
  obtain ⟨a, pd, rfl, hd, lay, dp, sh, sz, q⟩ := h
  rw [Vals.ref1 r]
  obtain ⟨as, rd⟩ := Dp.reads I pd (.ref a) (.ref a) hd rfl
  exact repr_of_reads' rd sh (PyData.noDict_hsm (PyData.hasDict_of_canLay pd lay)) gd (by omega) (fun b o e => e) (fun g u tk k => ⟨.str pd.shown, H, I.kept (t' := tk) k, ⟨u, rfl⟩, q⟩) sz
def rRepr (ds : List D) (h : DHp) (Q : DQ) : Prop := ∃ x, ds = [x] ∧ isSeq (resD h x) ∧ (resD h x).dat 60 = true ∧ (resD h x).shw ∧ (resD h x).bk ≤ 2 ^ 20 ∧ Q (.str (resD h x).rep) h
theorem c_repr (gd : X.A.guards = some []) (hu : X.A.units + 64 < cLine) : CallR X (.builtin "repr") (tDC X.K rRepr) := impC (cr_repr gd hu) fun xs H Q q => by
  obtain ⟨F, h, ds, Q', rs, hd, ⟨x, e, sq, dt, sh, bk, q⟩, k⟩ := q
  subst e
  cases rs with
  | @cons v _ _ _ r t =>
    cases t
    have dp := r.res hd dt
    obtain ⟨o1, o2, o3, o4⟩ := shw_ok _ sh
    have va : ∃ a, v = V.ref a := by
      cases x with
      | ref a => cases r; exact ⟨a, rfl⟩
      | tup ds => cases r; exact ⟨_, rfl⟩
      | lst ds => cases r; exact ⟨_, rfl⟩
      | ktup ds => cases r; exact ⟨_, rfl⟩
      | klst ds => cases r; exact ⟨_, rfl⟩
      | _ => exact sq.elim
    obtain ⟨a, ea⟩ := va
    subst ea
    obtain ⟨l1, l2⟩ := D.lay dt
    refine ⟨a, _, rfl, dp, l1, l2, o1, PyData.shown_fits_bulk (B := 13) (by decide) (by decide) o2 (by rw [o3]; exact bk), ?_⟩
    rw [rep_of o4]
    exact k F _ h _ H .refl (.str _) hd q
end
/-! ### a chain, a dict's test -/
section
variable {X : Cx} {a b c i o : Expr} {ra rb rc ri ro : DE} {pos : Pos} {rR rR' : D → D → DHp → DQ → Prop}
def rNeg (r : DE) : DE := fun ρ h Q => r ρ h fun x h1 => ∃ i, x = .int i ∧ Q (.int (-i)) h1
theorem de_neg (ha : PDE X a ra) : PDE X (.UnaryOp .USub a pos) (rNeg ra) := impE (pe_un un_neg ha) fun σ H Q q => by
  obtain ⟨F, ρ, h, Q', s, hd, q, k⟩ := q
  refine ⟨F, ρ, h, _, s, hd, q, fun F1 x h1 v1 H1 l1 rx d1 ⟨i, e, q1⟩ => ?_⟩
  subst e
  cases rx
  exact ⟨i, rfl, k F1 _ h1 _ H1 l1 (.int _) d1 q1⟩
end
end DX

set_option maxRecDepth 100000
set_option maxHeartbeats 4000000
namespace DX
open PySem PySem.Spec PyProof.Rows L2
/-! ### a law's def, called: HandS.Ends' law_call for FnG, over data -/
def iL (l : List Int) : List D := l.map D.int
theorem rps_iL {K : PySem.W.Frag} {F : Addr → Prop} {H : Hp} : ∀ ns : List Int, Rps K F H (ns.map V.int) (iL ns)
  | [] => .nil
  | n :: ns => .cons (.int n) (rps_iL ns)
def scr (x : D) (ns : List Int) : Prop := x = .lst (iL ns) ∨ x = .klst (iL ns)
def bitsOk (ns : List Int) : Prop := ∀ z ∈ ns, Builtin.Int.intBits z ≤ 1048576
/-- what a law promises -/
def spLaw (n : Nat) : DSp := fun ds h Q _ => ∃ x ns, ds = [x] ∧ scr x ns ∧ ns.length ≤ n ∧ bitsOk ns ∧ h = (fun _ => none) ∧ ∀ h', Q (.bl true) h'
theorem law_callG {P : Program} {w : World} {K : PySem.W.Frag} {mg mb : Str → Option Value} {k n : Nat} {fa a : Addr} {fd : FuncData} {x : Str} {s₁ : Shared} {vs : List Value} {ns : List Int}
    (kin : K.In s₁.heap) (gns : s₁.heap.Ns mainGlobals mg) (bns : s₁.heap.Ns builtinsNs mb) (boot : ∀ x : Str, x ≠ "__name__" → mb x = bootBuiltins x) (free : s₁.heap.NoLimit) (idle : s₁.gens = #[])
    (obj : s₁.heap.get? a = some { cls := .type "list", data := .seq vs.toArray }) (ixs : IntsAre vs ns) (len : ns.length ≤ n) (len2 : n ≤ sizeLine) (bits : bitsOk ns) (hr : Room k callerA)
    (G : ∀ base : Heap, K.In base → base.Ns mainGlobals mg → FnG P w K mg base CX0 k fa fd [x] (spD K 1 (spLaw n))) (hbind : ∀ (s : Shared) (u : Value), BindsTo s fd ⟨[u], []⟩ [(x, u)]) :
    codeAny (model P w) callerA (.call (.ref fa) ⟨[.ref a], []⟩) (fun r s' => r = .ok (.ret (.bool true)) ∧ OldK s₁.heap s'.heap ∧ s'.os = s₁.os ∧ AllBare s'.gens) s₁ := by
  have vr := vals_ints ixs
  have vl := ixs.length
  have core : ∀ (H : Hp) (d : D), Only H → scr d ns → Rp K (fun _ => False) H (.ref a) d → HOk P w H s₁.heap → (∀ b, H b ≠ none → b = a) → (H a ≠ none → K.lookup a = none) →
      codeAny (model P w) callerA (.call (.ref fa) ⟨[.ref a], []⟩) (fun r s' => r = .ok (.ret (.bool true)) ∧ OldK s₁.heap s'.heap ∧ s'.os = s₁.os ∧ AllBare s'.gens) s₁ := by
    intro H d only hd rp hok one apart
    have up : ∀ {b : Addr} {o : Obj}, s₁.heap.get? b = some o → H b = none → (hidT s₁.heap H).get? b = some o := fun e z => hidT_get e z
    have notA : ∀ {b : Addr} {u : HO}, H b = some u → b = a := fun {b u} e => one b (by rw [e]; simp)
    have noDict : ∀ {b : Addr} {o : Obj} {es : Array DictEntry} {ep : Nat}, s₁.heap.get? b = some o → o.data = .dict es ep → H b = none := fun {b o es ep} e dd => by
      cases q : H b with
      | none => rfl
      | some u =>
        have z := notA q
        subst z
        rw [obj] at e; cases e
        have z : Data.seq vs.toArray _ = Data.dict es ep := dd
        cases z
    have space : ∀ {b : Addr} {m : Str → Option Value}, s₁.heap.Ns b m → (hidT s₁.heap H).Ns b m := fun {b m} ⟨o, es, ep, e, dd, r⟩ => ⟨o, es, ep, up e (noDict e dd), dd, r⟩
    have kin2 : K.In (hidT s₁.heap H) := fun b o e => up (kin b o e) (by
      cases q : H b with
      | none => rfl
      | some u =>
        have z := notA q
        subst z
        rw [apart (by rw [q]; simp)] at e; cases e)
    have md : Mod K mg (hidT s₁.heap H) := ⟨kin2, space gns, ⟨mb, space bns, boot⟩, let ⟨mc, z1, z2⟩ := free; ⟨mc, space z1, z2⟩⟩
    have e0 : Env0 P w K mg (hidT s₁.heap H) callerA [] s₁ H := ⟨rfl, md, fun b o e => of_hidT e, Nat.le_of_eq (hidT_size _ _), trivial, fun b hb => absurd (show b ∈ ([] : List Addr) from hb) (by simp), hok, .of_eq idle⟩
    have hold : spD K 1 (spLaw n) [.ref a] H (fun v _ => v = .bl true) fun _ _ _ => False :=
      ⟨fun _ => False, [d], fun _ => none, fun v _ => v = .bl true, fun _ _ => False, rfl, .cons rp .nil, ⟨fun _ _ z => (by cases z), fun _ z => z.elim⟩, ⟨d, ns, rfl, hd, len, bits, rfl, fun _ => rfl⟩,
        fun F' d' h' v H' _ r _ e => by subst e; cases r; rfl, fun _ _ _ _ _ _ z => z⟩
    refine codeAny_mono ((G _ kin2 (space gns)).run callerA [] s₁ H ⟨[.ref a], []⟩ [.ref a] [.ref a] _ _ rfl hr e0 (hbind s₁ (.ref a)) (.cons rfl .nil) hold) fun r s' q => ?_
    cases r with
    | error e => exact q.elim
    | ok fl =>
      cases fl with
      | next => exact q.elim
      | brk => exact q.elim
      | cont => exact q.elim
      | ret u =>
        obtain ⟨v, H', os, bare, un, hok', rv, e⟩ := q
        have e : v = .bl true := e
        subst e
        obtain rfl : u = Value.bool true := rv
        refine ⟨rfl, OldK.of_keep fun b o e => ?_, os, bare⟩
        cases q : H b with
        | none => exact un.keep b o e q (fun z => absurd (show b ∈ ([] : List Addr) from z) (by simp)) (by simp)
        | some u =>
          rcases only b with z | ⟨ob, xs, z⟩
          · rw [q] at z; cases z
          · have z2 := un.frzs b ob _ z
            obtain ⟨e1, _⟩ := hok b _ z
            obtain ⟨e2, _⟩ := hok' b _ z2
            rw [e] at e1; cases e1
            exact e2
  have big : ns.length ≤ sizeLine := Nat.le_trans len len2
  cases own : K.lookup a with
  | some o =>
    have e := kin a o own
    rw [obj] at e
    cases e
    exact core (fun _ => none) _ (fun _ => .inl rfl) (.inr rfl) (.klst ⟨_, vs.toArray, _, own, rfl, rfl, rfl, by rw [List.size_toArray, vl]; exact big, by simpa using vr⟩ (rps_iL ns)) (fun b u z => by have z' : (none : Option HO) = some u := z; cases z') (fun b z => absurd rfl z) fun z => absurd rfl z
  | none =>
    let H1 : Hp := fun b => if b = a then some (.frz { cls := .type "list", data := .seq vs.toArray } (.lst (ns.map V.int))) else none
    have at1 : H1 a = some (.frz { cls := .type "list", data := .seq vs.toArray } (.lst (ns.map V.int))) := if_pos rfl
    have at2 : ∀ b, b ≠ a → H1 b = none := fun b z => if_neg z
    refine core H1 _ (fun b => ?_) (.inl rfl) (.lst (.inr ⟨_, at1⟩) (rps_iL ns)) (fun b u z => ?_) (fun b z => ?_) fun _ => own
    · by_cases hb : b = a
      · exact .inr ⟨_, _, if_pos hb⟩
      · exact .inl (at2 b hb)
    · by_cases hb : b = a
      · subst hb
        rw [at1] at z
        cases z
        exact ⟨obj, by rw [List.length_map]; exact big, vs, _, vr, obj⟩
      · rw [at2 b hb] at z; cases z
    · exact Classical.byContradiction fun hb => z (at2 b hb)
/-- the head's last goal -/
theorem walkG {l : PySem.W.OpenLaw} {n k : Nat} {q : Program} {loose : List Str} {XP : (Str → Option Value) → Heap → Prop} {YP : World → Heap → Prop} {d : DefRec} {x : Str}
    (hn : l.most = some n) (hn2 : n ≤ sizeLine) (hdf : d.params.defaults = []) (hr : Room k callerA)
    (F : ∀ (w : World) (mg : Str → Option Value) (fa : Addr) (h : Heap), YP w h → h.Ns mainGlobals mg → mg d.name = some (.ref fa) →
      ∃ (K : PySem.W.Frag) (fd : FuncData), K.In h ∧ (∀ (s : Shared) (u : Value), BindsTo s fd ⟨[u], []⟩ [(x, u)]) ∧
        ∀ base : Heap, K.In base → base.Ns mainGlobals mg → FnG l.prog w K mg base CX0 k fa fd [x] (spD K 1 (spLaw n))) :
    PySem.W.WalkO q loose XP YP l.row.toRowW d [] (fun f vs => PySem.call f vs) := by
  refine Att.attach_callB hn hdf fun w s₀ s₁ mg mb fa o pm cd doc a vs ns G Y ho hd hcd hmg hobj hints hlen hbits hg => ?_
  obtain ⟨K, fd, KX, hb, hF⟩ := F w mg fa _ Y G.T.g hmg
  exact law_callG KX G.T.g G.T.b G.T.builtins G.T.nolimit hg hobj hints hlen hn2 hbits hr hF hb
end DX

set_option maxRecDepth 100000
set_option maxHeartbeats 4000000
namespace DX
open PySem PySem.Spec PyProof.Rows L2
/-! ### tuples that are noted as they are made; their index -/
section
variable {X : Cx}
theorem cr_tupN : CallR X (.type "tuple") (fun xs H Q => ∃ p ys, xs = [.ref p] ∧ SqL X.K H p ys ∧ ∀ (l : Addr) (H' : Hp), H l = none → (∃ o, H' = upd H l (.frz o (.tup ys)) ∧ KTup X.K H' l ys) → Q (.ref l) H') := by
  intro pins s σ H xs us Q I r h
  obtain ⟨p, ys, rfl, hq, q⟩ := h
  rw [Vals.ref1 r]
  obtain ⟨its, rv, pl, hz⟩ := I.list hq
  have len := rv.length
  refine call_tuple_list pl.isList (fun g k => ?_) (by simp only [List.size_toArray] <;> omega)
  have I1 : L2.Inv X pins σ H { s with heap := g } := I.kept (t' := s.toks) k
  have I2 : L2.Inv X pins σ (upd H g.objs.size (.frz { cls := .type "tuple", data := .seq its.toArray } (.tup ys))) { s with heap := g.push { cls := .type "tuple", data := .seq its.toArray } } :=
    I1.laid (t' := s.toks) (fun b o e => Heap.get?_push_of_some _ e) (Nat.le_refl _) (show ObjOk X.prog X.w _ _ _ (.frz _ (.tup ys)) from ⟨Heap.get?_push_size _ rfl, hz, its, rv, IsTup.new _ _⟩)
  exact ⟨.ref g.objs.size, _, I2, rfl, q _ _ (I1.hok.fresh (Nat.le_refl _)) ⟨_, rfl, _, its.toArray, _, rfl, rfl, rfl, by simp only [List.size_toArray]; omega, by simpa using rv, .inr upd_same⟩⟩
def rTupleN (ds : List D) (h : DHp) (Q : DQ) : Prop := ∃ x xs, ds = [x] ∧ seqL h x = some xs ∧ Q (.ktup xs) h
theorem c_tupleN : CallR X (.type "tuple") (tDC X.K rTupleN) := impC cr_tupN fun vs H Q q => by
  obtain ⟨F, h, ds, Q', rs, hd, ⟨x, xs, e, e2, q⟩, k⟩ := q
  subst e
  cases rs with
  | cons r t =>
    cases t
    obtain ⟨a, ys, e3, e4, ry⟩ := r.seqL hd e2
    subst e3
    refine ⟨a, ys, rfl, .inl e4, fun l H' nl ⟨o, e5, kt⟩ => ?_⟩
    subst e5
    exact k F _ h _ _ (Le.new nl) (.ktup kt (ry.le (Le.new nl))) (hd.new nl) q
def isNt (x : D) (h : DHp) : Prop := match x with
  | .ktup _ => True
  | _ => False
variable {o e : Expr} {es : List Expr} {name : Str} {apos cpos : Pos} {id : String} {rR : D → List D → DHp → DQ → Prop} {ro : DE} {ra : DA}
theorem de_nm (slot : Slot "tuple" name id) (hty : typeOf (.builtin id) = pure (.type "method_descriptor")) (hm : MtR X id (tDM X.K rR)) (ho : PDE X o ro) (ha : PDA X (e :: es) ra)
    (base : attributeBase o name X.env (eval o X.env) = eval o X.env := by rfl)
    (few : ((backTo cpos (starEach (e :: es) X.env)).all (fun x => !x.1) && (backToKw cpos (keywordEach [] X.env)).all (fun x => x.1.isSome) && decide ((e :: es).length + ([] : List Keyword).length + (if ([] : List Keyword).isEmpty then 0 else 1) < 30)) = true := by rfl)
    (line : (apos.endLine == cpos.line) = true := by rfl) (he : starEach (e :: es) X.env = (false, eval e X.env) :: starEach es X.env := by rfl) (pl : (backTo cpos (starEach es X.env)).any (·.1) = false := by rfl) :
    PDE X (.Call (.Attribute o name apos) (e :: es) [] cpos) (rBM isNt rR ro ra) := by
  refine ⟨fun pins s σ H Q I q => ?_⟩
  obtain ⟨F, ρ, h, Q', sl, hd, q, k⟩ := q
  refine wpAny_Call_method_late base few line rfl (thn (ho.run pins s σ H _ I ⟨F, ρ, h, _, sl, hd, q, fun F1 x h1 v1 H1 l1 rx d1 q1 => (⟨F1, x, h1, l1, rx, d1, q1⟩ : ∃ F1 x h1, Le F H F1 H1 ∧ Rp X.K F1 H1 v1 x ∧ Hd X.K F1 H1 h1 ∧ (isNt x h1 ∧ ra ρ h1 fun ds h2 => rR x ds h2 Q'))⟩) fun v s1 z => ?_)
  obtain ⟨x1, H1, I1, r1, F1, x, h1, l1, rx, d1, nt, q1⟩ := z
  cases rx with
  | @ktup a xs ds kt rs =>
    have kt0 := kt
    obtain ⟨ob, its, n, k1, k2, k3, k4, k5, k6⟩ := kt
    cases r1
    have got : s1.heap.get? a = some ob := by
      rcases k6 with z | z
      · exact I1.kIn a ob z
      · exact (I1.hok a _ z).1
    refine ⟨"tuple", id, PySem.F.plainAttrs_tuple, slot, hty, ⟨ob, got, k1⟩, fun b e => by cases e; exact ⟨ob, got, k2⟩, ?_⟩
    have hA := ha.run cpos pins s1 σ H1 _ I1 (⟨F1, ρ, h1, _, sl.le l1, d1, q1, fun F2 ds h2 vs H2 l2 rs2 d2 q2 => (⟨F2, ds, h2, l2, rs2, d2, q2⟩ : ∃ F2 ds h2, Le F1 H1 F2 H2 ∧ Rps X.K F2 H2 vs ds ∧ Hd X.K F2 H2 h2 ∧ rR (D.ktup _) ds h2 Q')⟩)
    rw [he] at hA ⊢
    refine Calls.callWith_builtin (by show (false || (backTo cpos (starEach es X.env)).any (·.1)) = false; rw [pl] <;> rfl) (Calls.evalArgs_plain ?_)
    exact thn hA fun us s2 ⟨vs, H2, I2, r2, F2, ds2, h2, l2, rs2, d2, q2⟩ => hm pins s2 σ H2 (.ref a) vs (.ref a) us Q I2 rfl r2 ⟨F2, h2, .ktup ds, ds2, Q', (Rp.ktup kt0 rs).le l2, rs2, d2, q2, k.le (l1.trans l2)⟩
  | _ => exact nt.elim
def rTIdx (x : D) (ds : List D) (h : DHp) (Q : DQ) : Prop := ∃ (ys : List String) (z : String) (j : Nat), x = .ktup (ys.map D.str) ∧ ds = [.str z] ∧ ys[j]? = some z ∧ (∀ m, m < j → ys[m]? ≠ some z) ∧ Q (.int (j : Nat)) h
theorem m_tindex : MtR X "tuple.index" (tDM X.K rTIdx) := impM mt_tup_index fun x xs H Q q => by
  obtain ⟨F, h, d, ds, Q', rx, rs, hd, ⟨ys, z, j, e1, e2, e3, e4, q⟩, k⟩ := q
  subst e1 e2
  cases rx with
  | @ktup a vs _ kt rv =>
    cases rs with
    | cons r t =>
      cases t; cases r
      have back : ∀ {ys : List String} {vs : List V}, Rps X.K F H vs (ys.map D.str) → vs = (ys.map Str.ofString).map V.str := fun {ys} => by
        induction ys with
        | nil => intro vs r; cases r; rfl
        | cons y ys ih =>
          intro vs r
          rw [List.map_cons] at r
          cases r with
          | cons r t => cases r; rw [ih t]; rfl
      have e5 := back rv
      subst e5
      refine ⟨a, ys.map Str.ofString, Str.ofString z, j, rfl, rfl, kt.sq, by rw [List.getElem?_map, e3]; rfl, fun m hm e => e4 m hm ?_, k F _ h _ H .refl (.int _) hd q⟩
      rw [List.getElem?_map] at e
      obtain ⟨y, ey, e6⟩ := Option.map_eq_some_iff.mp e
      rw [ey, ofString_inj e6]
end
end DX

set_option maxRecDepth 100000
set_option maxHeartbeats 4000000
namespace K26
open PySem PySem.Spec PyProof.Rows L2 DX
/-! ### the drawing's state -/
def stC (g : Addr) (cs : List Int) (r t m : Int) : Cell := .dK [(.inr "great", .ref g), (.inr "cells", .lst (iL cs)), (.inr "rest", .int r), (.inr "turn", .int t), (.inr "more", .int m)]
structure StOk (h : DHp) (S g : Addr) (gs cs : List Int) (r t m : Int) : Prop where
  s : h S = some (stC g cs r t m)
  g : h g = some (.lst (iL gs))
  gn : ∀ z ∈ gs, 0 ≤ z
  cn : ∀ z ∈ cs, 0 ≤ z
  r0 : 0 ≤ r
  t0 : 0 ≤ t
  m0 : 0 ≤ m
  m1 : m < 2147483647
theorem StOk.ne {h : DHp} {S g : Addr} {gs cs : List Int} {r t m : Int} (O : StOk h S g gs cs r t m) : g ≠ S := fun e => by
  have h1 := O.s
  have h2 := O.g
  rw [e, h1] at h2
  cases h2
def St (h : DHp) (S g : Addr) : Prop := ∃ gs cs r t m, StOk h S g gs cs r t m
/-- nothing else was touched -/
def Fr (S g : Addr) (h h' : DHp) : Prop := ∀ a c, a ≠ S → a ≠ g → h a = some c → h' a = some c
def FrA (h h' : DHp) : Prop := ∀ a c, h a = some c → h' a = some c
theorem Fr.refl {S g : Addr} {h : DHp} : Fr S g h h := fun _ _ _ _ e => e
theorem Fr.trans {S g : Addr} {h h1 h2 : DHp} (p : Fr S g h h1) (q : Fr S g h1 h2) : Fr S g h h2 := fun a c n1 n2 e => q a c n1 n2 (p a c n1 n2 e)
theorem FrA.refl {h : DHp} : FrA h h := fun _ _ e => e
theorem FrA.trans {h h1 h2 : DHp} (p : FrA h h1) (q : FrA h1 h2) : FrA h h2 := fun a c e => q a c (p a c e)
theorem FrA.fr {S g : Addr} {h h1 : DHp} (p : FrA h h1) : Fr S g h h1 := fun a c _ _ e => p a c e
theorem FrA.st {S g : Addr} {h h1 : DHp} (p : FrA h h1) : St h S g → St h1 S g := fun ⟨gs, cs, r, t, m, O⟩ => ⟨gs, cs, r, t, m, ⟨p _ _ O.s, p _ _ O.g, O.gn, O.cn, O.r0, O.t0, O.m0, O.m1⟩⟩
theorem FrA.new {h : DHp} {p : Addr} {c : Cell} (n : h p = none) : FrA h (updD h p c) := fun a c' e => by
  have : a ≠ p := fun z => by rw [z, n] at e; cases e
  rw [updD_ne this]; exact e
/-- what a drawing def promises -/
def Dr (S g : Addr) (h : DHp) (R : D → Prop) (Q : DQ) : Prop := ∀ d h', R d → St h' S g → Fr S g h h' → Q d h'
def sL (xs : List String) : List D := xs.map D.str
def sp_begun : DSp := fun ds h Q _ => ∃ x ns, ds = [x] ∧ scr x ns ∧ ns.length ≤ 63 ∧ ∀ S g h', St h' S g → FrA h h' → Q (.ref S) h'
def sp_take : DSp := fun ds h Q _ => ∃ S g n, ds = [.ref S, .int n] ∧ 0 < n ∧ n < 1073741824 ∧ St h S g ∧ Dr S g h (fun d => ∃ z, d = .int z ∧ 0 ≤ z ∧ z < n) Q
def sp_pick : DSp := fun ds h Q _ => ∃ S g xs, ds = [.ref S, .lst xs] ∧ xs ≠ [] ∧ xs.length ≤ 1000 ∧ St h S g ∧ Dr S g h (fun d => d ∈ xs) Q
def topOk (t : Int) : Prop := 1 ≤ t ∧ t ≤ 1000000000
def sp_top : DSp := fun ds h Q _ => ∃ S g, ds = [.ref S] ∧ St h S g ∧ Dr S g h (fun d => ∃ t, d = .int t ∧ topOk t) Q
def sp_number : DSp := fun ds h Q _ => ∃ S g t, ds = [.ref S, .int t] ∧ topOk t ∧ St h S g ∧ Dr S g h (fun d => ∃ z, d = .int z ∧ 0 ≤ z ∧ z ≤ t) Q
/-! ### terms, rows, helpers, programs -/
inductive Tm where
  | num (i : Int) | at (x : String) | op (w : String) (a b : Tm)
def Tm.d : Tm → D
  | .num i => .tup [.str "number", .int i]
  | .at x => .tup [.str "at", .str x]
  | .op w a b => .tup [.str w, a.d, b.d]
def Tm.dep : Tm → Nat
  | .op _ a b => max a.dep b.dep + 1
  | _ => 0
def Tm.cells : Tm → List String
  | .num _ => []
  | .at x => [x]
  | .op _ a b => a.cells ++ b.cells
def opsW : List String := ["sum", "less", "times", "below", "same"]
def Tm.ok (names : List String) (top : Int) : Tm → Prop
  | .num i => 0 ≤ i ∧ i ≤ top
  | .at x => x ∈ names
  | .op w a b => w ∈ opsW ∧ a.ok names top ∧ b.ok names top
inductive Rw where
  | ask (x : String) | tell (t : Tm) | iff (t : Tm) (to : Int) | go (to : Int) | give (t : Tm) | set (x : String) (t : Tm) | call (b : Option String) (nm : String) (as : List Tm)
def oS : Option String → D
  | none => .non
  | some x => .str x
def Rw.d : Rw → D
  | .ask x => .tup [.str "ask", .str x]
  | .tell t => .tup [.str "tell", t.d]
  | .iff t i => .tup [.str "if", t.d, .int i]
  | .go i => .tup [.str "go", .int i]
  | .give t => .tup [.str "give", t.d]
  | .set x t => .tup [.str "set", .str x, t.d]
  | .call b n as => .tup [.str "call", oS b, .str n, .tup (as.map Tm.d)]
def Tm.good (names : List String) (top : Int) (n : Nat) (t : Tm) : Prop := t.ok names top ∧ t.dep ≤ n
def Rw.ok (names : List String) (top : Int) (many : Nat) (A : List (String × Nat)) : Rw → Prop
  | .ask x => x ∈ names
  | .tell t => t.good names top 2
  | .iff t i => t.good names top 2 ∧ 0 ≤ i ∧ i < many
  | .go i => 0 ≤ i ∧ i < many
  | .give t => t.good names top 1
  | .set x t => x ∈ names ∧ t.good names top 2
  | .call b n as => (∀ x, b = some x → x ∈ names) ∧ (n, as.length) ∈ A ∧ as.length ≤ 3 ∧ ∀ t ∈ as, t.good names top 1
def Rw.isCall : Rw → Bool
  | .call .. => true
  | _ => false
structure Hlp where
  name : String
  ps : List String
  rows : List Rw
def Hlp.d (p : Hlp) : D := .tup [.str p.name, .ktup (sL p.ps), .tup (p.rows.map Rw.d)]
structure Hlp.ok (p : Hlp) (names : List String) (top : Int) (A : List (String × Nat)) : Prop where
  few : names.length ≤ 6
  ps : p.ps.length ≤ 3
  psn : ∀ x ∈ p.ps, x ∈ names
  nd : p.ps.Nodup
  r1 : 1 ≤ p.rows.length
  r7 : p.rows.length ≤ 7
  row : ∀ i r, p.rows[i]? = some r → r.ok names top p.rows.length A ∧ (r.isCall = true → i + 1 < p.rows.length)
def aheadD (A : List (String × Nat)) : List D := A.map fun p => .tup [.str p.1, .int (p.2 : Nat)]
def aheadOk (A : List (String × Nat)) : Prop := A.length ≤ 2 ∧ ∀ p ∈ A, p.2 ≤ 3
def aheadOf (hs : List Hlp) : List (String × Nat) := hs.map fun p => (p.name, p.ps.length)
structure Prog (top : Int) (hs : List Hlp) : Prop where
  tp : topOk top
  l1 : 1 ≤ hs.length
  l3 : hs.length ≤ 3
  nm : (hs.map Hlp.name).Nodup
  hp : ∀ (k : Nat) (p : Hlp), hs[k]? = some p → ∃ names : List String, p.ok names top (aheadOf (hs.take k))
def okW (ws : List String) : Prop := ws.length = 6 ∧ ws.Nodup
def namesOk (names : List String) : Prop := names ≠ [] ∧ names.length ≤ 6
def spRk (n : Nat) : DSp := fun ds h Q _ => ∃ S g top names k, ds = [.ref S, .int top, .lst (sL names), .int (k : Nat)] ∧ k < n ∧ topOk top ∧ namesOk names ∧ St h S g ∧ Dr S g h (fun d => ∃ t : Tm, d = t.d ∧ t.good names top k) Q
def sp_reckoning : DSp := spRk 3
def sp_words : DSp := fun ds h Q _ => ∃ S g, ds = [.ref S] ∧ St h S g ∧ Dr S g h (fun d => ∃ ws, d = .lst (sL ws) ∧ okW ws) Q
def sp_call : DSp := fun ds h Q _ => ∃ S g top names A, ds = [.ref S, .int top, .lst (sL names), .lst (aheadD A)] ∧ topOk top ∧ namesOk names ∧ aheadOk A ∧ A ≠ [] ∧ St h S g ∧ Dr S g h (fun d => ∃ r : Rw, d = r.d ∧ r.isCall = true ∧ ∀ many, r.ok names top many A) Q
def sp_row : DSp := fun ds h Q _ => ∃ S g top names x i many, ds = [.ref S, .int top, .lst (sL names), x, .tup [.int (i : Nat), .int (many : Nat)]] ∧ topOk top ∧ namesOk names ∧ i < many ∧ many ≤ 7 ∧ St h S g ∧ Dr S g h (fun d => ∃ r : Rw, d = r.d ∧ r.isCall = false ∧ ∀ A, r.ok names top many A) Q
def sp_helper : DSp := fun ds h Q _ => ∃ S g top name xs A, ds = [.ref S, .int top, .str name, .lst xs, .lst (aheadD A)] ∧ topOk top ∧ xs.length ≤ 3 ∧ aheadOk A ∧ St h S g ∧ Dr S g h (fun d => ∃ (p : Hlp) (names : List String), d = p.d ∧ p.name = name ∧ p.ps.length = xs.length ∧ p.ok names top A) Q
def progD (top : Int) (hs : List Hlp) : D := .tup [.int top, .tup (hs.map Hlp.d)]
def sp_program : DSp := fun ds h Q _ => ∃ S g, ds = [.ref S] ∧ St h S g ∧ Dr S g h (fun d => ∃ top hs, d = progD top hs ∧ Prog top hs) Q
/-! ### laying -/
inductive Ft where
  | num (i : Int) | at (s : Int) | op (w : String) (a b : Ft)
def Ft.d : Ft → D
  | .num i => .tup [.str "number", .int i]
  | .at s => .tup [.str "at", .int s]
  | .op w a b => .tup [.str w, a.d, b.d]
def Tm.put (f : String → Int) : Tm → Ft
  | .num i => .num i
  | .at x => .at (f x)
  | .op w a b => .op w (a.put f) (b.put f)
/-- the table at T tells f for these names -/
def TabOk (h : DHp) (T : Addr) (f : String → Int) (xs : List String) : Prop := ∃ tb, h T = some (.dK tb) ∧ ∀ x ∈ xs, getD' tb (.inr x) = some (.int (f x))
def spPut (n : Nat) : DSp := fun ds h Q _ => ∃ (t : Tm) (names : List String) (top : Int) (T : Addr) (f : String → Int), ds = [t.d, .ref T] ∧ t.dep < n ∧ t.ok names top ∧ TabOk h T f t.cells ∧ Q (t.put f).d h
def sp_put : DSp := spPut 3
def spCells (n : Nat) : DSp := fun ds h Q _ => ∃ (t : Tm) (names : List String) (top : Int), ds = [t.d] ∧ t.dep < n ∧ t.ok names top ∧ Q (.lst (sL t.cells)) h
def sp_cells : DSp := spCells 3
def Rw.used : Rw → List String
  | .ask x => [x]
  | .tell t => t.cells
  | .iff t _ => t.cells
  | .go _ => []
  | .give t => t.cells
  | .set x t => x :: t.cells
  | .call b _ as => b.toList ++ as.flatMap Tm.cells
def Hlp.used (p : Hlp) : List String := p.ps ++ p.rows.flatMap Rw.used
def namesOf (p : Hlp) (ns : List String) : Prop := ns.Nodup ∧ ascS ns ∧ ∀ x, x ∈ ns ↔ x ∈ p.used
def sp_names : DSp := fun ds h Q _ => ∃ (p : Hlp) (names : List String) (top : Int) (A : List (String × Nat)), ds = [p.d] ∧ p.ok names top A ∧ ∀ ns h', namesOf p ns → FrA h h' → Q (.lst (sL ns)) h'
def pD (p : List Int) : D := .tup (iL p)
def rowOn (f : String → Int) (path : List Int) : Rw → D
  | .set x t => .tup [.str "set", .int (f x), (t.put f).d]
  | .ask x => .tup [.str "ask", .int (f x)]
  | .tell t => .tup [.str "tell", (t.put f).d]
  | .iff t i => .tup [.str "if", (t.put f).d, pD (path ++ [i])]
  | .go i => .tup [.str "go", pD (path ++ [i])]
  | _ => .non
def plainRow : Rw → Bool
  | .call .. => false
  | .give _ => false
  | _ => true
def sp_row_on : DSp := fun ds h Q _ => ∃ (r : Rw) (names : List String) (top : Int) (many : Nat) (A : List (String × Nat)) (T : Addr) (f : String → Int) (path : List Int), ds = [r.d, .ref T, pD path] ∧ plainRow r = true ∧ r.ok names top many A ∧ TabOk h T f r.used ∧ path.length ≤ 100 ∧ Q (rowOn f path r) h
/-- a frame of a label: number, place, slots -/
abbrev Fm := Int × Int × List Int
def fmD (x : Fm) : D := .tup [.int x.1, .int x.2.1, .tup (iL x.2.2)]
abbrev Lab := Option (List Fm)
def labD : Lab → D
  | none => .non
  | some fs => .tup (fs.map fmD)
def fmOk (f : Int) (x : Fm) : Prop := 0 ≤ x.1 ∧ x.1 ≤ 3 ∧ 0 ≤ x.2.1 ∧ x.2.1 ≤ 7 ∧ x.2.2.length ≤ 6 ∧ ∀ s ∈ x.2.2, 0 ≤ s ∧ s < f
def labOk (f : Int) (l : Lab) : Prop := ∀ fs, l = some fs → fs.length ≤ 3 ∧ ∀ x ∈ fs, fmOk f x
/-- a row laid; P: what holds of the paths that it names -/
inductive FR (P : List Int → Prop) : D → Prop
  | goi (i : Int) : FR P (.tup [.str "go", .int i])
  | gop (p : List Int) : P p → FR P (.tup [.str "go", pD p])
  | ifp (t : Ft) (p : List Int) : P p → FR P (.tup [.str "if", t.d, pD p])
  | set (i : Int) (t : Ft) : FR P (.tup [.str "set", .int i, t.d])
  | ask (i : Int) : FR P (.tup [.str "ask", .int i])
  | tell (t : Ft) : FR P (.tup [.str "tell", t.d])
  | fin : FR P (.tup [.str "end"])
theorem FR.mono {P R : List Int → Prop} (h : ∀ p, P p → R p) : ∀ {d : D}, FR P d → FR R d
  | _, .goi i => .goi i
  | _, .gop p z => .gop p (h p z)
  | _, .ifp t p z => .ifp t p (h p z)
  | _, .set i t => .set i t
  | _, .ask i => .ask i
  | _, .tell t => .tell t
  | _, .fin => .fin
def layC (r l b : Addr) (f : Int) : Cell := .dK [(.inr "rows", .ref r), (.inr "labels", .ref l), (.inr "begins", .ref b), (.inr "free", .int f)]
abbrev PK := List (List DK × D)
def pk (p : List Int) : List DK := p.map Sum.inl
def hasK (kvs : PK) (p : List Int) : Prop := ∃ v : Int, getT kvs (pk p) = some (.int v)
structure LayI (h : DHp) (Z r l b : Addr) (T : List Int → Prop) (M : Nat) (rows : List D) (labs : List Lab) (kvs : PK) (f : Int) : Prop where
  cz : h Z = some (layC r l b f)
  cr : h r = some (.lst rows)
  cl : h l = some (.lst (labs.map labD))
  cb : h b = some (.dT kvs)
  rl : r ≠ l
  len : rows.length = labs.length
  row : ∀ d ∈ rows, FR (fun p => hasK kvs p ∨ T p) d
  lab : ∀ x ∈ labs, labOk f x
  f0 : 0 ≤ f
  m1 : rows.length ≤ M
  m2 : kvs.length ≤ M
  m3 : f ≤ M
/-- the cells of the laying's state -/
def own (h : DHp) (Z a : Addr) : Prop := a = Z ∨ ∃ r l b f, h Z = some (layC r l b f) ∧ (a = r ∨ a = l ∨ a = b)
structure FrL (Z : Addr) (h h' : DHp) : Prop where
  keep : ∀ a c, ¬ own h Z a → h a = some c → h' a = some c
  own : ∀ a, own h' Z a → own h Z a ∨ h a = none
/-- what the laying leaves: more rows, the same keys and more -/
def LayTo (Z : Addr) (T : List Int → Prop) (h : DHp) (n0 M : Nat) (kvs : PK) (f0 : Int) (Q : DQ) : Prop :=
  ∀ h' r l b rows labs kvs' f, LayI h' Z r l b T M rows labs kvs' f → FrL Z h h' → n0 ≤ rows.length → (∀ p, hasK kvs p → hasK kvs' p) → f0 ≤ f → Q .non h'
def cost (n : Nat) : Nat := 10 ^ (n + 2)
def backD : Option (Option Int × List Int) → D
  | none => .non
  | some (o, p) => .tup [(match o with | none => .non | some i => .int i), pD p]
/-- laying helper n -/
def SpLay (n : Nat) : DSp := fun ds h Q _ => ∃ (hs : List Hlp) (top : Int) (Z : Addr) (path : List Int) (fs : List Fm) (back : Option (Option Int × List Int)) (r : Addr) (l : Addr) (b : Addr) (T : List Int → Prop) (M : Nat) (rows : List D) (labs : List Lab) (kvs : PK) (f : Int), ds = [.tup (hs.map Hlp.d), .ref Z, .int (n : Nat), .tup [pD path, .tup (fs.map fmD), backD back]] ∧ Prog top hs ∧ n < hs.length ∧
  LayI h Z r l b T M rows labs kvs f ∧ M + cost n ≤ 100000 ∧ path.length + n ≤ 3 ∧ fs.length + n ≤ 2 ∧ (∀ x ∈ fs, fmOk f x) ∧ (∀ o p, back = some (o, p) → hasK kvs p ∨ T p) ∧ LayTo Z T h (rows.length + 1) (M + cost n) kvs f Q
def spLay (n : Nat) : DSp := fun ds h Q E => ∃ j, j < n ∧ SpLay j ds h Q E
def sp_lay : DSp := spLay 3
/-- laying a call in helper n -/
def SpLayCall (n : Nat) : DSp := fun ds h Q _ => ∃ (hs : List Hlp) (top : Int) (Z : Addr) (path : List Int) (fs : List Fm) (p : Hlp) (names : List String) (i : Int) (bk : Option String) (nm : String) (as : List Tm) (Tb : Addr) (g : String → Int) (r : Addr) (l : Addr) (b : Addr) (T : List Int → Prop) (M : Nat) (rows : List D) (labs : List Lab) (kvs : PK) (f : Int), ds = [.tup (hs.map Hlp.d), .ref Z, (Rw.call bk nm as).d, .tup [pD (path ++ [i]), .tup (fs.map fmD), .ref Tb]] ∧ Prog top hs ∧ n < hs.length ∧
  hs[n]? = some p ∧ p.ok names top (aheadOf (hs.take n)) ∧ (Rw.call bk nm as).ok names top p.rows.length (aheadOf (hs.take n)) ∧ TabOk h Tb g (Rw.call bk nm as).used ∧ ¬ own h Z Tb ∧
  LayI h Z r l b T M rows labs kvs f ∧ M + (8 + cost (n - 1)) ≤ 100000 ∧ path.length + n ≤ 3 ∧ fs.length + n ≤ 3 ∧ (∀ x ∈ fs, fmOk f x) ∧ (hasK kvs (path ++ [i + 1]) ∨ T (path ++ [i + 1])) ∧ LayTo Z T h (rows.length + 1) (M + (8 + cost (n - 1))) kvs f Q
def spLayCall (n : Nat) : DSp := fun ds h Q E => ∃ j, j ≤ n ∧ SpLayCall j ds h Q E
def flatD (top fr : Int) (rows : List D) (labs : List Lab) : D := .tup [.tup [.int top, .int fr, .tup rows], .tup (labs.map labD)]
structure FlatOk (top fr : Int) (rows : List D) (labs : List Lab) : Prop where
  tp : topOk top
  f1 : 1 ≤ fr
  f2 : fr ≤ 200000
  len : rows.length = labs.length
  r1 : 1 ≤ rows.length
  r2 : rows.length ≤ 200000
  lab : ∀ x ∈ labs, labOk fr x
def sp_laid : DSp := fun ds h Q _ => ∃ top hs, ds = [progD top hs] ∧ Prog top hs ∧ ∀ fr rows labs h', FlatOk top fr rows labs → FrA h h' → Q (flatD top fr rows labs) h'
/-! ### showings and moments -/
structure Sh where
  row : Nat
  ws : List (Option Int)
  cnt : Int
  said : List Int
def oI : Option Int → D
  | none => .non
  | some i => .int i
def Sh.d (s : Sh) : D := .tup [.int (s.row : Nat), .tup (s.ws.map oI), .int s.cnt, .tup (iL s.said)]
structure Sh.ok (s : Sh) (top fr : Int) (labs : List Lab) : Prop where
  row : s.row < labs.length
  ws : (s.ws.length : Int) = fr
  wn : ∀ i, some i ∈ s.ws → 0 ≤ i ∧ i ≤ top
  c0 : 0 ≤ s.cnt
  c9 : s.cnt < 9
  sl : s.said.length < 3
  sn : ∀ i ∈ s.said, 0 ≤ i ∧ i ≤ top
def frD (ws : List (Option Int)) (x : Fm) : D := .tup [.int x.1, .int x.2.1, .tup (x.2.2.map fun s => oI ((ws[s.toNat]?).getD none))]
def momD (labs : List Lab) (shs : List Sh) : List D := shs.filterMap fun s => match (labs[s.row]?).getD none with
  | none => none
  | some fs => some (.tup [.tup (fs.map (frD s.ws)), .int s.cnt, .tup (iL s.said)])
def sp_mom : DSp := fun ds h Q _ => ∃ (labs : List Lab) (shs : List Sh) (top fr : Int) (x : D), ds = [.tup (labs.map labD), x] ∧ seqD h x = some (shs.map Sh.d) ∧ (∀ l ∈ labs, labOk fr l) ∧ labs.length ≤ 200000 ∧ shs.length ≤ 100 ∧ (∀ s ∈ shs, s.ok top fr labs) ∧
  ∀ p h', h p = none → h' p = some (.lst (momD labs shs)) → FrA h h' → Q (.ref p) h'
def sp_told_by : DSp := sp_mom
def sp_p_moments_of : DSp := sp_mom
def sp_showings : DSp := fun ds h Q _ => ∃ S g top fr rows labs, ds = [.ref S, .tup [.int top, .int fr, .tup rows]] ∧ FlatOk top fr rows labs ∧ St h S g ∧
  ∀ (shs : List Sh) (p : Addr) (h' : DHp), h p = none → h' p = some (.lst (shs.map Sh.d)) → shs.length < 15 → (∀ s ∈ shs, s.ok top fr labs) → p ≠ S → p ≠ g → St h' S g → Fr S g h h' → Q (.ref p) h'
end K26

set_option maxRecDepth 100000
set_option maxHeartbeats 4000000
namespace K26
open PySem PySem.Spec PyProof.Rows L2 DX
def top (i : Nat) : Stmt := PySem.Challenge.pw_askthrough_k26_showings_as_moments.main.body.getD i (.Pass ⟨0, 0, 0, 0⟩)
/-! ### moments_of -/
abbrev s_p_moments_of : Stmt := top 1
def N_p_moments_of : List Str := ["labels", "showings", "found", "row", "worths", "asked", "told", "frames", "slot", "helper", "place", "slots"]
def P_p_moments_of : List Str := ["labels", "showings"]
theorem sc_p_moments_of : FnScope N_p_moments_of P_p_moments_of (defScope s_p_moments_of) := ⟨rfl, rfl, rfl, by decide +kernel, rfl, by decide +kernel, by decide +kernel⟩
theorem k_p_moments_of : (defScope s_p_moments_of).kind = .function := rfl
theorem l_p_moments_of_0 : (defScope s_p_moments_of).names.lookup (Str.ofString "labels") = some .local := by decide +kernel
theorem n_p_moments_of_0 : Nm N_p_moments_of (defScope s_p_moments_of) 0 "labels" := ⟨rfl, .inl l_p_moments_of_0, by decide, by decide⟩
theorem l_p_moments_of_1 : (defScope s_p_moments_of).names.lookup (Str.ofString "showings") = some .local := by decide +kernel
theorem n_p_moments_of_1 : Nm N_p_moments_of (defScope s_p_moments_of) 1 "showings" := ⟨rfl, .inl l_p_moments_of_1, by decide, by decide⟩
theorem l_p_moments_of_2 : (defScope s_p_moments_of).names.lookup (Str.ofString "found") = some .local := by decide +kernel
theorem n_p_moments_of_2 : Nm N_p_moments_of (defScope s_p_moments_of) 2 "found" := ⟨rfl, .inl l_p_moments_of_2, by decide, by decide⟩
theorem l_p_moments_of_3 : (defScope s_p_moments_of).names.lookup (Str.ofString "row") = some .local := by decide +kernel
theorem n_p_moments_of_3 : Nm N_p_moments_of (defScope s_p_moments_of) 3 "row" := ⟨rfl, .inl l_p_moments_of_3, by decide, by decide⟩
theorem l_p_moments_of_4 : (defScope s_p_moments_of).names.lookup (Str.ofString "worths") = some .cell := by decide +kernel
theorem n_p_moments_of_4 : Nm N_p_moments_of (defScope s_p_moments_of) 4 "worths" := ⟨rfl, .inr (.inl l_p_moments_of_4), by decide, by decide⟩
theorem l_p_moments_of_5 : (defScope s_p_moments_of).names.lookup (Str.ofString "asked") = some .local := by decide +kernel
theorem n_p_moments_of_5 : Nm N_p_moments_of (defScope s_p_moments_of) 5 "asked" := ⟨rfl, .inl l_p_moments_of_5, by decide, by decide⟩
theorem l_p_moments_of_6 : (defScope s_p_moments_of).names.lookup (Str.ofString "told") = some .local := by decide +kernel
theorem n_p_moments_of_6 : Nm N_p_moments_of (defScope s_p_moments_of) 6 "told" := ⟨rfl, .inl l_p_moments_of_6, by decide, by decide⟩
theorem l_p_moments_of_7 : (defScope s_p_moments_of).names.lookup (Str.ofString "frames") = some .local := by decide +kernel
theorem n_p_moments_of_7 : Nm N_p_moments_of (defScope s_p_moments_of) 7 "frames" := ⟨rfl, .inl l_p_moments_of_7, by decide, by decide⟩
theorem g_p_moments_of_tuple : Gn (defScope s_p_moments_of) "tuple" := ⟨by decide +kernel, by decide, by decide⟩
def rd_p_moments_of  : DS :=
  (rSeq (rAsg (rLstM rNil) (gN 2))
    (rCut (rFor (rSq (rVar 1)) (gT 4 (gsC (gN 3) (gsC (gN 4) (gsC (gN 5) (gsC (gN 6) gs0))))) (rIf (rB (rOp rNotN (rOp rIx (rVar 0) (rVar 3)) (rC .non))) (rSeq (rAsg (rLc (rSq (rOp rIx (rVar 0) (rVar 3))) (.tp [(.nm 9), (.nm 10), (.nm 11)]) rYes (rTup (rCons (rVar 9) (rCons (rVar 10) (rCons (rCB rTuple (rCons (rLc (rSq (rVar 11)) (.nm 8) rYes (rOp rIx (rVar 4) (rVar 8)) [8] true) rNil)) rNil)))) [9, 10, 11] true) (gN 7))
    (rDrop (rBM isLst rAppend (rVar 2) (rCons (rTup (rCons (rCB rTuple (rCons (rVar 7) rNil)) (rCons (rVar 5) (rCons (rVar 6) rNil)))) rNil)))) rNext))
    (rRet (rVar 2))))
theorem d_p_moments_of {X : Cx} {k : Nat} (C : Ct X N_p_moments_of (defScope s_p_moments_of) k) (hfn : ∀ y, X.fn y = true)  (b_tuple : X.mg "tuple" = none) : PDSs X (defBody s_p_moments_of) (rd_p_moments_of ) :=
  (dss_cons (xset C 2 n_p_moments_of_2 (.inl l_p_moments_of_2) (de_lstM da_nil))
    (dss_cut (ds_for C.pass C.calm (di_seq (xv C 1 n_p_moments_of_1)) (dg_tup C.calm (dgs_cons (xgn C 3 n_p_moments_of_3 (.inl l_p_moments_of_3)) (dgs_cons (xgn C 4 n_p_moments_of_4 (.inr ⟨l_p_moments_of_4, hfn _⟩)) (dgs_cons (xgn C 5 n_p_moments_of_5 (.inl l_p_moments_of_5)) (dgs_cons (xgn C 6 n_p_moments_of_6 (.inl l_p_moments_of_6)) dgs_nil)))))
    (dss_one (ds_if (dt_cmp d_notN (de_ix d_ix (xv C 0 n_p_moments_of_0) (xv C 3 n_p_moments_of_3) (fun _ _ => rfl)) de_non (nobehind _ (by decide) (by decide))) (dss_cons (xslc C true 7 (own := [("helper", 9), ("place", 10), ("slots", 11)]) n_p_moments_of_7 l_p_moments_of_7 rfl (by decide +kernel) (di_seq (de_ix d_ix (xv C 0 n_p_moments_of_0) (xv C 3 n_p_moments_of_3) (fun _ _ => rfl))) (by decide +kernel) (by decide) k_p_moments_of (fun _ _ _ _ _ D1 => (tg_tp D1.calm (tg_cons (xtg D1 9 ⟨rfl, (by first | exact .inl rfl | exact .inr (.inl rfl) | exact .inr (.inr rfl)), by decide, by decide⟩ (by first | exact .inl rfl | exact .inr ⟨rfl, rfl⟩)) (tg_cons (xtg D1 10 ⟨rfl, (by first | exact .inl rfl | exact .inr (.inl rfl) | exact .inr (.inr rfl)), by decide, by decide⟩ (by first | exact .inl rfl | exact .inr ⟨rfl, rfl⟩)) (tg_cons (xtg D1 11 ⟨rfl, (by first | exact .inl rfl | exact .inr (.inl rfl) | exact .inr (.inr rfl)), by decide, by decide⟩ (by first | exact .inl rfl | exact .inr ⟨rfl, rfl⟩)) tg_nil))))) (fun _ _ _ _ _ D1 => dts_nil) (fun _ _ _ _ _ D1 => (de_tup (da_cons (xv D1 9 ⟨rfl, (by first | exact .inl rfl | exact .inr (.inl rfl) | exact .inr (.inr rfl)), by decide, by decide⟩) (da_cons (xv D1 10 ⟨rfl, (by first | exact .inl rfl | exact .inr (.inl rfl) | exact .inr (.inr rfl)), by decide, by decide⟩) (da_cons (xty D1 c_tuple ⟨rfl, by decide, by decide⟩ b_tuple boot_tuple' (da_cons (xlc D1 true (own := [("slot", 8)]) (di_seq (xv D1 11 ⟨rfl, (by first | exact .inl rfl | exact .inr (.inl rfl) | exact .inr (.inr rfl)), by decide, by decide⟩)) (by decide +kernel) (by decide) (fun _ _ _ _ _ D2 => (xtg D2 8 ⟨rfl, (by first | exact .inl rfl | exact .inr (.inl rfl) | exact .inr (.inr rfl)), by decide, by decide⟩ (by first | exact .inl rfl | exact .inr ⟨rfl, rfl⟩))) (fun _ _ _ _ _ D2 => dts_nil) (fun _ _ _ _ _ D2 => (de_ix d_ix (xv D2 4 ⟨rfl, (by first | exact .inl rfl | exact .inr (.inl rfl) | exact .inr (.inr rfl)), by decide, by decide⟩) (xv D2 8 ⟨rfl, (by first | exact .inl rfl | exact .inr (.inl rfl) | exact .inr (.inr rfl)), by decide, by decide⟩) (fun _ _ => rfl)))) da_nil)) da_nil))))))
    (dss_one (ds_expr (de_lm PySem.F.slot_list_append PySem.F.type_list_append m_append (xv C 2 n_p_moments_of_2) (da_cons (de_tup (da_cons (xty C c_tuple g_p_moments_of_tuple b_tuple boot_tuple' (da_cons (xv C 7 n_p_moments_of_7) da_nil)) (da_cons (xv C 5 n_p_moments_of_5) (da_cons (xv C 6 n_p_moments_of_6) da_nil)))) da_nil))))) dss_nil)))
    (dss_one (ds_ret (xv C 2 n_p_moments_of_2)))))
/-! ### _law_begun -/
abbrev s_begun : Stmt := top 3
def N_begun : List Str := ["_law_script", "_law_cells_here", "_law_cell"]
def P_begun : List Str := ["_law_script"]
theorem sc_begun : FnScope N_begun P_begun (defScope s_begun) := ⟨rfl, rfl, rfl, by decide +kernel, rfl, by decide +kernel, by decide +kernel⟩
theorem k_begun : (defScope s_begun).kind = .function := rfl
theorem l_begun_0 : (defScope s_begun).names.lookup (Str.ofString "_law_script") = some .local := by decide +kernel
theorem n_begun_0 : Nm N_begun (defScope s_begun) 0 "_law_script" := ⟨rfl, .inl l_begun_0, by decide, by decide⟩
theorem l_begun_1 : (defScope s_begun).names.lookup (Str.ofString "_law_cells_here") = some .local := by decide +kernel
theorem n_begun_1 : Nm N_begun (defScope s_begun) 1 "_law_cells_here" := ⟨rfl, .inl l_begun_1, by decide, by decide⟩
def rd_begun  : DS :=
  (rSeq (rAsg (rLc (rSq (rVar 0)) (.nm 2) rYes (rCB rAbs (rCons (rVar 2) rNil)) [2] true) (gN 1))
    (rRet (rDisp [((rC (.str "great")), (rLc (rSq (rVar 1)) (.nm 2) (rB (rOp (rI (fun _ _ => True) fun i j => .bl (decide (j ≤ i))) (rVar 2) (rOp (rI CPow fun i j => .int (i ^ j.toNat)) (rC (.int 10)) (rC (.int 18))))) (rVar 2) [2] false)), ((rC (.str "cells")), (rVar 1)), ((rC (.str "rest")), (rC (.int 0))), ((rC (.str "turn")), (rC (.int 0))), ((rC (.str "more")), (rC (.int 7)))])))
theorem d_begun {X : Cx} {k : Nat} (C : Ct X N_begun (defScope s_begun) k) (hfn : ∀ y, X.fn y = true)  (b_abs : X.mg "abs" = none) : PDSs X (defBody s_begun) (rd_begun ) :=
  (dss_cons (xslc C true 1 (own := [("_law_cell", 2)]) n_begun_1 l_begun_1 rfl (by decide +kernel) (di_seq (xv C 0 n_begun_0)) (by decide +kernel) (by decide) k_begun (fun _ _ _ _ _ D1 => (xtg D1 2 ⟨rfl, (by first | exact .inl rfl | exact .inr (.inl rfl) | exact .inr (.inr rfl)), by decide, by decide⟩ (by first | exact .inl rfl | exact .inr ⟨rfl, rfl⟩))) (fun _ _ _ _ _ D1 => dts_nil) (fun _ _ _ _ _ D1 => (xbi D1 c_abs ⟨rfl, by decide, by decide⟩ b_abs boot_abs' (da_cons (xv D1 2 ⟨rfl, (by first | exact .inl rfl | exact .inr (.inl rfl) | exact .inr (.inr rfl)), by decide, by decide⟩) da_nil))))
    (dss_one (ds_ret (de_disp (dp_cons (de_str (x := "great")) (xlc C false (own := [("_law_cell", 2)]) (di_seq (xv C 1 n_begun_1)) (by decide +kernel) (by decide) (fun _ _ _ _ _ D1 => (xtg D1 2 ⟨rfl, (by first | exact .inl rfl | exact .inr (.inl rfl) | exact .inr (.inr rfl)), by decide, by decide⟩ (by first | exact .inl rfl | exact .inr ⟨rfl, rfl⟩))) (fun _ _ _ _ _ D1 => (dts_one (dt_cmp d_ge (xv D1 2 ⟨rfl, (by first | exact .inl rfl | exact .inr (.inl rfl) | exact .inr (.inr rfl)), by decide, by decide⟩) (de_op d_pow de_int de_int) (nobehind _ (by decide) (by decide))))) (fun _ _ _ _ _ D1 => (xv D1 2 ⟨rfl, (by first | exact .inl rfl | exact .inr (.inl rfl) | exact .inr (.inr rfl)), by decide, by decide⟩))) (dp_cons (de_str (x := "cells")) (xv C 1 n_begun_1) (dp_cons (de_str (x := "rest")) de_int (dp_cons (de_str (x := "turn")) de_int (dp_cons (de_str (x := "more")) de_int dp_nil))))) rfl rfl (by simp) (by decide)))))
/-! ### _law_take -/
abbrev s_take : Stmt := top 4
def N_take : List Str := ["_law_state", "_law_many", "_law_found", "_law_cell", "_law_mixed"]
def P_take : List Str := ["_law_state", "_law_many"]
theorem sc_take : FnScope N_take P_take (defScope s_take) := ⟨rfl, rfl, rfl, by decide +kernel, rfl, by decide +kernel, by decide +kernel⟩
theorem k_take : (defScope s_take).kind = .function := rfl
theorem l_take_0 : (defScope s_take).names.lookup (Str.ofString "_law_state") = some .local := by decide +kernel
theorem n_take_0 : Nm N_take (defScope s_take) 0 "_law_state" := ⟨rfl, .inl l_take_0, by decide, by decide⟩
theorem l_take_1 : (defScope s_take).names.lookup (Str.ofString "_law_many") = some .local := by decide +kernel
theorem n_take_1 : Nm N_take (defScope s_take) 1 "_law_many" := ⟨rfl, .inl l_take_1, by decide, by decide⟩
theorem l_take_2 : (defScope s_take).names.lookup (Str.ofString "_law_found") = some .local := by decide +kernel
theorem n_take_2 : Nm N_take (defScope s_take) 2 "_law_found" := ⟨rfl, .inl l_take_2, by decide, by decide⟩
theorem l_take_3 : (defScope s_take).names.lookup (Str.ofString "_law_cell") = some .local := by decide +kernel
theorem n_take_3 : Nm N_take (defScope s_take) 3 "_law_cell" := ⟨rfl, .inl l_take_3, by decide, by decide⟩
theorem l_take_4 : (defScope s_take).names.lookup (Str.ofString "_law_mixed") = some .local := by decide +kernel
theorem n_take_4 : Nm N_take (defScope s_take) 4 "_law_mixed" := ⟨rfl, .inl l_take_4, by decide, by decide⟩
theorem g_take_len : Gn (defScope s_take) "len" := ⟨by decide +kernel, by decide, by decide⟩
def rd_take  : DS :=
  (rCut (rWhile (rAnd (rB (rOp rEqD (rDG (rVar 0) (rC (.str "rest"))) (rC (.int 0)))) (rB (rOp rNeD (rDG (rVar 0) (rC (.str "great"))) (rLstF rNil)))) (rDP (rVar 0) (rC (.str "rest")) (rBM isLst rPop0 (rDG (rVar 0) (rC (.str "great"))) (rCons (rC (.int 0)) rNil))))
    (rSeq (rIf (rB (rOp (rI (fun _ _ => True) fun i j => .bl (decide (j < i))) (rDG (rVar 0) (rC (.str "rest"))) (rC (.int 0)))) (rSeq (rAsg (rOp (rI (fun _ j => 0 < j) fun i j => .int (i % j)) (rDG (rVar 0) (rC (.str "rest"))) (rVar 1)) (gN 2))
    (rSeq (rDP (rVar 0) (rC (.str "rest")) (rOp (rI CDiv fun i j => .int (i / j)) (rDG (rVar 0) (rC (.str "rest"))) (rVar 1)))
    (rRet (rVar 2)))) rNext)
    (rSeq (rAsg (rC (.int 0)) (gN 3))
    (rCut (rIf (rB (rOp rNeD (rDG (rVar 0) (rC (.str "cells"))) (rLstF rNil))) (rAsg (rOp rIx (rDG (rVar 0) (rC (.str "cells"))) (rOp (rI (fun _ j => 0 < j) fun i j => .int (i % j)) (rDG (rVar 0) (rC (.str "turn"))) (rCB rLen (rCons (rDG (rVar 0) (rC (.str "cells"))) rNil)))) (gN 3)) rNext)
    (rSeq (rDP (rVar 0) (rC (.str "turn")) (rOp (rI (fun _ _ => True) fun i j => .int (i + j)) (rDG (rVar 0) (rC (.str "turn"))) (rC (.int 1))))
    (rSeq (rDP (rVar 0) (rC (.str "more")) (rOp (rI (fun _ j => 0 < j) fun i j => .int (i % j)) (rOp (rI (fun _ _ => True) fun i j => .int (i + j)) (rOp (rI (fun _ _ => True) fun i j => .int (i + j)) (rOp (rI CMul fun i j => .int (i * j)) (rDG (rVar 0) (rC (.str "more"))) (rC (.int 48271))) (rVar 3)) (rOp (rI CMul fun i j => .int (i * j)) (rC (.int 7919)) (rDG (rVar 0) (rC (.str "turn"))))) (rC (.int 2147483647))))
    (rSeq (rAsg (rOp (rI (fun _ j => 0 < j) fun i j => .int (i % j)) (rOp (rI (fun _ _ => True) fun i j => .int (i + j)) (rOp (rI (fun _ _ => True) fun i j => .int (i + j)) (rOp (rI CMul fun i j => .int (i * j)) (rDG (rVar 0) (rC (.str "more"))) (rDG (rVar 0) (rC (.str "more")))) (rOp (rI CMul fun i j => .int (i * j)) (rC (.int 16807)) (rDG (rVar 0) (rC (.str "more"))))) (rC (.int 11))) (rC (.int 2147483629))) (gN 4))
    (rRet (rOp (rI (fun _ j => 0 < j) fun i j => .int (i % j)) (rOp (rI CDiv fun i j => .int (i / j)) (rOp (rI (fun _ j => 0 < j) fun i j => .int (i % j)) (rOp (rI CMul fun i j => .int (i * j)) (rVar 4) (rVar 4)) (rC (.int 2147483587))) (rC (.int 7))) (rVar 1))))))))))
theorem d_take {X : Cx} {k : Nat} (C : Ct X N_take (defScope s_take) k) (hfn : ∀ y, X.fn y = true)  (b_len : X.mg "len" = none) : PDSs X (defBody s_take) (rd_take ) :=
  (dss_cut (ds_while C.pass (dt_w (dw_and (dt_cmp (d_eq C.u64) (de_dget C.u1 (xv C 0 n_take_0) (de_str (x := "rest")) (fun _ _ => rfl)) de_int (nobehind _ (by decide) (by decide))) (dw_and1 (dt_cmp (d_ne C.u64) (de_dget C.u1 (xv C 0 n_take_0) (de_str (x := "great")) (fun _ _ => rfl)) (de_lstF da_nil) (nobehind _ (by decide) (by decide)))))) (dss_one (ds_dput C.u1 (xv C 0 n_take_0) (de_str (x := "rest")) (de_lm PySem.F.slot_list_pop PySem.F.type_list_pop m_pop0 (de_dget C.u1 (xv C 0 n_take_0) (de_str (x := "great")) (fun _ _ => rfl)) (da_cons de_int da_nil)))))
    (dss_cons (ds_if (dt_cmp d_gt (de_dget C.u1 (xv C 0 n_take_0) (de_str (x := "rest")) (fun _ _ => rfl)) de_int (nobehind _ (by decide) (by decide))) (dss_cons (xset C 2 n_take_2 (.inl l_take_2) (de_op d_mod (de_dget C.u1 (xv C 0 n_take_0) (de_str (x := "rest")) (fun _ _ => rfl)) (xv C 1 n_take_1)))
    (dss_cons (ds_dput C.u1 (xv C 0 n_take_0) (de_str (x := "rest")) (de_op d_fdiv (de_dget C.u1 (xv C 0 n_take_0) (de_str (x := "rest")) (fun _ _ => rfl)) (xv C 1 n_take_1)))
    (dss_one (ds_ret (xv C 2 n_take_2))))) dss_nil)
    (dss_cons (xset C 3 n_take_3 (.inl l_take_3) de_int)
    (dss_cut (ds_if (dt_cmp (d_ne C.u64) (de_dget C.u1 (xv C 0 n_take_0) (de_str (x := "cells")) (fun _ _ => rfl)) (de_lstF da_nil) (nobehind _ (by decide) (by decide))) (dss_one (xset C 3 n_take_3 (.inl l_take_3) (de_ix d_ix (de_dget C.u1 (xv C 0 n_take_0) (de_str (x := "cells")) (fun _ _ => rfl)) (de_op d_mod (de_dget C.u1 (xv C 0 n_take_0) (de_str (x := "turn")) (fun _ _ => rfl)) (xbi C c_len g_take_len b_len boot_len' (da_cons (de_dget C.u1 (xv C 0 n_take_0) (de_str (x := "cells")) (fun _ _ => rfl)) da_nil))) (fun _ _ => rfl)))) dss_nil)
    (dss_cons (ds_dput C.u1 (xv C 0 n_take_0) (de_str (x := "turn")) (de_op d_add (de_dget C.u1 (xv C 0 n_take_0) (de_str (x := "turn")) (fun _ _ => rfl)) de_int))
    (dss_cons (ds_dput C.u1 (xv C 0 n_take_0) (de_str (x := "more")) (de_op d_mod (de_op d_add (de_op d_add (de_op d_mul (de_dget C.u1 (xv C 0 n_take_0) (de_str (x := "more")) (fun _ _ => rfl)) de_int) (xv C 3 n_take_3)) (de_op d_mul de_int (de_dget C.u1 (xv C 0 n_take_0) (de_str (x := "turn")) (fun _ _ => rfl)))) de_int))
    (dss_cons (xset C 4 n_take_4 (.inl l_take_4) (de_op d_mod (de_op d_add (de_op d_add (de_op d_mul (de_dget C.u1 (xv C 0 n_take_0) (de_str (x := "more")) (fun _ _ => rfl)) (de_dget C.u1 (xv C 0 n_take_0) (de_str (x := "more")) (fun _ _ => rfl))) (de_op d_mul de_int (de_dget C.u1 (xv C 0 n_take_0) (de_str (x := "more")) (fun _ _ => rfl)))) de_int) de_int))
    (dss_one (ds_ret (de_op d_mod (de_op d_fdiv (de_op d_mod (de_op d_mul (xv C 4 n_take_4) (xv C 4 n_take_4)) de_int) de_int) (xv C 1 n_take_1)))))))))))
/-! ### _law_pick -/
abbrev s_pick : Stmt := top 5
def N_pick : List Str := ["_law_state", "_law_some"]
def P_pick : List Str := ["_law_state", "_law_some"]
theorem sc_pick : FnScope N_pick P_pick (defScope s_pick) := ⟨rfl, rfl, rfl, by decide +kernel, rfl, by decide +kernel, by decide +kernel⟩
theorem k_pick : (defScope s_pick).kind = .function := rfl
theorem l_pick_0 : (defScope s_pick).names.lookup (Str.ofString "_law_state") = some .local := by decide +kernel
theorem n_pick_0 : Nm N_pick (defScope s_pick) 0 "_law_state" := ⟨rfl, .inl l_pick_0, by decide, by decide⟩
theorem l_pick_1 : (defScope s_pick).names.lookup (Str.ofString "_law_some") = some .local := by decide +kernel
theorem n_pick_1 : Nm N_pick (defScope s_pick) 1 "_law_some" := ⟨rfl, .inl l_pick_1, by decide, by decide⟩
theorem g_pick_take : Gn (defScope s_pick) "_law_take" := ⟨by decide +kernel, by decide, by decide⟩
theorem g_pick_len : Gn (defScope s_pick) "len" := ⟨by decide +kernel, by decide, by decide⟩
def rd_pick  : DS :=
  (rRet (rOp rIx (rVar 1) (rCall 2 sp_take (fun _ _ => False) (rCons (rVar 0) (rCons (rCB rLen (rCons (rVar 1) rNil)) rNil)))))
theorem d_pick {X : Cx} {k : Nat} (C : Ct X N_pick (defScope s_pick) k) (hfn : ∀ y, X.fn y = true)  (b_len : X.mg "len" = none) {j_take : Nat} (hl_take : j_take ≤ k) (H_take : HasX X "_law_take" j_take 2 sp_take) : PDSs X (defBody s_pick) (rd_pick ) :=
  (dss_one (ds_ret (de_ix d_ix (xv C 1 n_pick_1) (xcall C H_take hl_take g_pick_take (da_cons (xv C 0 n_pick_0) (da_cons (xbi C c_len g_pick_len b_len boot_len' (da_cons (xv C 1 n_pick_1) da_nil)) da_nil))) (fun _ _ => rfl))))
/-! ### _law_top -/
abbrev s_top : Stmt := top 6
def N_top : List Str := ["_law_state"]
def P_top : List Str := ["_law_state"]
theorem sc_top : FnScope N_top P_top (defScope s_top) := ⟨rfl, rfl, rfl, by decide +kernel, rfl, by decide +kernel, by decide +kernel⟩
theorem k_top : (defScope s_top).kind = .function := rfl
theorem l_top_0 : (defScope s_top).names.lookup (Str.ofString "_law_state") = some .local := by decide +kernel
theorem n_top_0 : Nm N_top (defScope s_top) 0 "_law_state" := ⟨rfl, .inl l_top_0, by decide, by decide⟩
theorem g_top_take : Gn (defScope s_top) "_law_take" := ⟨by decide +kernel, by decide, by decide⟩
def rd_top  : DS :=
  (rRet (rOp rIx (rLstF (rCons (rC (.int 1)) (rCons (rC (.int 2)) (rCons (rC (.int 3)) (rCons (rC (.int 9)) (rCons (rC (.int 1)) (rCons (rC (.int 255)) (rCons (rOp (rI CPow fun i j => .int (i ^ j.toNat)) (rC (.int 10)) (rC (.int 9))) (rCons (rOp (rI (fun _ _ => True) fun i j => .int (i + j)) (rC (.int 2)) (rCall 2 sp_take (fun _ _ => False) (rCons (rVar 0) (rCons (rC (.int 999999)) rNil)))) rNil))))))))) (rCall 2 sp_take (fun _ _ => False) (rCons (rVar 0) (rCons (rC (.int 8)) rNil)))))
theorem d_top {X : Cx} {k : Nat} (C : Ct X N_top (defScope s_top) k) (hfn : ∀ y, X.fn y = true)  {j_take : Nat} (hl_take : j_take ≤ k) (H_take : HasX X "_law_take" j_take 2 sp_take) : PDSs X (defBody s_top) (rd_top ) :=
  (dss_one (ds_ret (de_ix d_ix (de_lstF (da_cons de_int (da_cons de_int (da_cons de_int (da_cons de_int (da_cons de_int (da_cons de_int (da_cons (de_op d_pow de_int de_int) (da_cons (de_op d_add de_int (xcall C H_take hl_take g_top_take (da_cons (xv C 0 n_top_0) (da_cons de_int da_nil)))) da_nil))))))))) (xcall C H_take hl_take g_top_take (da_cons (xv C 0 n_top_0) (da_cons de_int da_nil))) (fun _ _ => rfl))))
/-! ### _law_number -/
abbrev s_number : Stmt := top 7
def N_number : List Str := ["_law_state", "_law_top_here", "_law_way"]
def P_number : List Str := ["_law_state", "_law_top_here"]
theorem sc_number : FnScope N_number P_number (defScope s_number) := ⟨rfl, rfl, rfl, by decide +kernel, rfl, by decide +kernel, by decide +kernel⟩
theorem k_number : (defScope s_number).kind = .function := rfl
theorem l_number_0 : (defScope s_number).names.lookup (Str.ofString "_law_state") = some .local := by decide +kernel
theorem n_number_0 : Nm N_number (defScope s_number) 0 "_law_state" := ⟨rfl, .inl l_number_0, by decide, by decide⟩
theorem l_number_1 : (defScope s_number).names.lookup (Str.ofString "_law_top_here") = some .local := by decide +kernel
theorem n_number_1 : Nm N_number (defScope s_number) 1 "_law_top_here" := ⟨rfl, .inl l_number_1, by decide, by decide⟩
theorem l_number_2 : (defScope s_number).names.lookup (Str.ofString "_law_way") = some .local := by decide +kernel
theorem n_number_2 : Nm N_number (defScope s_number) 2 "_law_way" := ⟨rfl, .inl l_number_2, by decide, by decide⟩
theorem g_number_take : Gn (defScope s_number) "_law_take" := ⟨by decide +kernel, by decide, by decide⟩
theorem g_number_min : Gn (defScope s_number) "min" := ⟨by decide +kernel, by decide, by decide⟩
def rd_number  : DS :=
  (rSeq (rAsg (rCall 2 sp_take (fun _ _ => False) (rCons (rVar 0) (rCons (rC (.int 4)) rNil))) (gN 2))
    (rSeq (rIf (rB (rOp (rI (fun _ _ => True) fun i j => .bl (decide (i < j))) (rVar 2) (rC (.int 2)))) (rRet (rCall 2 sp_take (fun _ _ => False) (rCons (rVar 0) (rCons (rOp (rI (fun _ _ => True) fun i j => .int (i + j)) (rCB rMin2 (rCons (rVar 1) (rCons (rC (.int 3)) rNil))) (rC (.int 1))) rNil)))) rNext)
    (rSeq (rIf (rB (rOp rEqD (rVar 2) (rC (.int 2)))) (rRet (rOp (rI (fun _ _ => True) fun i j => .int (i - j)) (rVar 1) (rCall 2 sp_take (fun _ _ => False) (rCons (rVar 0) (rCons (rOp (rI (fun _ _ => True) fun i j => .int (i + j)) (rCB rMin2 (rCons (rVar 1) (rCons (rC (.int 2)) rNil))) (rC (.int 1))) rNil))))) rNext)
    (rRet (rCall 2 sp_take (fun _ _ => False) (rCons (rVar 0) (rCons (rOp (rI (fun _ _ => True) fun i j => .int (i + j)) (rVar 1) (rC (.int 1))) rNil)))))))
theorem d_number {X : Cx} {k : Nat} (C : Ct X N_number (defScope s_number) k) (hfn : ∀ y, X.fn y = true)  (b_min : X.mg "min" = none) {j_take : Nat} (hl_take : j_take ≤ k) (H_take : HasX X "_law_take" j_take 2 sp_take) : PDSs X (defBody s_number) (rd_number ) :=
  (dss_cons (xset C 2 n_number_2 (.inl l_number_2) (xcall C H_take hl_take g_number_take (da_cons (xv C 0 n_number_0) (da_cons de_int da_nil))))
    (dss_cons (ds_if (dt_cmp d_lt (xv C 2 n_number_2) de_int (nobehind _ (by decide) (by decide))) (dss_one (ds_ret (xcall C H_take hl_take g_number_take (da_cons (xv C 0 n_number_0) (da_cons (de_op d_add (xbi C (c_min2 C.calm) g_number_min b_min boot_min' (da_cons (xv C 1 n_number_1) (da_cons de_int da_nil))) de_int) da_nil))))) dss_nil)
    (dss_cons (ds_if (dt_cmp (d_eq C.u64) (xv C 2 n_number_2) de_int (nobehind _ (by decide) (by decide))) (dss_one (ds_ret (de_op d_sub (xv C 1 n_number_1) (xcall C H_take hl_take g_number_take (da_cons (xv C 0 n_number_0) (da_cons (de_op d_add (xbi C (c_min2 C.calm) g_number_min b_min boot_min' (da_cons (xv C 1 n_number_1) (da_cons de_int da_nil))) de_int) da_nil)))))) dss_nil)
    (dss_one (ds_ret (xcall C H_take hl_take g_number_take (da_cons (xv C 0 n_number_0) (da_cons (de_op d_add (xv C 1 n_number_1) de_int) da_nil))))))))
/-! ### _law_reckoning -/
abbrev s_reckoning : Stmt := top 8
def N_reckoning : List Str := ["_law_state", "_law_top_here", "_law_cells_here", "_law_deep", "_law_way", "_law_word", "_law_one"]
def P_reckoning : List Str := ["_law_state", "_law_top_here", "_law_cells_here", "_law_deep"]
theorem sc_reckoning : FnScope N_reckoning P_reckoning (defScope s_reckoning) := ⟨rfl, rfl, rfl, by decide +kernel, rfl, by decide +kernel, by decide +kernel⟩
theorem k_reckoning : (defScope s_reckoning).kind = .function := rfl
theorem l_reckoning_0 : (defScope s_reckoning).names.lookup (Str.ofString "_law_state") = some .local := by decide +kernel
theorem n_reckoning_0 : Nm N_reckoning (defScope s_reckoning) 0 "_law_state" := ⟨rfl, .inl l_reckoning_0, by decide, by decide⟩
theorem l_reckoning_1 : (defScope s_reckoning).names.lookup (Str.ofString "_law_top_here") = some .local := by decide +kernel
theorem n_reckoning_1 : Nm N_reckoning (defScope s_reckoning) 1 "_law_top_here" := ⟨rfl, .inl l_reckoning_1, by decide, by decide⟩
theorem l_reckoning_2 : (defScope s_reckoning).names.lookup (Str.ofString "_law_cells_here") = some .local := by decide +kernel
theorem n_reckoning_2 : Nm N_reckoning (defScope s_reckoning) 2 "_law_cells_here" := ⟨rfl, .inl l_reckoning_2, by decide, by decide⟩
theorem l_reckoning_3 : (defScope s_reckoning).names.lookup (Str.ofString "_law_deep") = some .local := by decide +kernel
theorem n_reckoning_3 : Nm N_reckoning (defScope s_reckoning) 3 "_law_deep" := ⟨rfl, .inl l_reckoning_3, by decide, by decide⟩
theorem l_reckoning_4 : (defScope s_reckoning).names.lookup (Str.ofString "_law_way") = some .local := by decide +kernel
theorem n_reckoning_4 : Nm N_reckoning (defScope s_reckoning) 4 "_law_way" := ⟨rfl, .inl l_reckoning_4, by decide, by decide⟩
theorem l_reckoning_5 : (defScope s_reckoning).names.lookup (Str.ofString "_law_word") = some .local := by decide +kernel
theorem n_reckoning_5 : Nm N_reckoning (defScope s_reckoning) 5 "_law_word" := ⟨rfl, .inl l_reckoning_5, by decide, by decide⟩
theorem l_reckoning_6 : (defScope s_reckoning).names.lookup (Str.ofString "_law_one") = some .local := by decide +kernel
theorem n_reckoning_6 : Nm N_reckoning (defScope s_reckoning) 6 "_law_one" := ⟨rfl, .inl l_reckoning_6, by decide, by decide⟩
theorem g_reckoning_reckoning : Gn (defScope s_reckoning) "_law_reckoning" := ⟨by decide +kernel, by decide, by decide⟩
theorem g_reckoning_pick : Gn (defScope s_reckoning) "_law_pick" := ⟨by decide +kernel, by decide, by decide⟩
theorem g_reckoning_number : Gn (defScope s_reckoning) "_law_number" := ⟨by decide +kernel, by decide, by decide⟩
theorem g_reckoning_take : Gn (defScope s_reckoning) "_law_take" := ⟨by decide +kernel, by decide, by decide⟩
def rd_reckoning (S_reckoning : DSp) : DS :=
  (rSeq (rAsg (rCall 2 sp_take (fun _ _ => False) (rCons (rVar 0) (rCons (rC (.int 10)) rNil))) (gN 4))
    (rSeq (rIf (rOr (rB (rOp rEqD (rVar 3) (rC (.int 0)))) (rB (rOp (rI (fun _ _ => True) fun i j => .bl (decide (i < j))) (rVar 4) (rC (.int 6))))) (rSeq (rIf (rOr (rB (rOp rEqD (rVar 2) (rLstF rNil))) (rB (rOp rEqD (rOp (rI (fun _ j => 0 < j) fun i j => .int (i % j)) (rVar 4) (rC (.int 3))) (rC (.int 0))))) (rRet (rTup (rCons (rC (.str "number")) (rCons (rCall 2 sp_number (fun _ _ => False) (rCons (rVar 0) (rCons (rVar 1) rNil))) rNil)))) rNext)
    (rRet (rTup (rCons (rC (.str "at")) (rCons (rCall 2 sp_pick (fun _ _ => False) (rCons (rVar 0) (rCons (rVar 2) rNil))) rNil))))) rNext)
    (rSeq (rAsg (rCall 2 sp_pick (fun _ _ => False) (rCons (rVar 0) (rCons (rLstF (rCons (rC (.str "sum")) (rCons (rC (.str "sum")) (rCons (rC (.str "less")) (rCons (rC (.str "times")) (rCons (rC (.str "below")) (rCons (rC (.str "same")) rNil))))))) rNil))) (gN 5))
    (rSeq (rAsg (rCall 4 S_reckoning (fun _ _ => False) (rCons (rVar 0) (rCons (rVar 1) (rCons (rVar 2) (rCons (rOp (rI (fun _ _ => True) fun i j => .int (i - j)) (rVar 3) (rC (.int 1))) rNil))))) (gN 6))
    (rRet (rTup (rCons (rVar 5) (rCons (rVar 6) (rCons (rCall 4 S_reckoning (fun _ _ => False) (rCons (rVar 0) (rCons (rVar 1) (rCons (rVar 2) (rCons (rOp (rI (fun _ _ => True) fun i j => .int (i - j)) (rVar 3) (rC (.int 1))) rNil))))) rNil)))))))))
theorem d_reckoning {X : Cx} {k : Nat} (C : Ct X N_reckoning (defScope s_reckoning) k) (hfn : ∀ y, X.fn y = true) {S_reckoning : DSp} {j_reckoning : Nat} (hl_reckoning : j_reckoning ≤ k) (H_reckoning : HasX X "_law_reckoning" j_reckoning 4 S_reckoning) {j_pick : Nat} (hl_pick : j_pick ≤ k) (H_pick : HasX X "_law_pick" j_pick 2 sp_pick) {j_number : Nat} (hl_number : j_number ≤ k) (H_number : HasX X "_law_number" j_number 2 sp_number) {j_take : Nat} (hl_take : j_take ≤ k) (H_take : HasX X "_law_take" j_take 2 sp_take) : PDSs X (defBody s_reckoning) (rd_reckoning S_reckoning) :=
  (dss_cons (xset C 4 n_reckoning_4 (.inl l_reckoning_4) (xcall C H_take hl_take g_reckoning_take (da_cons (xv C 0 n_reckoning_0) (da_cons de_int da_nil))))
    (dss_cons (ds_if (dt_w (dw_or (dt_cmp (d_eq C.u64) (xv C 3 n_reckoning_3) de_int (nobehind _ (by decide) (by decide))) (dw_or1 (dt_cmp d_lt (xv C 4 n_reckoning_4) de_int (nobehind _ (by decide) (by decide)))))) (dss_cons (ds_if (dt_w (dw_or (dt_cmp (d_eq C.u64) (xv C 2 n_reckoning_2) (de_lstF da_nil) (nobehind _ (by decide) (by decide))) (dw_or1 (dt_cmp (d_eq C.u64) (de_op d_mod (xv C 4 n_reckoning_4) de_int) de_int (nobehind _ (by decide) (by decide)))))) (dss_one (ds_ret (de_tup (da_cons (de_str (x := "number")) (da_cons (xcall C H_number hl_number g_reckoning_number (da_cons (xv C 0 n_reckoning_0) (da_cons (xv C 1 n_reckoning_1) da_nil))) da_nil))))) dss_nil)
    (dss_one (ds_ret (de_tup (da_cons (de_str (x := "at")) (da_cons (xcall C H_pick hl_pick g_reckoning_pick (da_cons (xv C 0 n_reckoning_0) (da_cons (xv C 2 n_reckoning_2) da_nil))) da_nil)))))) dss_nil)
    (dss_cons (xset C 5 n_reckoning_5 (.inl l_reckoning_5) (xcall C H_pick hl_pick g_reckoning_pick (da_cons (xv C 0 n_reckoning_0) (da_cons (de_lstF (da_cons (de_str (x := "sum")) (da_cons (de_str (x := "sum")) (da_cons (de_str (x := "less")) (da_cons (de_str (x := "times")) (da_cons (de_str (x := "below")) (da_cons (de_str (x := "same")) da_nil))))))) da_nil))))
    (dss_cons (xset C 6 n_reckoning_6 (.inl l_reckoning_6) (xcall C H_reckoning hl_reckoning g_reckoning_reckoning (da_cons (xv C 0 n_reckoning_0) (da_cons (xv C 1 n_reckoning_1) (da_cons (xv C 2 n_reckoning_2) (da_cons (de_op d_sub (xv C 3 n_reckoning_3) de_int) da_nil))))))
    (dss_one (ds_ret (de_tup (da_cons (xv C 5 n_reckoning_5) (da_cons (xv C 6 n_reckoning_6) (da_cons (xcall C H_reckoning hl_reckoning g_reckoning_reckoning (da_cons (xv C 0 n_reckoning_0) (da_cons (xv C 1 n_reckoning_1) (da_cons (xv C 2 n_reckoning_2) (da_cons (de_op d_sub (xv C 3 n_reckoning_3) de_int) da_nil))))) da_nil))))))))))
/-! ### _law_words -/
abbrev s_words : Stmt := top 9
def N_words : List Str := ["_law_state", "_law_some", "_law_found", "_law_shift"]
def P_words : List Str := ["_law_state"]
theorem sc_words : FnScope N_words P_words (defScope s_words) := ⟨rfl, rfl, rfl, by decide +kernel, rfl, by decide +kernel, by decide +kernel⟩
theorem k_words : (defScope s_words).kind = .function := rfl
theorem l_words_0 : (defScope s_words).names.lookup (Str.ofString "_law_state") = some .local := by decide +kernel
theorem n_words_0 : Nm N_words (defScope s_words) 0 "_law_state" := ⟨rfl, .inl l_words_0, by decide, by decide⟩
theorem l_words_1 : (defScope s_words).names.lookup (Str.ofString "_law_some") = some .local := by decide +kernel
theorem n_words_1 : Nm N_words (defScope s_words) 1 "_law_some" := ⟨rfl, .inl l_words_1, by decide, by decide⟩
theorem l_words_2 : (defScope s_words).names.lookup (Str.ofString "_law_found") = some .local := by decide +kernel
theorem n_words_2 : Nm N_words (defScope s_words) 2 "_law_found" := ⟨rfl, .inl l_words_2, by decide, by decide⟩
theorem l_words_3 : (defScope s_words).names.lookup (Str.ofString "_law_shift") = some .local := by decide +kernel
theorem n_words_3 : Nm N_words (defScope s_words) 3 "_law_shift" := ⟨rfl, .inl l_words_3, by decide, by decide⟩
theorem g_words_take : Gn (defScope s_words) "_law_take" := ⟨by decide +kernel, by decide, by decide⟩
theorem g_words_pick : Gn (defScope s_words) "_law_pick" := ⟨by decide +kernel, by decide, by decide⟩
def rd_words  : DS :=
  (rSeq (rAsg (rLstF (rCons (rLstF (rCons (rC (.str "a")) (rCons (rC (.str "ab")) (rCons (rC (.str "b")) (rCons (rC (.str "ba")) (rCons (rC (.str "aab")) (rCons (rC (.str "c")) rNil))))))) (rCons (rLstF (rCons (rC (.str "x")) (rCons (rC (.str "xx")) (rCons (rC (.str "y")) (rCons (rC (.str "z")) (rCons (rC (.str "zz")) (rCons (rC (.str "yx")) rNil))))))) rNil))) (gN 1))
    (rSeq (rAsg (rOp (rCatL' true) (rVar 1) (rLstF (rCons (rLstF (rCons (rC (.str "sets")) (rCons (rC (.str "asks")) (rCons (rC (.str "gos")) (rCons (rC (.str "ifs")) (rCons (rC (.str "ends")) (rCons (rC (.str "tops")) rNil))))))) (rCons (rLstF (rCons (rC (.str "n")) (rCons (rC (.str "nn")) (rCons (rC (.str "nnn")) (rCons (rC (.str "m")) (rCons (rC (.str "mn")) (rCons (rC (.str "nm")) rNil))))))) rNil)))) (gN 1))
    (rSeq (rAsg (rCall 2 sp_pick (fun _ _ => False) (rCons (rVar 0) (rCons (rVar 1) rNil))) (gN 2))
    (rSeq (rAsg (rCall 2 sp_take (fun _ _ => False) (rCons (rVar 0) (rCons (rC (.int 6)) rNil))) (gN 3))
    (rRet (rOp (rCatL' true) (rSl (rSlL' true) (rVar 2) (rPt (rVar 3)) rNoP) (rSl (rSlL' true) (rVar 2) rNoP (rPt (rVar 3)))))))))
theorem d_words {X : Cx} {k : Nat} (C : Ct X N_words (defScope s_words) k) (hfn : ∀ y, X.fn y = true)  {j_take : Nat} (hl_take : j_take ≤ k) (H_take : HasX X "_law_take" j_take 2 sp_take) {j_pick : Nat} (hl_pick : j_pick ≤ k) (H_pick : HasX X "_law_pick" j_pick 2 sp_pick) : PDSs X (defBody s_words) (rd_words ) :=
  (dss_cons (xset C 1 n_words_1 (.inl l_words_1) (de_lstF (da_cons (de_lstF (da_cons (de_str (x := "a")) (da_cons (de_str (x := "ab")) (da_cons (de_str (x := "b")) (da_cons (de_str (x := "ba")) (da_cons (de_str (x := "aab")) (da_cons (de_str (x := "c")) da_nil))))))) (da_cons (de_lstF (da_cons (de_str (x := "x")) (da_cons (de_str (x := "xx")) (da_cons (de_str (x := "y")) (da_cons (de_str (x := "z")) (da_cons (de_str (x := "zz")) (da_cons (de_str (x := "yx")) da_nil))))))) da_nil))))
    (dss_cons (xset C 1 n_words_1 (.inl l_words_1) (de_op (d_catL true) (xv C 1 n_words_1) (de_lstF (da_cons (de_lstF (da_cons (de_str (x := "sets")) (da_cons (de_str (x := "asks")) (da_cons (de_str (x := "gos")) (da_cons (de_str (x := "ifs")) (da_cons (de_str (x := "ends")) (da_cons (de_str (x := "tops")) da_nil))))))) (da_cons (de_lstF (da_cons (de_str (x := "n")) (da_cons (de_str (x := "nn")) (da_cons (de_str (x := "nnn")) (da_cons (de_str (x := "m")) (da_cons (de_str (x := "mn")) (da_cons (de_str (x := "nm")) da_nil))))))) da_nil)))))
    (dss_cons (xset C 2 n_words_2 (.inl l_words_2) (xcall C H_pick hl_pick g_words_pick (da_cons (xv C 0 n_words_0) (da_cons (xv C 1 n_words_1) da_nil))))
    (dss_cons (xset C 3 n_words_3 (.inl l_words_3) (xcall C H_take hl_take g_words_take (da_cons (xv C 0 n_words_0) (da_cons de_int da_nil))))
    (dss_one (ds_ret (de_op (d_catL true) (de_slice (sl_l true) (xv C 2 n_words_2) (do_some (xv C 3 n_words_3)) do_none) (de_slice (sl_l true) (xv C 2 n_words_2) do_none (do_some (xv C 3 n_words_3))))))))))
/-! ### _law_call -/
abbrev s_call : Stmt := top 10
def N_call : List Str := ["_law_state", "_law_top_here", "_law_names_here", "_law_ahead", "_law_name", "_law_many", "_law_args", "_law_k"]
def P_call : List Str := ["_law_state", "_law_top_here", "_law_names_here", "_law_ahead"]
theorem sc_call : FnScope N_call P_call (defScope s_call) := ⟨rfl, rfl, rfl, by decide +kernel, rfl, by decide +kernel, by decide +kernel⟩
theorem k_call : (defScope s_call).kind = .function := rfl
theorem l_call_0 : (defScope s_call).names.lookup (Str.ofString "_law_state") = some .cell := by decide +kernel
theorem n_call_0 : Nm N_call (defScope s_call) 0 "_law_state" := ⟨rfl, .inr (.inl l_call_0), by decide, by decide⟩
theorem l_call_1 : (defScope s_call).names.lookup (Str.ofString "_law_top_here") = some .cell := by decide +kernel
theorem n_call_1 : Nm N_call (defScope s_call) 1 "_law_top_here" := ⟨rfl, .inr (.inl l_call_1), by decide, by decide⟩
theorem l_call_2 : (defScope s_call).names.lookup (Str.ofString "_law_names_here") = some .cell := by decide +kernel
theorem n_call_2 : Nm N_call (defScope s_call) 2 "_law_names_here" := ⟨rfl, .inr (.inl l_call_2), by decide, by decide⟩
theorem l_call_3 : (defScope s_call).names.lookup (Str.ofString "_law_ahead") = some .local := by decide +kernel
theorem n_call_3 : Nm N_call (defScope s_call) 3 "_law_ahead" := ⟨rfl, .inl l_call_3, by decide, by decide⟩
theorem l_call_4 : (defScope s_call).names.lookup (Str.ofString "_law_name") = some .local := by decide +kernel
theorem n_call_4 : Nm N_call (defScope s_call) 4 "_law_name" := ⟨rfl, .inl l_call_4, by decide, by decide⟩
theorem l_call_5 : (defScope s_call).names.lookup (Str.ofString "_law_many") = some .local := by decide +kernel
theorem n_call_5 : Nm N_call (defScope s_call) 5 "_law_many" := ⟨rfl, .inl l_call_5, by decide, by decide⟩
theorem l_call_6 : (defScope s_call).names.lookup (Str.ofString "_law_args") = some .local := by decide +kernel
theorem n_call_6 : Nm N_call (defScope s_call) 6 "_law_args" := ⟨rfl, .inl l_call_6, by decide, by decide⟩
theorem g_call_pick : Gn (defScope s_call) "_law_pick" := ⟨by decide +kernel, by decide, by decide⟩
theorem g_call_tuple : Gn (defScope s_call) "tuple" := ⟨by decide +kernel, by decide, by decide⟩
theorem g_call_range : Gn (defScope s_call) "range" := ⟨by decide +kernel, by decide, by decide⟩
def rd_call  : DS :=
  (rSeq (rAsg (rCall 2 sp_pick (fun _ _ => False) (rCons (rVar 0) (rCons (rVar 3) rNil))) (gT 2 (gsC (gN 4) (gsC (gN 5) gs0))))
    (rSeq (rAsg (rCB rTuple (rCons (rLc (rRg1 (rCons (rVar 5) rNil)) (.nm 7) rYes (rCall 4 sp_reckoning (fun _ _ => False) (rCons (rVar 0) (rCons (rVar 1) (rCons (rVar 2) (rCons (rC (.int 1)) rNil))))) [7] true) rNil)) (gN 6))
    (rRet (rTup (rCons (rC (.str "call")) (rCons (rCall 2 sp_pick (fun _ _ => False) (rCons (rVar 0) (rCons (rOp (rCatL' true) (rVar 2) (rLstF (rCons (rC .non) rNil))) rNil))) (rCons (rVar 4) (rCons (rVar 6) rNil))))))))
theorem d_call {X : Cx} {k : Nat} (C : Ct X N_call (defScope s_call) k) (hfn : ∀ y, X.fn y = true)  (b_tuple : X.mg "tuple" = none) (b_range : X.mg "range" = none) {j_pick : Nat} (hl_pick : j_pick ≤ k) (H_pick : HasX X "_law_pick" j_pick 2 sp_pick) {j_reckoning : Nat} (hl_reckoning : j_reckoning ≤ k) (H_reckoning : HasX X "_law_reckoning" j_reckoning 4 sp_reckoning) : PDSs X (defBody s_call) (rd_call ) :=
  (dss_cons (ds_asg (xcall C H_pick hl_pick g_call_pick (da_cons (xv C 0 n_call_0) (da_cons (xv C 3 n_call_3) da_nil))) (dg_tup C.calm (dgs_cons (xgn C 4 n_call_4 (.inl l_call_4)) (dgs_cons (xgn C 5 n_call_5 (.inl l_call_5)) dgs_nil))))
    (dss_cons (xset C 6 n_call_6 (.inl l_call_6) (xty C c_tuple g_call_tuple b_tuple boot_tuple' (da_cons (xlc C true (own := [("_law_k", 7)]) (di_range1 C.sc (g_call_range).hg b_range (da_cons (xv C 5 n_call_5) da_nil)) (by decide +kernel) (by decide) (fun _ _ _ _ _ D1 => (xtg D1 7 ⟨rfl, (by first | exact .inl rfl | exact .inr (.inl rfl) | exact .inr (.inr rfl)), by decide, by decide⟩ (by first | exact .inl rfl | exact .inr ⟨rfl, rfl⟩))) (fun _ _ _ _ _ D1 => dts_nil) (fun _ _ _ _ _ D1 => (xcall D1 H_reckoning hl_reckoning ⟨rfl, by decide, by decide⟩ (da_cons (xv D1 0 ⟨rfl, (by first | exact .inl rfl | exact .inr (.inl rfl) | exact .inr (.inr rfl)), by decide, by decide⟩) (da_cons (xv D1 1 ⟨rfl, (by first | exact .inl rfl | exact .inr (.inl rfl) | exact .inr (.inr rfl)), by decide, by decide⟩) (da_cons (xv D1 2 ⟨rfl, (by first | exact .inl rfl | exact .inr (.inl rfl) | exact .inr (.inr rfl)), by decide, by decide⟩) (da_cons de_int da_nil))))))) da_nil)))
    (dss_one (ds_ret (de_tup (da_cons (de_str (x := "call")) (da_cons (xcall C H_pick hl_pick g_call_pick (da_cons (xv C 0 n_call_0) (da_cons (de_op (d_catL true) (xv C 2 n_call_2) (de_lstF (da_cons de_non da_nil))) da_nil))) (da_cons (xv C 4 n_call_4) (da_cons (xv C 6 n_call_6) da_nil)))))))))
/-! ### _law_row -/
abbrev s_row : Stmt := top 11
def N_row : List Str := ["_law_state", "_law_top_here", "_law_names_here", "_law_ahead", "_law_place", "_law_way", "_law_to"]
def P_row : List Str := ["_law_state", "_law_top_here", "_law_names_here", "_law_ahead", "_law_place"]
theorem sc_row : FnScope N_row P_row (defScope s_row) := ⟨rfl, rfl, rfl, by decide +kernel, rfl, by decide +kernel, by decide +kernel⟩
theorem k_row : (defScope s_row).kind = .function := rfl
theorem l_row_0 : (defScope s_row).names.lookup (Str.ofString "_law_state") = some .local := by decide +kernel
theorem n_row_0 : Nm N_row (defScope s_row) 0 "_law_state" := ⟨rfl, .inl l_row_0, by decide, by decide⟩
theorem l_row_1 : (defScope s_row).names.lookup (Str.ofString "_law_top_here") = some .local := by decide +kernel
theorem n_row_1 : Nm N_row (defScope s_row) 1 "_law_top_here" := ⟨rfl, .inl l_row_1, by decide, by decide⟩
theorem l_row_2 : (defScope s_row).names.lookup (Str.ofString "_law_names_here") = some .local := by decide +kernel
theorem n_row_2 : Nm N_row (defScope s_row) 2 "_law_names_here" := ⟨rfl, .inl l_row_2, by decide, by decide⟩
theorem l_row_3 : (defScope s_row).names.lookup (Str.ofString "_law_ahead") = some .local := by decide +kernel
theorem n_row_3 : Nm N_row (defScope s_row) 3 "_law_ahead" := ⟨rfl, .inl l_row_3, by decide, by decide⟩
theorem l_row_4 : (defScope s_row).names.lookup (Str.ofString "_law_place") = some .local := by decide +kernel
theorem n_row_4 : Nm N_row (defScope s_row) 4 "_law_place" := ⟨rfl, .inl l_row_4, by decide, by decide⟩
theorem l_row_5 : (defScope s_row).names.lookup (Str.ofString "_law_way") = some .local := by decide +kernel
theorem n_row_5 : Nm N_row (defScope s_row) 5 "_law_way" := ⟨rfl, .inl l_row_5, by decide, by decide⟩
theorem l_row_6 : (defScope s_row).names.lookup (Str.ofString "_law_to") = some .local := by decide +kernel
theorem n_row_6 : Nm N_row (defScope s_row) 6 "_law_to" := ⟨rfl, .inl l_row_6, by decide, by decide⟩
theorem g_row_reckoning : Gn (defScope s_row) "_law_reckoning" := ⟨by decide +kernel, by decide, by decide⟩
theorem g_row_pick : Gn (defScope s_row) "_law_pick" := ⟨by decide +kernel, by decide, by decide⟩
theorem g_row_take : Gn (defScope s_row) "_law_take" := ⟨by decide +kernel, by decide, by decide⟩
def rd_row  : DS :=
  (rSeq (rAsg (rCall 2 sp_take (fun _ _ => False) (rCons (rVar 0) (rCons (rC (.int 13)) rNil))) (gN 5))
    (rSeq (rIf (rB (rOp rEqD (rVar 5) (rC (.int 5)))) (rRet (rTup (rCons (rC (.str "ask")) (rCons (rCall 2 sp_pick (fun _ _ => False) (rCons (rVar 0) (rCons (rVar 2) rNil))) rNil)))) rNext)
    (rSeq (rIf (rB (rOp (rInD' false) (rVar 5) (rTup (rCons (rC (.int 6)) (rCons (rC (.int 7)) rNil))))) (rRet (rTup (rCons (rC (.str "tell")) (rCons (rCall 4 sp_reckoning (fun _ _ => False) (rCons (rVar 0) (rCons (rVar 1) (rCons (rVar 2) (rCons (rC (.int 2)) rNil))))) rNil)))) rNext)
    (rSeq (rIf (rB (rOp (rInD' false) (rVar 5) (rTup (rCons (rC (.int 8)) (rCons (rC (.int 9)) rNil))))) (rSeq (rAsg (rCall 2 sp_take (fun _ _ => False) (rCons (rVar 0) (rCons (rOp rIx (rVar 4) (rC (.int 1))) rNil))) (gN 6))
    (rRet (rTup (rCons (rC (.str "if")) (rCons (rCall 4 sp_reckoning (fun _ _ => False) (rCons (rVar 0) (rCons (rVar 1) (rCons (rVar 2) (rCons (rC (.int 2)) rNil))))) (rCons (rIfE (rB (rOp rEqD (rVar 6) (rOp (rI (fun _ _ => True) fun i j => .int (i + j)) (rOp rIx (rVar 4) (rC (.int 0))) (rC (.int 1))))) (rOp rIx (rVar 4) (rC (.int 0))) (rVar 6)) rNil)))))) rNext)
    (rSeq (rIf (rB (rOp rEqD (rVar 5) (rC (.int 10)))) (rRet (rTup (rCons (rC (.str "go")) (rCons (rCall 2 sp_take (fun _ _ => False) (rCons (rVar 0) (rCons (rOp rIx (rVar 4) (rC (.int 1))) rNil))) rNil)))) rNext)
    (rSeq (rIf (rAnd (rB (rOp rEqD (rVar 5) (rC (.int 12)))) (rB (rOp rEqD (rCall 2 sp_take (fun _ _ => False) (rCons (rVar 0) (rCons (rC (.int 2)) rNil))) (rC (.int 0))))) (rRet (rTup (rCons (rC (.str "give")) (rCons (rCall 4 sp_reckoning (fun _ _ => False) (rCons (rVar 0) (rCons (rVar 1) (rCons (rVar 2) (rCons (rC (.int 1)) rNil))))) rNil)))) rNext)
    (rRet (rTup (rCons (rC (.str "set")) (rCons (rCall 2 sp_pick (fun _ _ => False) (rCons (rVar 0) (rCons (rVar 2) rNil))) (rCons (rCall 4 sp_reckoning (fun _ _ => False) (rCons (rVar 0) (rCons (rVar 1) (rCons (rVar 2) (rCons (rC (.int 2)) rNil))))) rNil)))))))))))
theorem d_row {X : Cx} {k : Nat} (C : Ct X N_row (defScope s_row) k) (hfn : ∀ y, X.fn y = true)  {j_reckoning : Nat} (hl_reckoning : j_reckoning ≤ k) (H_reckoning : HasX X "_law_reckoning" j_reckoning 4 sp_reckoning) {j_pick : Nat} (hl_pick : j_pick ≤ k) (H_pick : HasX X "_law_pick" j_pick 2 sp_pick) {j_take : Nat} (hl_take : j_take ≤ k) (H_take : HasX X "_law_take" j_take 2 sp_take) : PDSs X (defBody s_row) (rd_row ) :=
  (dss_cons (xset C 5 n_row_5 (.inl l_row_5) (xcall C H_take hl_take g_row_take (da_cons (xv C 0 n_row_0) (da_cons de_int da_nil))))
    (dss_cons (ds_if (dt_cmp (d_eq C.u64) (xv C 5 n_row_5) de_int (nobehind _ (by decide) (by decide))) (dss_one (ds_ret (de_tup (da_cons (de_str (x := "ask")) (da_cons (xcall C H_pick hl_pick g_row_pick (da_cons (xv C 0 n_row_0) (da_cons (xv C 2 n_row_2) da_nil))) da_nil))))) dss_nil)
    (dss_cons (ds_if (dt_cmp (d_in C.u65) (xv C 5 n_row_5) (de_tup (da_cons de_int (da_cons de_int da_nil))) rfl) (dss_one (ds_ret (de_tup (da_cons (de_str (x := "tell")) (da_cons (xcall C H_reckoning hl_reckoning g_row_reckoning (da_cons (xv C 0 n_row_0) (da_cons (xv C 1 n_row_1) (da_cons (xv C 2 n_row_2) (da_cons de_int da_nil))))) da_nil))))) dss_nil)
    (dss_cons (ds_if (dt_cmp (d_in C.u65) (xv C 5 n_row_5) (de_tup (da_cons de_int (da_cons de_int da_nil))) rfl) (dss_cons (xset C 6 n_row_6 (.inl l_row_6) (xcall C H_take hl_take g_row_take (da_cons (xv C 0 n_row_0) (da_cons (de_ix d_ix (xv C 4 n_row_4) de_int (fun _ _ => rfl)) da_nil))))
    (dss_one (ds_ret (de_tup (da_cons (de_str (x := "if")) (da_cons (xcall C H_reckoning hl_reckoning g_row_reckoning (da_cons (xv C 0 n_row_0) (da_cons (xv C 1 n_row_1) (da_cons (xv C 2 n_row_2) (da_cons de_int da_nil))))) (da_cons (de_ifE (dt_cmp (d_eq C.u64) (xv C 6 n_row_6) (de_op d_add (de_ix d_ix (xv C 4 n_row_4) de_int (fun _ _ => rfl)) de_int) (nobehind _ (by decide) (by decide))) (de_ix d_ix (xv C 4 n_row_4) de_int (fun _ _ => rfl)) (xv C 6 n_row_6)) da_nil))))))) dss_nil)
    (dss_cons (ds_if (dt_cmp (d_eq C.u64) (xv C 5 n_row_5) de_int (nobehind _ (by decide) (by decide))) (dss_one (ds_ret (de_tup (da_cons (de_str (x := "go")) (da_cons (xcall C H_take hl_take g_row_take (da_cons (xv C 0 n_row_0) (da_cons (de_ix d_ix (xv C 4 n_row_4) de_int (fun _ _ => rfl)) da_nil))) da_nil))))) dss_nil)
    (dss_cons (ds_if (dt_w (dw_and (dt_cmp (d_eq C.u64) (xv C 5 n_row_5) de_int (nobehind _ (by decide) (by decide))) (dw_and1 (dt_cmp (d_eq C.u64) (xcall C H_take hl_take g_row_take (da_cons (xv C 0 n_row_0) (da_cons de_int da_nil))) de_int (nobehind _ (by decide) (by decide)))))) (dss_one (ds_ret (de_tup (da_cons (de_str (x := "give")) (da_cons (xcall C H_reckoning hl_reckoning g_row_reckoning (da_cons (xv C 0 n_row_0) (da_cons (xv C 1 n_row_1) (da_cons (xv C 2 n_row_2) (da_cons de_int da_nil))))) da_nil))))) dss_nil)
    (dss_one (ds_ret (de_tup (da_cons (de_str (x := "set")) (da_cons (xcall C H_pick hl_pick g_row_pick (da_cons (xv C 0 n_row_0) (da_cons (xv C 2 n_row_2) da_nil))) (da_cons (xcall C H_reckoning hl_reckoning g_row_reckoning (da_cons (xv C 0 n_row_0) (da_cons (xv C 1 n_row_1) (da_cons (xv C 2 n_row_2) (da_cons de_int da_nil))))) da_nil))))))))))))
/-! ### _law_helper -/
abbrev s_helper : Stmt := top 12
def N_helper : List Str := ["_law_state", "_law_top_here", "_law_name", "_law_params", "_law_ahead", "_law_words_here", "_law_names_here", "_law_many", "_law_rows", "_law_at", "_law_turn", "_law_last"]
def P_helper : List Str := ["_law_state", "_law_top_here", "_law_name", "_law_params", "_law_ahead"]
theorem sc_helper : FnScope N_helper P_helper (defScope s_helper) := ⟨rfl, rfl, rfl, by decide +kernel, rfl, by decide +kernel, by decide +kernel⟩
theorem k_helper : (defScope s_helper).kind = .function := rfl
theorem l_helper_0 : (defScope s_helper).names.lookup (Str.ofString "_law_state") = some .cell := by decide +kernel
theorem n_helper_0 : Nm N_helper (defScope s_helper) 0 "_law_state" := ⟨rfl, .inr (.inl l_helper_0), by decide, by decide⟩
theorem l_helper_1 : (defScope s_helper).names.lookup (Str.ofString "_law_top_here") = some .cell := by decide +kernel
theorem n_helper_1 : Nm N_helper (defScope s_helper) 1 "_law_top_here" := ⟨rfl, .inr (.inl l_helper_1), by decide, by decide⟩
theorem l_helper_2 : (defScope s_helper).names.lookup (Str.ofString "_law_name") = some .local := by decide +kernel
theorem n_helper_2 : Nm N_helper (defScope s_helper) 2 "_law_name" := ⟨rfl, .inl l_helper_2, by decide, by decide⟩
theorem l_helper_3 : (defScope s_helper).names.lookup (Str.ofString "_law_params") = some .local := by decide +kernel
theorem n_helper_3 : Nm N_helper (defScope s_helper) 3 "_law_params" := ⟨rfl, .inl l_helper_3, by decide, by decide⟩
theorem l_helper_4 : (defScope s_helper).names.lookup (Str.ofString "_law_ahead") = some .cell := by decide +kernel
theorem n_helper_4 : Nm N_helper (defScope s_helper) 4 "_law_ahead" := ⟨rfl, .inr (.inl l_helper_4), by decide, by decide⟩
theorem l_helper_5 : (defScope s_helper).names.lookup (Str.ofString "_law_words_here") = some .local := by decide +kernel
theorem n_helper_5 : Nm N_helper (defScope s_helper) 5 "_law_words_here" := ⟨rfl, .inl l_helper_5, by decide, by decide⟩
theorem l_helper_6 : (defScope s_helper).names.lookup (Str.ofString "_law_names_here") = some .cell := by decide +kernel
theorem n_helper_6 : Nm N_helper (defScope s_helper) 6 "_law_names_here" := ⟨rfl, .inr (.inl l_helper_6), by decide, by decide⟩
theorem l_helper_7 : (defScope s_helper).names.lookup (Str.ofString "_law_many") = some .cell := by decide +kernel
theorem n_helper_7 : Nm N_helper (defScope s_helper) 7 "_law_many" := ⟨rfl, .inr (.inl l_helper_7), by decide, by decide⟩
theorem l_helper_8 : (defScope s_helper).names.lookup (Str.ofString "_law_rows") = some .local := by decide +kernel
theorem n_helper_8 : Nm N_helper (defScope s_helper) 8 "_law_rows" := ⟨rfl, .inl l_helper_8, by decide, by decide⟩
theorem l_helper_10 : (defScope s_helper).names.lookup (Str.ofString "_law_turn") = some .local := by decide +kernel
theorem n_helper_10 : Nm N_helper (defScope s_helper) 10 "_law_turn" := ⟨rfl, .inl l_helper_10, by decide, by decide⟩
theorem l_helper_11 : (defScope s_helper).names.lookup (Str.ofString "_law_last") = some .local := by decide +kernel
theorem n_helper_11 : Nm N_helper (defScope s_helper) 11 "_law_last" := ⟨rfl, .inl l_helper_11, by decide, by decide⟩
theorem g_helper_tuple : Gn (defScope s_helper) "tuple" := ⟨by decide +kernel, by decide, by decide⟩
theorem g_helper_len : Gn (defScope s_helper) "len" := ⟨by decide +kernel, by decide, by decide⟩
theorem g_helper_take : Gn (defScope s_helper) "_law_take" := ⟨by decide +kernel, by decide, by decide⟩
theorem g_helper_reckoning : Gn (defScope s_helper) "_law_reckoning" := ⟨by decide +kernel, by decide, by decide⟩
theorem g_helper_range : Gn (defScope s_helper) "range" := ⟨by decide +kernel, by decide, by decide⟩
theorem g_helper_call : Gn (defScope s_helper) "_law_call" := ⟨by decide +kernel, by decide, by decide⟩
theorem g_helper_max : Gn (defScope s_helper) "max" := ⟨by decide +kernel, by decide, by decide⟩
theorem g_helper_words : Gn (defScope s_helper) "_law_words" := ⟨by decide +kernel, by decide, by decide⟩
def rd_helper  : DS :=
  (rSeq (rAsg (rCall 1 sp_words (fun _ _ => False) (rCons (rVar 0) rNil)) (gN 5))
    (rSeq (rAsg (rSl (rSlL' true) (rVar 5) rNoP (rPt (rCB rMax2 (rCons (rCB rLen (rCons (rVar 3) rNil)) (rCons (rOp (rI (fun _ _ => True) fun i j => .int (i + j)) (rC (.int 1)) (rCall 2 sp_take (fun _ _ => False) (rCons (rVar 0) (rCons (rC (.int 4)) rNil)))) rNil))))) (gN 6))
    (rSeq (rAsg (rOp (rI (fun _ _ => True) fun i j => .int (i + j)) (rC (.int 1)) (rCall 2 sp_take (fun _ _ => False) (rCons (rVar 0) (rCons (rC (.int 7)) rNil)))) (gN 7))
    (rSeq (rAsg (rLc (rRg1 (rCons (rOp (rI (fun _ _ => True) fun i j => .int (i - j)) (rVar 7) (rC (.int 1))) rNil)) (.nm 9) rYes (rCall 5 sp_row (fun _ _ => False) (rCons (rVar 0) (rCons (rVar 1) (rCons (rVar 6) (rCons (rVar 4) (rCons (rTup (rCons (rVar 9) (rCons (rVar 7) rNil))) rNil)))))) [9] false) (gN 8))
    (rCut (rIf (rAnd (rB (rOp rNeD (rVar 4) (rLstF rNil))) (rB (rOp (rI (fun _ _ => True) fun i j => .bl (decide (j < i))) (rVar 7) (rC (.int 1))))) (rFor (rRg1 (rCons (rCall 2 sp_take (fun _ _ => False) (rCons (rVar 0) (rCons (rC (.int 3)) rNil))) rNil)) (gN 10) (rLP (rVar 8) (rCall 2 sp_take (fun _ _ => False) (rCons (rVar 0) (rCons (rOp (rI (fun _ _ => True) fun i j => .int (i - j)) (rVar 7) (rC (.int 1))) rNil))) (rCall 4 sp_call (fun _ _ => False) (rCons (rVar 0) (rCons (rVar 1) (rCons (rVar 6) (rCons (rVar 4) rNil))))))) rNext)
    (rSeq (rAsg (rTup (rCons (rC (.str "give")) (rCons (rCall 4 sp_reckoning (fun _ _ => False) (rCons (rVar 0) (rCons (rVar 1) (rCons (rVar 6) (rCons (rC (.int 1)) rNil))))) rNil))) (gN 11))
    (rSeq (rDrop (rBM isLst rAppend (rVar 8) (rCons (rIfE (rB (rOp (rI (fun _ _ => True) fun i j => .bl (decide (j < i))) (rCall 2 sp_take (fun _ _ => False) (rCons (rVar 0) (rCons (rC (.int 4)) rNil))) (rC (.int 0)))) (rVar 11) (rTup (rCons (rC (.str "go")) (rCons (rCall 2 sp_take (fun _ _ => False) (rCons (rVar 0) (rCons (rVar 7) rNil))) rNil)))) rNil)))
    (rRet (rTup (rCons (rVar 2) (rCons (rCB rTupleN (rCons (rSl (rSlL' true) (rVar 5) rNoP (rPt (rCB rLen (rCons (rVar 3) rNil)))) rNil)) (rCons (rCB rTuple (rCons (rVar 8) rNil)) rNil))))))))))))
theorem d_helper {X : Cx} {k : Nat} (C : Ct X N_helper (defScope s_helper) k) (hfn : ∀ y, X.fn y = true)  (b_tuple : X.mg "tuple" = none) (b_len : X.mg "len" = none) (b_range : X.mg "range" = none) (b_max : X.mg "max" = none) {j_take : Nat} (hl_take : j_take ≤ k) (H_take : HasX X "_law_take" j_take 2 sp_take) {j_reckoning : Nat} (hl_reckoning : j_reckoning ≤ k) (H_reckoning : HasX X "_law_reckoning" j_reckoning 4 sp_reckoning) {j_call : Nat} (hl_call : j_call ≤ k) (H_call : HasX X "_law_call" j_call 4 sp_call) {j_row : Nat} (hl_row : j_row ≤ k) (H_row : HasX X "_law_row" j_row 5 sp_row) {j_words : Nat} (hl_words : j_words ≤ k) (H_words : HasX X "_law_words" j_words 1 sp_words) : PDSs X (defBody s_helper) (rd_helper ) :=
  (dss_cons (xset C 5 n_helper_5 (.inl l_helper_5) (xcall C H_words hl_words g_helper_words (da_cons (xv C 0 n_helper_0) da_nil)))
    (dss_cons (xset C 6 n_helper_6 (.inr ⟨l_helper_6, hfn _⟩) (de_slice (sl_l true) (xv C 5 n_helper_5) do_none (do_some (xbi C (c_max2 C.calm) g_helper_max b_max boot_max' (da_cons (xbi C c_len g_helper_len b_len boot_len' (da_cons (xv C 3 n_helper_3) da_nil)) (da_cons (de_op d_add de_int (xcall C H_take hl_take g_helper_take (da_cons (xv C 0 n_helper_0) (da_cons de_int da_nil)))) da_nil))))))
    (dss_cons (xset C 7 n_helper_7 (.inr ⟨l_helper_7, hfn _⟩) (de_op d_add de_int (xcall C H_take hl_take g_helper_take (da_cons (xv C 0 n_helper_0) (da_cons de_int da_nil)))))
    (dss_cons (xslc C false 8 (own := [("_law_at", 9)]) n_helper_8 l_helper_8 rfl (by decide +kernel) (di_range1 C.sc (g_helper_range).hg b_range (da_cons (de_op d_sub (xv C 7 n_helper_7) de_int) da_nil)) (by decide +kernel) (by decide) k_helper (fun _ _ _ _ _ D1 => (xtg D1 9 ⟨rfl, (by first | exact .inl rfl | exact .inr (.inl rfl) | exact .inr (.inr rfl)), by decide, by decide⟩ (by first | exact .inl rfl | exact .inr ⟨rfl, rfl⟩))) (fun _ _ _ _ _ D1 => dts_nil) (fun _ _ _ _ _ D1 => (xcall D1 H_row hl_row ⟨rfl, by decide, by decide⟩ (da_cons (xv D1 0 ⟨rfl, (by first | exact .inl rfl | exact .inr (.inl rfl) | exact .inr (.inr rfl)), by decide, by decide⟩) (da_cons (xv D1 1 ⟨rfl, (by first | exact .inl rfl | exact .inr (.inl rfl) | exact .inr (.inr rfl)), by decide, by decide⟩) (da_cons (xv D1 6 ⟨rfl, (by first | exact .inl rfl | exact .inr (.inl rfl) | exact .inr (.inr rfl)), by decide, by decide⟩) (da_cons (xv D1 4 ⟨rfl, (by first | exact .inl rfl | exact .inr (.inl rfl) | exact .inr (.inr rfl)), by decide, by decide⟩) (da_cons (de_tup (da_cons (xv D1 9 ⟨rfl, (by first | exact .inl rfl | exact .inr (.inl rfl) | exact .inr (.inr rfl)), by decide, by decide⟩) (da_cons (xv D1 7 ⟨rfl, (by first | exact .inl rfl | exact .inr (.inl rfl) | exact .inr (.inr rfl)), by decide, by decide⟩) da_nil))) da_nil))))))))
    (dss_cut (ds_if (dt_w (dw_and (dt_cmp (d_ne C.u64) (xv C 4 n_helper_4) (de_lstF da_nil) (nobehind _ (by decide) (by decide))) (dw_and1 (dt_cmp d_gt (xv C 7 n_helper_7) de_int (nobehind _ (by decide) (by decide)))))) (dss_one (ds_for C.pass C.calm (di_range1 C.sc (g_helper_range).hg b_range (da_cons (xcall C H_take hl_take g_helper_take (da_cons (xv C 0 n_helper_0) (da_cons de_int da_nil))) da_nil)) (xgn C 10 n_helper_10 (.inl l_helper_10))
    (dss_one (ds_lput (xcall C H_call hl_call g_helper_call (da_cons (xv C 0 n_helper_0) (da_cons (xv C 1 n_helper_1) (da_cons (xv C 6 n_helper_6) (da_cons (xv C 4 n_helper_4) da_nil))))) (xv C 8 n_helper_8) (xcall C H_take hl_take g_helper_take (da_cons (xv C 0 n_helper_0) (da_cons (de_op d_sub (xv C 7 n_helper_7) de_int) da_nil))))))) dss_nil)
    (dss_cons (xset C 11 n_helper_11 (.inl l_helper_11) (de_tup (da_cons (de_str (x := "give")) (da_cons (xcall C H_reckoning hl_reckoning g_helper_reckoning (da_cons (xv C 0 n_helper_0) (da_cons (xv C 1 n_helper_1) (da_cons (xv C 6 n_helper_6) (da_cons de_int da_nil))))) da_nil))))
    (dss_cons (ds_expr (de_lm PySem.F.slot_list_append PySem.F.type_list_append m_append (xv C 8 n_helper_8) (da_cons (de_ifE (dt_cmp d_gt (xcall C H_take hl_take g_helper_take (da_cons (xv C 0 n_helper_0) (da_cons de_int da_nil))) de_int (nobehind _ (by decide) (by decide))) (xv C 11 n_helper_11) (de_tup (da_cons (de_str (x := "go")) (da_cons (xcall C H_take hl_take g_helper_take (da_cons (xv C 0 n_helper_0) (da_cons (xv C 7 n_helper_7) da_nil))) da_nil)))) da_nil)))
    (dss_one (ds_ret (de_tup (da_cons (xv C 2 n_helper_2) (da_cons (xty C c_tupleN g_helper_tuple b_tuple boot_tuple' (da_cons (de_slice (sl_l true) (xv C 5 n_helper_5) do_none (do_some (xbi C c_len g_helper_len b_len boot_len' (da_cons (xv C 3 n_helper_3) da_nil)))) da_nil)) (da_cons (xty C c_tuple g_helper_tuple b_tuple boot_tuple' (da_cons (xv C 8 n_helper_8) da_nil)) da_nil)))))))))))))
/-! ### _law_program -/
abbrev s_program : Stmt := top 13
def N_program : List Str := ["_law_state", "_law_top_here", "_law_titles", "_law_helpers", "_law_ahead", "_law_k", "_law_many"]
def P_program : List Str := ["_law_state"]
theorem sc_program : FnScope N_program P_program (defScope s_program) := ⟨rfl, rfl, rfl, by decide +kernel, rfl, by decide +kernel, by decide +kernel⟩
theorem k_program : (defScope s_program).kind = .function := rfl
theorem l_program_0 : (defScope s_program).names.lookup (Str.ofString "_law_state") = some .local := by decide +kernel
theorem n_program_0 : Nm N_program (defScope s_program) 0 "_law_state" := ⟨rfl, .inl l_program_0, by decide, by decide⟩
theorem l_program_1 : (defScope s_program).names.lookup (Str.ofString "_law_top_here") = some .local := by decide +kernel
theorem n_program_1 : Nm N_program (defScope s_program) 1 "_law_top_here" := ⟨rfl, .inl l_program_1, by decide, by decide⟩
theorem l_program_2 : (defScope s_program).names.lookup (Str.ofString "_law_titles") = some .local := by decide +kernel
theorem n_program_2 : Nm N_program (defScope s_program) 2 "_law_titles" := ⟨rfl, .inl l_program_2, by decide, by decide⟩
theorem l_program_3 : (defScope s_program).names.lookup (Str.ofString "_law_helpers") = some .local := by decide +kernel
theorem n_program_3 : Nm N_program (defScope s_program) 3 "_law_helpers" := ⟨rfl, .inl l_program_3, by decide, by decide⟩
theorem l_program_4 : (defScope s_program).names.lookup (Str.ofString "_law_ahead") = some .local := by decide +kernel
theorem n_program_4 : Nm N_program (defScope s_program) 4 "_law_ahead" := ⟨rfl, .inl l_program_4, by decide, by decide⟩
theorem l_program_5 : (defScope s_program).names.lookup (Str.ofString "_law_k") = some .local := by decide +kernel
theorem n_program_5 : Nm N_program (defScope s_program) 5 "_law_k" := ⟨rfl, .inl l_program_5, by decide, by decide⟩
theorem l_program_6 : (defScope s_program).names.lookup (Str.ofString "_law_many") = some .local := by decide +kernel
theorem n_program_6 : Nm N_program (defScope s_program) 6 "_law_many" := ⟨rfl, .inl l_program_6, by decide, by decide⟩
theorem g_program_tuple : Gn (defScope s_program) "tuple" := ⟨by decide +kernel, by decide, by decide⟩
theorem g_program_helper : Gn (defScope s_program) "_law_helper" := ⟨by decide +kernel, by decide, by decide⟩
theorem g_program_len : Gn (defScope s_program) "len" := ⟨by decide +kernel, by decide, by decide⟩
theorem g_program_range : Gn (defScope s_program) "range" := ⟨by decide +kernel, by decide, by decide⟩
theorem g_program_take : Gn (defScope s_program) "_law_take" := ⟨by decide +kernel, by decide, by decide⟩
theorem g_program_words : Gn (defScope s_program) "_law_words" := ⟨by decide +kernel, by decide, by decide⟩
theorem g_program_top : Gn (defScope s_program) "_law_top" := ⟨by decide +kernel, by decide, by decide⟩
def rd_program  : DS :=
  (rSeq (rAsg (rCall 1 sp_top (fun _ _ => False) (rCons (rVar 0) rNil)) (gN 1))
    (rSeq (rAsg (rCall 1 sp_words (fun _ _ => False) (rCons (rVar 0) rNil)) (gN 2))
    (rSeq (rAsg (rLstM rNil) (gN 3))
    (rSeq (rAsg (rLstF rNil) (gN 4))
    (rCut (rFor (rRg1 (rCons (rCall 2 sp_take (fun _ _ => False) (rCons (rVar 0) (rCons (rC (.int 3)) rNil))) rNil)) (gN 5) (rSeq (rAsg (rCall 2 sp_take (fun _ _ => False) (rCons (rVar 0) (rCons (rC (.int 4)) rNil))) (gN 6))
    (rSeq (rDrop (rBM isLst rAppend (rVar 3) (rCons (rCall 5 sp_helper (fun _ _ => False) (rCons (rVar 0) (rCons (rVar 1) (rCons (rOp rIx (rVar 2) (rVar 5)) (rCons (rOp (rRepL' true) (rLstM (rCons (rC (.int 0)) rNil)) (rVar 6)) (rCons (rVar 4) rNil)))))) rNil)))
    (rAsg (rOp (rCatL' true) (rVar 4) (rLstF (rCons (rTup (rCons (rOp rIx (rVar 2) (rVar 5)) (rCons (rVar 6) rNil))) rNil))) (gN 4)))))
    (rSeq (rDrop (rBM isLst rAppend (rVar 3) (rCons (rCall 5 sp_helper (fun _ _ => False) (rCons (rVar 0) (rCons (rVar 1) (rCons (rOp rIx (rVar 2) (rCB rLen (rCons (rVar 3) rNil))) (rCons (rLstF rNil) (rCons (rVar 4) rNil)))))) rNil)))
    (rRet (rTup (rCons (rVar 1) (rCons (rCB rTuple (rCons (rVar 3) rNil)) rNil))))))))))
theorem d_program {X : Cx} {k : Nat} (C : Ct X N_program (defScope s_program) k) (hfn : ∀ y, X.fn y = true)  (b_tuple : X.mg "tuple" = none) (b_len : X.mg "len" = none) (b_range : X.mg "range" = none) {j_helper : Nat} (hl_helper : j_helper ≤ k) (H_helper : HasX X "_law_helper" j_helper 5 sp_helper) {j_take : Nat} (hl_take : j_take ≤ k) (H_take : HasX X "_law_take" j_take 2 sp_take) {j_words : Nat} (hl_words : j_words ≤ k) (H_words : HasX X "_law_words" j_words 1 sp_words) {j_top : Nat} (hl_top : j_top ≤ k) (H_top : HasX X "_law_top" j_top 1 sp_top) : PDSs X (defBody s_program) (rd_program ) :=
  (dss_cons (xset C 1 n_program_1 (.inl l_program_1) (xcall C H_top hl_top g_program_top (da_cons (xv C 0 n_program_0) da_nil)))
    (dss_cons (xset C 2 n_program_2 (.inl l_program_2) (xcall C H_words hl_words g_program_words (da_cons (xv C 0 n_program_0) da_nil)))
    (dss_cons (xset C 3 n_program_3 (.inl l_program_3) (de_lstM da_nil))
    (dss_cons (xset C 4 n_program_4 (.inl l_program_4) (de_lstF da_nil))
    (dss_cut (ds_for C.pass C.calm (di_range1 C.sc (g_program_range).hg b_range (da_cons (xcall C H_take hl_take g_program_take (da_cons (xv C 0 n_program_0) (da_cons de_int da_nil))) da_nil)) (xgn C 5 n_program_5 (.inl l_program_5))
    (dss_cons (xset C 6 n_program_6 (.inl l_program_6) (xcall C H_take hl_take g_program_take (da_cons (xv C 0 n_program_0) (da_cons de_int da_nil))))
    (dss_cons (ds_expr (de_lm PySem.F.slot_list_append PySem.F.type_list_append m_append (xv C 3 n_program_3) (da_cons (xcall C H_helper hl_helper g_program_helper (da_cons (xv C 0 n_program_0) (da_cons (xv C 1 n_program_1) (da_cons (de_ix d_ix (xv C 2 n_program_2) (xv C 5 n_program_5) (fun _ _ => rfl)) (da_cons (de_op (d_repL true) (de_lstM (da_cons de_int da_nil)) (xv C 6 n_program_6)) (da_cons (xv C 4 n_program_4) da_nil)))))) da_nil)))
    (dss_one (xset C 4 n_program_4 (.inl l_program_4) (de_op (d_catL true) (xv C 4 n_program_4) (de_lstF (da_cons (de_tup (da_cons (de_ix d_ix (xv C 2 n_program_2) (xv C 5 n_program_5) (fun _ _ => rfl)) (da_cons (xv C 6 n_program_6) da_nil))) da_nil))))))))
    (dss_cons (ds_expr (de_lm PySem.F.slot_list_append PySem.F.type_list_append m_append (xv C 3 n_program_3) (da_cons (xcall C H_helper hl_helper g_program_helper (da_cons (xv C 0 n_program_0) (da_cons (xv C 1 n_program_1) (da_cons (de_ix d_ix (xv C 2 n_program_2) (xbi C c_len g_program_len b_len boot_len' (da_cons (xv C 3 n_program_3) da_nil)) (fun _ _ => rfl)) (da_cons (de_lstF da_nil) (da_cons (xv C 4 n_program_4) da_nil)))))) da_nil)))
    (dss_one (ds_ret (de_tup (da_cons (xv C 1 n_program_1) (da_cons (xty C c_tuple g_program_tuple b_tuple boot_tuple' (da_cons (xv C 3 n_program_3) da_nil)) da_nil)))))))))))
/-! ### _law_put -/
abbrev s_put : Stmt := top 14
def N_put : List Str := ["_law_term", "_law_table"]
def P_put : List Str := ["_law_term", "_law_table"]
theorem sc_put : FnScope N_put P_put (defScope s_put) := ⟨rfl, rfl, rfl, by decide +kernel, rfl, by decide +kernel, by decide +kernel⟩
theorem k_put : (defScope s_put).kind = .function := rfl
theorem l_put_0 : (defScope s_put).names.lookup (Str.ofString "_law_term") = some .local := by decide +kernel
theorem n_put_0 : Nm N_put (defScope s_put) 0 "_law_term" := ⟨rfl, .inl l_put_0, by decide, by decide⟩
theorem l_put_1 : (defScope s_put).names.lookup (Str.ofString "_law_table") = some .local := by decide +kernel
theorem n_put_1 : Nm N_put (defScope s_put) 1 "_law_table" := ⟨rfl, .inl l_put_1, by decide, by decide⟩
theorem g_put_put : Gn (defScope s_put) "_law_put" := ⟨by decide +kernel, by decide, by decide⟩
def rd_put (S_put : DSp) : DS :=
  (rSeq (rIf (rB (rOp rEqD (rOp rIx (rVar 0) (rC (.int 0))) (rC (.str "number")))) (rRet (rVar 0)) rNext)
    (rSeq (rIf (rB (rOp rEqD (rOp rIx (rVar 0) (rC (.int 0))) (rC (.str "at")))) (rRet (rTup (rCons (rC (.str "at")) (rCons (rDG (rVar 1) (rOp rIx (rVar 0) (rC (.int 1)))) rNil)))) rNext)
    (rRet (rTup (rCons (rOp rIx (rVar 0) (rC (.int 0))) (rCons (rCall 2 S_put (fun _ _ => False) (rCons (rOp rIx (rVar 0) (rC (.int 1))) (rCons (rVar 1) rNil))) (rCons (rCall 2 S_put (fun _ _ => False) (rCons (rOp rIx (rVar 0) (rC (.int 2))) (rCons (rVar 1) rNil))) rNil)))))))
theorem d_put {X : Cx} {k : Nat} (C : Ct X N_put (defScope s_put) k) (hfn : ∀ y, X.fn y = true) {S_put : DSp} {j_put : Nat} (hl_put : j_put ≤ k) (H_put : HasX X "_law_put" j_put 2 S_put) : PDSs X (defBody s_put) (rd_put S_put) :=
  (dss_cons (ds_if (dt_cmp (d_eq C.u64) (de_ix d_ix (xv C 0 n_put_0) de_int (fun _ _ => rfl)) (de_str (x := "number")) (nobehind _ (by decide) (by decide))) (dss_one (ds_ret (xv C 0 n_put_0))) dss_nil)
    (dss_cons (ds_if (dt_cmp (d_eq C.u64) (de_ix d_ix (xv C 0 n_put_0) de_int (fun _ _ => rfl)) (de_str (x := "at")) (nobehind _ (by decide) (by decide))) (dss_one (ds_ret (de_tup (da_cons (de_str (x := "at")) (da_cons (de_dget C.u1 (xv C 1 n_put_1) (de_ix d_ix (xv C 0 n_put_0) de_int (fun _ _ => rfl)) (fun _ _ => rfl)) da_nil))))) dss_nil)
    (dss_one (ds_ret (de_tup (da_cons (de_ix d_ix (xv C 0 n_put_0) de_int (fun _ _ => rfl)) (da_cons (xcall C H_put hl_put g_put_put (da_cons (de_ix d_ix (xv C 0 n_put_0) de_int (fun _ _ => rfl)) (da_cons (xv C 1 n_put_1) da_nil))) (da_cons (xcall C H_put hl_put g_put_put (da_cons (de_ix d_ix (xv C 0 n_put_0) de_int (fun _ _ => rfl)) (da_cons (xv C 1 n_put_1) da_nil))) da_nil))))))))
/-! ### _law_cells -/
abbrev s_cells : Stmt := top 15
def N_cells : List Str := ["_law_term"]
def P_cells : List Str := ["_law_term"]
theorem sc_cells : FnScope N_cells P_cells (defScope s_cells) := ⟨rfl, rfl, rfl, by decide +kernel, rfl, by decide +kernel, by decide +kernel⟩
theorem k_cells : (defScope s_cells).kind = .function := rfl
theorem l_cells_0 : (defScope s_cells).names.lookup (Str.ofString "_law_term") = some .local := by decide +kernel
theorem n_cells_0 : Nm N_cells (defScope s_cells) 0 "_law_term" := ⟨rfl, .inl l_cells_0, by decide, by decide⟩
theorem g_cells_cells : Gn (defScope s_cells) "_law_cells" := ⟨by decide +kernel, by decide, by decide⟩
def rd_cells (S_cells : DSp) : DS :=
  (rSeq (rIf (rB (rOp rEqD (rOp rIx (rVar 0) (rC (.int 0))) (rC (.str "number")))) (rRet (rLstF rNil)) rNext)
    (rSeq (rIf (rB (rOp rEqD (rOp rIx (rVar 0) (rC (.int 0))) (rC (.str "at")))) (rRet (rLstF (rCons (rOp rIx (rVar 0) (rC (.int 1))) rNil))) rNext)
    (rRet (rOp (rCatL' true) (rCall 1 S_cells (fun _ _ => False) (rCons (rOp rIx (rVar 0) (rC (.int 1))) rNil)) (rCall 1 S_cells (fun _ _ => False) (rCons (rOp rIx (rVar 0) (rC (.int 2))) rNil))))))
theorem d_cells {X : Cx} {k : Nat} (C : Ct X N_cells (defScope s_cells) k) (hfn : ∀ y, X.fn y = true) {S_cells : DSp} {j_cells : Nat} (hl_cells : j_cells ≤ k) (H_cells : HasX X "_law_cells" j_cells 1 S_cells) : PDSs X (defBody s_cells) (rd_cells S_cells) :=
  (dss_cons (ds_if (dt_cmp (d_eq C.u64) (de_ix d_ix (xv C 0 n_cells_0) de_int (fun _ _ => rfl)) (de_str (x := "number")) (nobehind _ (by decide) (by decide))) (dss_one (ds_ret (de_lstF da_nil))) dss_nil)
    (dss_cons (ds_if (dt_cmp (d_eq C.u64) (de_ix d_ix (xv C 0 n_cells_0) de_int (fun _ _ => rfl)) (de_str (x := "at")) (nobehind _ (by decide) (by decide))) (dss_one (ds_ret (de_lstF (da_cons (de_ix d_ix (xv C 0 n_cells_0) de_int (fun _ _ => rfl)) da_nil)))) dss_nil)
    (dss_one (ds_ret (de_op (d_catL true) (xcall C H_cells hl_cells g_cells_cells (da_cons (de_ix d_ix (xv C 0 n_cells_0) de_int (fun _ _ => rfl)) da_nil)) (xcall C H_cells hl_cells g_cells_cells (da_cons (de_ix d_ix (xv C 0 n_cells_0) de_int (fun _ _ => rfl)) da_nil)))))))
/-! ### _law_names -/
abbrev s_names : Stmt := top 16
def N_names : List Str := ["_law_helper_here", "_law_found", "_law_row_here", "_law_terms", "_law_part", "_law_term"]
def P_names : List Str := ["_law_helper_here"]
theorem sc_names : FnScope N_names P_names (defScope s_names) := ⟨rfl, rfl, rfl, by decide +kernel, rfl, by decide +kernel, by decide +kernel⟩
theorem k_names : (defScope s_names).kind = .function := rfl
theorem l_names_0 : (defScope s_names).names.lookup (Str.ofString "_law_helper_here") = some .local := by decide +kernel
theorem n_names_0 : Nm N_names (defScope s_names) 0 "_law_helper_here" := ⟨rfl, .inl l_names_0, by decide, by decide⟩
theorem l_names_1 : (defScope s_names).names.lookup (Str.ofString "_law_found") = some .local := by decide +kernel
theorem n_names_1 : Nm N_names (defScope s_names) 1 "_law_found" := ⟨rfl, .inl l_names_1, by decide, by decide⟩
theorem l_names_2 : (defScope s_names).names.lookup (Str.ofString "_law_row_here") = some .local := by decide +kernel
theorem n_names_2 : Nm N_names (defScope s_names) 2 "_law_row_here" := ⟨rfl, .inl l_names_2, by decide, by decide⟩
theorem l_names_3 : (defScope s_names).names.lookup (Str.ofString "_law_terms") = some .local := by decide +kernel
theorem n_names_3 : Nm N_names (defScope s_names) 3 "_law_terms" := ⟨rfl, .inl l_names_3, by decide, by decide⟩
theorem l_names_5 : (defScope s_names).names.lookup (Str.ofString "_law_term") = some .local := by decide +kernel
theorem n_names_5 : Nm N_names (defScope s_names) 5 "_law_term" := ⟨rfl, .inl l_names_5, by decide, by decide⟩
theorem g_names_sorted : Gn (defScope s_names) "sorted" := ⟨by decide +kernel, by decide, by decide⟩
theorem g_names_set : Gn (defScope s_names) "set" := ⟨by decide +kernel, by decide, by decide⟩
theorem g_names_cells : Gn (defScope s_names) "_law_cells" := ⟨by decide +kernel, by decide, by decide⟩
theorem g_names_list : Gn (defScope s_names) "list" := ⟨by decide +kernel, by decide, by decide⟩
def rd_names  : DS :=
  (rSeq (rAsg (rCB rList (rCons (rOp rIx (rVar 0) (rC (.int 1))) rNil)) (gN 1))
    (rCut (rFor (rSq (rOp rIx (rVar 0) (rC (.int 2)))) (gN 2) (rCut (rIf (rAnd (rB (rOp (rInD' false) (rOp rIx (rVar 2) (rC (.int 0))) (rTup (rCons (rC (.str "set")) (rCons (rC (.str "ask")) (rCons (rC (.str "call")) rNil)))))) (rB (rOp rNotN (rOp rIx (rVar 2) (rC (.int 1))) (rC .non)))) (rDrop (rBM isLst rAppend (rVar 1) (rCons (rOp rIx (rVar 2) (rC (.int 1))) rNil))) rNext)
    (rSeq (rAsg (rLc (rSq (rSl rSlT' (rVar 2) (rPt (rC (.int 1))) rNoP)) (.nm 4) (rB (rCB rIsi (rCons (rVar 4) (rCons (rC (.ty "tuple")) rNil)))) (rVar 4) [4] true) (gN 3))
    (rCut (rIf (rB (rOp rEqD (rOp rIx (rVar 2) (rC (.int 0))) (rC (.str "call")))) (rAsg (rFrz (rCB rList (rCons (rOp rIx (rVar 2) (rC (.int 3))) rNil))) (gN 3)) rNext)
    (rFor (rSq (rVar 3)) (gN 5) (rAsg (rOp (rCatL' false) (rVar 1) (rCall 1 sp_cells (fun _ _ => False) (rCons (rVar 5) rNil))) (gN 1)))))))
    (rRet (rSortedSet true (rVar 1)))))
theorem d_names {X : Cx} {k : Nat} (C : Ct X N_names (defScope s_names) k) (hfn : ∀ y, X.fn y = true)  (b_sorted : X.mg "sorted" = none) (b_set : X.mg "set" = none) (b_list : X.mg "list" = none) (b_isinstance : X.mg "isinstance" = none) (b_tuple : X.mg "tuple" = none) {j_cells : Nat} (hl_cells : j_cells ≤ k) (H_cells : HasX X "_law_cells" j_cells 1 sp_cells) : PDSs X (defBody s_names) (rd_names ) :=
  (dss_cons (xset C 1 n_names_1 (.inl l_names_1) (xty C c_list g_names_list b_list boot_list' (da_cons (de_ix d_ix (xv C 0 n_names_0) de_int (fun _ _ => rfl)) da_nil)))
    (dss_cut (ds_for C.pass C.calm (di_seq (de_ix d_ix (xv C 0 n_names_0) de_int (fun _ _ => rfl))) (xgn C 2 n_names_2 (.inl l_names_2))
    (dss_cut (ds_if (dt_w (dw_and (dt_cmp (d_in C.u65) (de_ix d_ix (xv C 2 n_names_2) de_int (fun _ _ => rfl)) (de_tup (da_cons (de_str (x := "set")) (da_cons (de_str (x := "ask")) (da_cons (de_str (x := "call")) da_nil)))) rfl) (dw_and1 (dt_cmp d_notN (de_ix d_ix (xv C 2 n_names_2) de_int (fun _ _ => rfl)) de_non (nobehind _ (by decide) (by decide)))))) (dss_one (ds_expr (de_lm PySem.F.slot_list_append PySem.F.type_list_append m_append (xv C 1 n_names_1) (da_cons (de_ix d_ix (xv C 2 n_names_2) de_int (fun _ _ => rfl)) da_nil)))) dss_nil)
    (dss_cons (xslc C true 3 (own := [("_law_part", 4)]) n_names_3 l_names_3 rfl (by decide +kernel) (di_seq (de_slice sl_t (xv C 2 n_names_2) (do_some de_int) do_none)) (by decide +kernel) (by decide) k_names (fun _ _ _ _ _ D1 => (xtg D1 4 ⟨rfl, (by first | exact .inl rfl | exact .inr (.inl rfl) | exact .inr (.inr rfl)), by decide, by decide⟩ (by first | exact .inl rfl | exact .inr ⟨rfl, rfl⟩))) (fun _ _ _ _ _ D1 => (dts_one (dt_val (xbi D1 c_isi ⟨rfl, by decide, by decide⟩ b_isinstance boot_isinstance' (da_cons (xv D1 4 ⟨rfl, (by first | exact .inl rfl | exact .inr (.inl rfl) | exact .inr (.inr rfl)), by decide, by decide⟩) (da_cons (xbty D1 ⟨rfl, by decide, by decide⟩ b_tuple boot_tuple') da_nil)))))) (fun _ _ _ _ _ D1 => (xv D1 4 ⟨rfl, (by first | exact .inl rfl | exact .inr (.inl rfl) | exact .inr (.inr rfl)), by decide, by decide⟩)))
    (dss_cut (ds_if (dt_cmp (d_eq C.u64) (de_ix d_ix (xv C 2 n_names_2) de_int (fun _ _ => rfl)) (de_str (x := "call")) (nobehind _ (by decide) (by decide))) (dss_one (xset C 3 n_names_3 (.inl l_names_3) (de_frz (xty C c_list g_names_list b_list boot_list' (da_cons (de_ix d_ix (xv C 2 n_names_2) de_int (fun _ _ => rfl)) da_nil))))) dss_nil)
    (dss_one (ds_for C.pass C.calm (di_seq (xv C 3 n_names_3)) (xgn C 5 n_names_5 (.inl l_names_5))
    (dss_one (xset C 1 n_names_1 (.inl l_names_1) (de_op (d_catL false) (xv C 1 n_names_1) (xcall C H_cells hl_cells g_names_cells (da_cons (xv C 5 n_names_5) da_nil)))))))))))
    (dss_one (ds_ret (xsortedset C true g_names_sorted g_names_set b_sorted b_set (xv C 1 n_names_1))))))
/-! ### _law_row_on -/
abbrev s_row_on : Stmt := top 17
def N_row_on : List Str := ["_law_row_here", "_law_table", "_law_path"]
def P_row_on : List Str := ["_law_row_here", "_law_table", "_law_path"]
theorem sc_row_on : FnScope N_row_on P_row_on (defScope s_row_on) := ⟨rfl, rfl, rfl, by decide +kernel, rfl, by decide +kernel, by decide +kernel⟩
theorem k_row_on : (defScope s_row_on).kind = .function := rfl
theorem l_row_on_0 : (defScope s_row_on).names.lookup (Str.ofString "_law_row_here") = some .local := by decide +kernel
theorem n_row_on_0 : Nm N_row_on (defScope s_row_on) 0 "_law_row_here" := ⟨rfl, .inl l_row_on_0, by decide, by decide⟩
theorem l_row_on_1 : (defScope s_row_on).names.lookup (Str.ofString "_law_table") = some .local := by decide +kernel
theorem n_row_on_1 : Nm N_row_on (defScope s_row_on) 1 "_law_table" := ⟨rfl, .inl l_row_on_1, by decide, by decide⟩
theorem l_row_on_2 : (defScope s_row_on).names.lookup (Str.ofString "_law_path") = some .local := by decide +kernel
theorem n_row_on_2 : Nm N_row_on (defScope s_row_on) 2 "_law_path" := ⟨rfl, .inl l_row_on_2, by decide, by decide⟩
theorem g_row_on_put : Gn (defScope s_row_on) "_law_put" := ⟨by decide +kernel, by decide, by decide⟩
def rd_row_on  : DS :=
  (rSeq (rIf (rB (rOp rEqD (rOp rIx (rVar 0) (rC (.int 0))) (rC (.str "set")))) (rRet (rTup (rCons (rC (.str "set")) (rCons (rDG (rVar 1) (rOp rIx (rVar 0) (rC (.int 1)))) (rCons (rCall 2 sp_put (fun _ _ => False) (rCons (rOp rIx (rVar 0) (rC (.int 2))) (rCons (rVar 1) rNil))) rNil))))) rNext)
    (rSeq (rIf (rB (rOp rEqD (rOp rIx (rVar 0) (rC (.int 0))) (rC (.str "ask")))) (rRet (rTup (rCons (rC (.str "ask")) (rCons (rDG (rVar 1) (rOp rIx (rVar 0) (rC (.int 1)))) rNil)))) rNext)
    (rSeq (rIf (rB (rOp rEqD (rOp rIx (rVar 0) (rC (.int 0))) (rC (.str "tell")))) (rRet (rTup (rCons (rC (.str "tell")) (rCons (rCall 2 sp_put (fun _ _ => False) (rCons (rOp rIx (rVar 0) (rC (.int 1))) (rCons (rVar 1) rNil))) rNil)))) rNext)
    (rSeq (rIf (rB (rOp rEqD (rOp rIx (rVar 0) (rC (.int 0))) (rC (.str "if")))) (rRet (rTup (rCons (rC (.str "if")) (rCons (rCall 2 sp_put (fun _ _ => False) (rCons (rOp rIx (rVar 0) (rC (.int 1))) (rCons (rVar 1) rNil))) (rCons (rOp rCatT' (rVar 2) (rTup (rCons (rOp rIx (rVar 0) (rC (.int 2))) rNil))) rNil))))) rNext)
    (rRet (rTup (rCons (rC (.str "go")) (rCons (rOp rCatT' (rVar 2) (rTup (rCons (rOp rIx (rVar 0) (rC (.int 1))) rNil))) rNil))))))))
theorem d_row_on {X : Cx} {k : Nat} (C : Ct X N_row_on (defScope s_row_on) k) (hfn : ∀ y, X.fn y = true)  {j_put : Nat} (hl_put : j_put ≤ k) (H_put : HasX X "_law_put" j_put 2 sp_put) : PDSs X (defBody s_row_on) (rd_row_on ) :=
  (dss_cons (ds_if (dt_cmp (d_eq C.u64) (de_ix d_ix (xv C 0 n_row_on_0) de_int (fun _ _ => rfl)) (de_str (x := "set")) (nobehind _ (by decide) (by decide))) (dss_one (ds_ret (de_tup (da_cons (de_str (x := "set")) (da_cons (de_dget C.u1 (xv C 1 n_row_on_1) (de_ix d_ix (xv C 0 n_row_on_0) de_int (fun _ _ => rfl)) (fun _ _ => rfl)) (da_cons (xcall C H_put hl_put g_row_on_put (da_cons (de_ix d_ix (xv C 0 n_row_on_0) de_int (fun _ _ => rfl)) (da_cons (xv C 1 n_row_on_1) da_nil))) da_nil)))))) dss_nil)
    (dss_cons (ds_if (dt_cmp (d_eq C.u64) (de_ix d_ix (xv C 0 n_row_on_0) de_int (fun _ _ => rfl)) (de_str (x := "ask")) (nobehind _ (by decide) (by decide))) (dss_one (ds_ret (de_tup (da_cons (de_str (x := "ask")) (da_cons (de_dget C.u1 (xv C 1 n_row_on_1) (de_ix d_ix (xv C 0 n_row_on_0) de_int (fun _ _ => rfl)) (fun _ _ => rfl)) da_nil))))) dss_nil)
    (dss_cons (ds_if (dt_cmp (d_eq C.u64) (de_ix d_ix (xv C 0 n_row_on_0) de_int (fun _ _ => rfl)) (de_str (x := "tell")) (nobehind _ (by decide) (by decide))) (dss_one (ds_ret (de_tup (da_cons (de_str (x := "tell")) (da_cons (xcall C H_put hl_put g_row_on_put (da_cons (de_ix d_ix (xv C 0 n_row_on_0) de_int (fun _ _ => rfl)) (da_cons (xv C 1 n_row_on_1) da_nil))) da_nil))))) dss_nil)
    (dss_cons (ds_if (dt_cmp (d_eq C.u64) (de_ix d_ix (xv C 0 n_row_on_0) de_int (fun _ _ => rfl)) (de_str (x := "if")) (nobehind _ (by decide) (by decide))) (dss_one (ds_ret (de_tup (da_cons (de_str (x := "if")) (da_cons (xcall C H_put hl_put g_row_on_put (da_cons (de_ix d_ix (xv C 0 n_row_on_0) de_int (fun _ _ => rfl)) (da_cons (xv C 1 n_row_on_1) da_nil))) (da_cons (de_op d_catT (xv C 2 n_row_on_2) (de_tup (da_cons (de_ix d_ix (xv C 0 n_row_on_0) de_int (fun _ _ => rfl)) da_nil))) da_nil)))))) dss_nil)
    (dss_one (ds_ret (de_tup (da_cons (de_str (x := "go")) (da_cons (de_op d_catT (xv C 2 n_row_on_2) (de_tup (da_cons (de_ix d_ix (xv C 0 n_row_on_0) de_int (fun _ _ => rfl)) da_nil))) da_nil)))))))))
/-! ### _law_lay_call -/
abbrev s_lay_call : Stmt := top 18
def N_lay_call : List Str := ["_law_helpers", "_law_s", "_law_row_here", "_law_spot", "_law_path", "_law_label", "_law_table", "_law_number_here", "_law_helper_here", "_law_params", "_law_k", "_law_name", "_law_term", "_law_back"]
def P_lay_call : List Str := ["_law_helpers", "_law_s", "_law_row_here", "_law_spot"]
theorem sc_lay_call : FnScope N_lay_call P_lay_call (defScope s_lay_call) := ⟨rfl, rfl, rfl, by decide +kernel, rfl, by decide +kernel, by decide +kernel⟩
theorem k_lay_call : (defScope s_lay_call).kind = .function := rfl
theorem l_lay_call_0 : (defScope s_lay_call).names.lookup (Str.ofString "_law_helpers") = some .local := by decide +kernel
theorem n_lay_call_0 : Nm N_lay_call (defScope s_lay_call) 0 "_law_helpers" := ⟨rfl, .inl l_lay_call_0, by decide, by decide⟩
theorem l_lay_call_1 : (defScope s_lay_call).names.lookup (Str.ofString "_law_s") = some .local := by decide +kernel
theorem n_lay_call_1 : Nm N_lay_call (defScope s_lay_call) 1 "_law_s" := ⟨rfl, .inl l_lay_call_1, by decide, by decide⟩
theorem l_lay_call_2 : (defScope s_lay_call).names.lookup (Str.ofString "_law_row_here") = some .local := by decide +kernel
theorem n_lay_call_2 : Nm N_lay_call (defScope s_lay_call) 2 "_law_row_here" := ⟨rfl, .inl l_lay_call_2, by decide, by decide⟩
theorem l_lay_call_3 : (defScope s_lay_call).names.lookup (Str.ofString "_law_spot") = some .local := by decide +kernel
theorem n_lay_call_3 : Nm N_lay_call (defScope s_lay_call) 3 "_law_spot" := ⟨rfl, .inl l_lay_call_3, by decide, by decide⟩
theorem l_lay_call_4 : (defScope s_lay_call).names.lookup (Str.ofString "_law_path") = some .local := by decide +kernel
theorem n_lay_call_4 : Nm N_lay_call (defScope s_lay_call) 4 "_law_path" := ⟨rfl, .inl l_lay_call_4, by decide, by decide⟩
theorem l_lay_call_5 : (defScope s_lay_call).names.lookup (Str.ofString "_law_label") = some .local := by decide +kernel
theorem n_lay_call_5 : Nm N_lay_call (defScope s_lay_call) 5 "_law_label" := ⟨rfl, .inl l_lay_call_5, by decide, by decide⟩
theorem l_lay_call_6 : (defScope s_lay_call).names.lookup (Str.ofString "_law_table") = some .local := by decide +kernel
theorem n_lay_call_6 : Nm N_lay_call (defScope s_lay_call) 6 "_law_table" := ⟨rfl, .inl l_lay_call_6, by decide, by decide⟩
theorem l_lay_call_7 : (defScope s_lay_call).names.lookup (Str.ofString "_law_number_here") = some .local := by decide +kernel
theorem n_lay_call_7 : Nm N_lay_call (defScope s_lay_call) 7 "_law_number_here" := ⟨rfl, .inl l_lay_call_7, by decide, by decide⟩
theorem l_lay_call_9 : (defScope s_lay_call).names.lookup (Str.ofString "_law_params") = some .local := by decide +kernel
theorem n_lay_call_9 : Nm N_lay_call (defScope s_lay_call) 9 "_law_params" := ⟨rfl, .inl l_lay_call_9, by decide, by decide⟩
theorem l_lay_call_10 : (defScope s_lay_call).names.lookup (Str.ofString "_law_k") = some .local := by decide +kernel
theorem n_lay_call_10 : Nm N_lay_call (defScope s_lay_call) 10 "_law_k" := ⟨rfl, .inl l_lay_call_10, by decide, by decide⟩
theorem l_lay_call_11 : (defScope s_lay_call).names.lookup (Str.ofString "_law_name") = some .local := by decide +kernel
theorem n_lay_call_11 : Nm N_lay_call (defScope s_lay_call) 11 "_law_name" := ⟨rfl, .inl l_lay_call_11, by decide, by decide⟩
theorem l_lay_call_12 : (defScope s_lay_call).names.lookup (Str.ofString "_law_term") = some .local := by decide +kernel
theorem n_lay_call_12 : Nm N_lay_call (defScope s_lay_call) 12 "_law_term" := ⟨rfl, .inl l_lay_call_12, by decide, by decide⟩
theorem l_lay_call_13 : (defScope s_lay_call).names.lookup (Str.ofString "_law_back") = some .local := by decide +kernel
theorem n_lay_call_13 : Nm N_lay_call (defScope s_lay_call) 13 "_law_back" := ⟨rfl, .inl l_lay_call_13, by decide, by decide⟩
theorem g_lay_call_lay : Gn (defScope s_lay_call) "_law_lay" := ⟨by decide +kernel, by decide, by decide⟩
theorem g_lay_call_enumerate : Gn (defScope s_lay_call) "enumerate" := ⟨by decide +kernel, by decide, by decide⟩
theorem g_lay_call_names : Gn (defScope s_lay_call) "_law_names" := ⟨by decide +kernel, by decide, by decide⟩
theorem g_lay_call_put : Gn (defScope s_lay_call) "_law_put" := ⟨by decide +kernel, by decide, by decide⟩
theorem g_lay_call_len : Gn (defScope s_lay_call) "len" := ⟨by decide +kernel, by decide, by decide⟩
def rd_lay_call (S_lay : DSp) : DS :=
  (rSeq (rAsg (rVar 3) (gT 3 (gsC (gN 4) (gsC (gN 5) (gsC (gN 6) gs0)))))
    (rSeq (rAsg (rBM isLst rIndex' (rLc (rSq (rVar 0)) (.nm 8) rYes (rOp rIx (rVar 8) (rC (.int 0))) [8] true) (rCons (rOp rIx (rVar 2) (rC (.int 2))) rNil)) (gN 7))
    (rSeq (rDrop (rBM isLst rAppend (rDG (rVar 1) (rC (.str "rows"))) (rCons (rTup (rCons (rC (.str "go")) (rCons (rOp (rI (fun _ _ => True) fun i j => .int (i + j)) (rCB rLen (rCons (rDG (rVar 1) (rC (.str "rows"))) rNil)) (rC (.int 1))) rNil))) rNil)))
    (rSeq (rDrop (rBM isLst rAppend (rDG (rVar 1) (rC (.str "labels"))) (rCons (rVar 5) rNil)))
    (rSeq (rAsg (rOp rIx (rOp rIx (rVar 0) (rVar 7)) (rC (.int 1))) (gN 9))
    (rCut (rFor (rEnum (rCons (rCall 1 sp_names (fun _ _ => False) (rCons (rOp rIx (rVar 0) (rVar 7)) rNil)) rNil)) (gT 2 (gsC (gN 10) (gsC (gN 11) gs0))) (rSeq (rAsg (rTup (rCons (rC (.str "number")) (rCons (rC (.int 0)) rNil))) (gN 12))
    (rCut (rIf (rB (rOp (rInD' false) (rVar 11) (rVar 9))) (rAsg (rCall 2 sp_put (fun _ _ => False) (rCons (rOp rIx (rOp rIx (rVar 2) (rC (.int 3))) (rBM isNt rTIdx (rVar 9) (rCons (rVar 11) rNil))) (rCons (rVar 6) rNil))) (gN 12)) rNext)
    (rSeq (rDrop (rBM isLst rAppend (rDG (rVar 1) (rC (.str "rows"))) (rCons (rTup (rCons (rC (.str "set")) (rCons (rOp (rI (fun _ _ => True) fun i j => .int (i + j)) (rDG (rVar 1) (rC (.str "free"))) (rVar 10)) (rCons (rVar 12) rNil)))) rNil)))
    (rDrop (rBM isLst rAppend (rDG (rVar 1) (rC (.str "labels"))) (rCons (rC .non) rNil)))))))
    (rSeq (rAsg (rTup (rCons (rIfE (rB (rOp rIsN (rOp rIx (rVar 2) (rC (.int 1))) (rC .non))) (rC .non) (rDG (rVar 6) (rOp rIx (rVar 2) (rC (.int 1))))) (rCons (rOp rCatT' (rSl rSlT' (rVar 4) rNoP (rPt (rNeg (rC (.int 1))))) (rTup (rCons (rOp (rI (fun _ _ => True) fun i j => .int (i + j)) (rOp rIx (rVar 4) (rNeg (rC (.int 1)))) (rC (.int 1))) rNil))) rNil))) (gN 13))
    (rDrop (rCall 4 S_lay (fun _ _ => False) (rCons (rVar 0) (rCons (rVar 1) (rCons (rVar 7) (rCons (rTup (rCons (rVar 4) (rCons (rVar 5) (rCons (rVar 13) rNil)))) rNil)))))))))))))
theorem d_lay_call {X : Cx} {k : Nat} (C : Ct X N_lay_call (defScope s_lay_call) k) (hfn : ∀ y, X.fn y = true) {S_lay : DSp} (b_enumerate : X.mg "enumerate" = none) (b_len : X.mg "len" = none) {j_lay : Nat} (hl_lay : j_lay ≤ k) (H_lay : HasX X "_law_lay" j_lay 4 S_lay) {j_names : Nat} (hl_names : j_names ≤ k) (H_names : HasX X "_law_names" j_names 1 sp_names) {j_put : Nat} (hl_put : j_put ≤ k) (H_put : HasX X "_law_put" j_put 2 sp_put) : PDSs X (defBody s_lay_call) (rd_lay_call S_lay) :=
  (dss_cons (ds_asg (xv C 3 n_lay_call_3) (dg_tup C.calm (dgs_cons (xgn C 4 n_lay_call_4 (.inl l_lay_call_4)) (dgs_cons (xgn C 5 n_lay_call_5 (.inl l_lay_call_5)) (dgs_cons (xgn C 6 n_lay_call_6 (.inl l_lay_call_6)) dgs_nil)))))
    (dss_cons (xset C 7 n_lay_call_7 (.inl l_lay_call_7) (de_lm PySem.F.slot_list_index PySem.F.type_list_index (m_index C.u65) (xlc C true (own := [("_law_helper_here", 8)]) (di_seq (xv C 0 n_lay_call_0)) (by decide +kernel) (by decide) (fun _ _ _ _ _ D1 => (xtg D1 8 ⟨rfl, (by first | exact .inl rfl | exact .inr (.inl rfl) | exact .inr (.inr rfl)), by decide, by decide⟩ (by first | exact .inl rfl | exact .inr ⟨rfl, rfl⟩))) (fun _ _ _ _ _ D1 => dts_nil) (fun _ _ _ _ _ D1 => (de_ix d_ix (xv D1 8 ⟨rfl, (by first | exact .inl rfl | exact .inr (.inl rfl) | exact .inr (.inr rfl)), by decide, by decide⟩) de_int (fun _ _ => rfl)))) (da_cons (de_ix d_ix (xv C 2 n_lay_call_2) de_int (fun _ _ => rfl)) da_nil)))
    (dss_cons (ds_expr (de_lm PySem.F.slot_list_append PySem.F.type_list_append m_append (de_dget C.u1 (xv C 1 n_lay_call_1) (de_str (x := "rows")) (fun _ _ => rfl)) (da_cons (de_tup (da_cons (de_str (x := "go")) (da_cons (de_op d_add (xbi C c_len g_lay_call_len b_len boot_len' (da_cons (de_dget C.u1 (xv C 1 n_lay_call_1) (de_str (x := "rows")) (fun _ _ => rfl)) da_nil)) de_int) da_nil))) da_nil)))
    (dss_cons (ds_expr (de_lm PySem.F.slot_list_append PySem.F.type_list_append m_append (de_dget C.u1 (xv C 1 n_lay_call_1) (de_str (x := "labels")) (fun _ _ => rfl)) (da_cons (xv C 5 n_lay_call_5) da_nil)))
    (dss_cons (xset C 9 n_lay_call_9 (.inl l_lay_call_9) (de_ix d_ix (de_ix d_ix (xv C 0 n_lay_call_0) (xv C 7 n_lay_call_7) (fun _ _ => rfl)) de_int (fun _ _ => rfl)))
    (dss_cut (ds_for C.pass C.calm (di_enum C.sc (g_lay_call_enumerate).hg b_enumerate (da_cons (xcall C H_names hl_names g_lay_call_names (da_cons (de_ix d_ix (xv C 0 n_lay_call_0) (xv C 7 n_lay_call_7) (fun _ _ => rfl)) da_nil)) da_nil)) (dg_tup C.calm (dgs_cons (xgn C 10 n_lay_call_10 (.inl l_lay_call_10)) (dgs_cons (xgn C 11 n_lay_call_11 (.inl l_lay_call_11)) dgs_nil)))
    (dss_cons (xset C 12 n_lay_call_12 (.inl l_lay_call_12) (de_tup (da_cons (de_str (x := "number")) (da_cons de_int da_nil))))
    (dss_cut (ds_if (dt_cmp (d_in C.u65) (xv C 11 n_lay_call_11) (xv C 9 n_lay_call_9) rfl) (dss_one (xset C 12 n_lay_call_12 (.inl l_lay_call_12) (xcall C H_put hl_put g_lay_call_put (da_cons (de_ix d_ix (de_ix d_ix (xv C 2 n_lay_call_2) de_int (fun _ _ => rfl)) (de_nm PySem.F.slot_tuple_index PySem.F.type_tuple_index m_tindex (xv C 9 n_lay_call_9) (da_cons (xv C 11 n_lay_call_11) da_nil)) (fun _ _ => rfl)) (da_cons (xv C 6 n_lay_call_6) da_nil))))) dss_nil)
    (dss_cons (ds_expr (de_lm PySem.F.slot_list_append PySem.F.type_list_append m_append (de_dget C.u1 (xv C 1 n_lay_call_1) (de_str (x := "rows")) (fun _ _ => rfl)) (da_cons (de_tup (da_cons (de_str (x := "set")) (da_cons (de_op d_add (de_dget C.u1 (xv C 1 n_lay_call_1) (de_str (x := "free")) (fun _ _ => rfl)) (xv C 10 n_lay_call_10)) (da_cons (xv C 12 n_lay_call_12) da_nil)))) da_nil)))
    (dss_one (ds_expr (de_lm PySem.F.slot_list_append PySem.F.type_list_append m_append (de_dget C.u1 (xv C 1 n_lay_call_1) (de_str (x := "labels")) (fun _ _ => rfl)) (da_cons de_non da_nil))))))))
    (dss_cons (xset C 13 n_lay_call_13 (.inl l_lay_call_13) (de_tup (da_cons (de_ifE (dt_cmp d_isN (de_ix d_ix (xv C 2 n_lay_call_2) de_int (fun _ _ => rfl)) de_non (nobehind _ (by decide) (by decide))) de_non (de_dget C.u1 (xv C 6 n_lay_call_6) (de_ix d_ix (xv C 2 n_lay_call_2) de_int (fun _ _ => rfl)) (fun _ _ => rfl))) (da_cons (de_op d_catT (de_slice sl_t (xv C 4 n_lay_call_4) do_none (do_some (de_neg de_int))) (de_tup (da_cons (de_op d_add (de_ix d_ix (xv C 4 n_lay_call_4) (de_neg de_int) (fun _ _ => rfl)) de_int) da_nil))) da_nil))))
    (dss_one (ds_expr (xcall C H_lay hl_lay g_lay_call_lay (da_cons (xv C 0 n_lay_call_0) (da_cons (xv C 1 n_lay_call_1) (da_cons (xv C 7 n_lay_call_7) (da_cons (de_tup (da_cons (xv C 4 n_lay_call_4) (da_cons (xv C 5 n_lay_call_5) (da_cons (xv C 13 n_lay_call_13) da_nil)))) da_nil))))))))))))))
/-! ### _law_lay -/
abbrev s_lay : Stmt := top 19
def N_lay : List Str := ["_law_helpers", "_law_s", "_law_number_here", "_law_spot", "_law_path", "_law_ahead", "_law_back", "_law_names_here", "_law_slots", "_law_k", "_law_table", "_law_place", "_law_row_here", "_law_label", "_law_some"]
def P_lay : List Str := ["_law_helpers", "_law_s", "_law_number_here", "_law_spot"]
theorem sc_lay : FnScope N_lay P_lay (defScope s_lay) := ⟨rfl, rfl, rfl, by decide +kernel, rfl, by decide +kernel, by decide +kernel⟩
theorem k_lay : (defScope s_lay).kind = .function := rfl
theorem l_lay_0 : (defScope s_lay).names.lookup (Str.ofString "_law_helpers") = some .local := by decide +kernel
theorem n_lay_0 : Nm N_lay (defScope s_lay) 0 "_law_helpers" := ⟨rfl, .inl l_lay_0, by decide, by decide⟩
theorem l_lay_1 : (defScope s_lay).names.lookup (Str.ofString "_law_s") = some .cell := by decide +kernel
theorem n_lay_1 : Nm N_lay (defScope s_lay) 1 "_law_s" := ⟨rfl, .inr (.inl l_lay_1), by decide, by decide⟩
theorem l_lay_2 : (defScope s_lay).names.lookup (Str.ofString "_law_number_here") = some .local := by decide +kernel
theorem n_lay_2 : Nm N_lay (defScope s_lay) 2 "_law_number_here" := ⟨rfl, .inl l_lay_2, by decide, by decide⟩
theorem l_lay_3 : (defScope s_lay).names.lookup (Str.ofString "_law_spot") = some .local := by decide +kernel
theorem n_lay_3 : Nm N_lay (defScope s_lay) 3 "_law_spot" := ⟨rfl, .inl l_lay_3, by decide, by decide⟩
theorem l_lay_4 : (defScope s_lay).names.lookup (Str.ofString "_law_path") = some .local := by decide +kernel
theorem n_lay_4 : Nm N_lay (defScope s_lay) 4 "_law_path" := ⟨rfl, .inl l_lay_4, by decide, by decide⟩
theorem l_lay_5 : (defScope s_lay).names.lookup (Str.ofString "_law_ahead") = some .local := by decide +kernel
theorem n_lay_5 : Nm N_lay (defScope s_lay) 5 "_law_ahead" := ⟨rfl, .inl l_lay_5, by decide, by decide⟩
theorem l_lay_6 : (defScope s_lay).names.lookup (Str.ofString "_law_back") = some .local := by decide +kernel
theorem n_lay_6 : Nm N_lay (defScope s_lay) 6 "_law_back" := ⟨rfl, .inl l_lay_6, by decide, by decide⟩
theorem l_lay_7 : (defScope s_lay).names.lookup (Str.ofString "_law_names_here") = some .local := by decide +kernel
theorem n_lay_7 : Nm N_lay (defScope s_lay) 7 "_law_names_here" := ⟨rfl, .inl l_lay_7, by decide, by decide⟩
theorem l_lay_8 : (defScope s_lay).names.lookup (Str.ofString "_law_slots") = some .local := by decide +kernel
theorem n_lay_8 : Nm N_lay (defScope s_lay) 8 "_law_slots" := ⟨rfl, .inl l_lay_8, by decide, by decide⟩
theorem l_lay_10 : (defScope s_lay).names.lookup (Str.ofString "_law_table") = some .local := by decide +kernel
theorem n_lay_10 : Nm N_lay (defScope s_lay) 10 "_law_table" := ⟨rfl, .inl l_lay_10, by decide, by decide⟩
theorem l_lay_11 : (defScope s_lay).names.lookup (Str.ofString "_law_place") = some .local := by decide +kernel
theorem n_lay_11 : Nm N_lay (defScope s_lay) 11 "_law_place" := ⟨rfl, .inl l_lay_11, by decide, by decide⟩
theorem l_lay_12 : (defScope s_lay).names.lookup (Str.ofString "_law_row_here") = some .local := by decide +kernel
theorem n_lay_12 : Nm N_lay (defScope s_lay) 12 "_law_row_here" := ⟨rfl, .inl l_lay_12, by decide, by decide⟩
theorem l_lay_13 : (defScope s_lay).names.lookup (Str.ofString "_law_label") = some .local := by decide +kernel
theorem n_lay_13 : Nm N_lay (defScope s_lay) 13 "_law_label" := ⟨rfl, .inl l_lay_13, by decide, by decide⟩
theorem l_lay_14 : (defScope s_lay).names.lookup (Str.ofString "_law_some") = some .local := by decide +kernel
theorem n_lay_14 : Nm N_lay (defScope s_lay) 14 "_law_some" := ⟨rfl, .inl l_lay_14, by decide, by decide⟩
theorem g_lay_enumerate : Gn (defScope s_lay) "enumerate" := ⟨by decide +kernel, by decide, by decide⟩
theorem g_lay_len : Gn (defScope s_lay) "len" := ⟨by decide +kernel, by decide, by decide⟩
theorem g_lay_put : Gn (defScope s_lay) "_law_put" := ⟨by decide +kernel, by decide, by decide⟩
theorem g_lay_row_on : Gn (defScope s_lay) "_law_row_on" := ⟨by decide +kernel, by decide, by decide⟩
theorem g_lay_lay_call : Gn (defScope s_lay) "_law_lay_call" := ⟨by decide +kernel, by decide, by decide⟩
theorem g_lay_dict : Gn (defScope s_lay) "dict" := ⟨by decide +kernel, by decide, by decide⟩
theorem g_lay_zip : Gn (defScope s_lay) "zip" := ⟨by decide +kernel, by decide, by decide⟩
theorem g_lay_tuple : Gn (defScope s_lay) "tuple" := ⟨by decide +kernel, by decide, by decide⟩
theorem g_lay_range : Gn (defScope s_lay) "range" := ⟨by decide +kernel, by decide, by decide⟩
theorem g_lay_names : Gn (defScope s_lay) "_law_names" := ⟨by decide +kernel, by decide, by decide⟩
def rd_lay (S_lay_call : DSp) : DS :=
  (rSeq (rAsg (rVar 3) (gT 3 (gsC (gN 4) (gsC (gN 5) (gsC (gN 6) gs0)))))
    (rSeq (rAsg (rCall 1 sp_names (fun _ _ => False) (rCons (rOp rIx (rVar 0) (rVar 2)) rNil)) (gN 7))
    (rSeq (rAsg (rCB rTuple (rCons (rLc (rRg1 (rCons (rCB rLen (rCons (rVar 7) rNil)) rNil)) (.nm 9) rYes (rOp (rI (fun _ _ => True) fun i j => .int (i + j)) (rDG (rVar 1) (rC (.str "free"))) (rVar 9)) [9] true) rNil)) (gN 8))
    (rSeq (rAsg (rDictZip (rVar 7) (rVar 8)) (gN 10))
    (rSeq (rDP (rVar 1) (rC (.str "free")) (rOp (rI (fun _ _ => True) fun i j => .int (i + j)) (rDG (rVar 1) (rC (.str "free"))) (rCB rLen (rCons (rVar 7) rNil))))
    (rFor (rEnum (rCons (rOp rIx (rOp rIx (rVar 0) (rVar 2)) (rC (.int 2))) rNil)) (gT 2 (gsC (gN 11) (gsC (gN 12) gs0))) (rSeq (rDP (rDG (rVar 1) (rC (.str "begins"))) (rOp rCatT' (rVar 4) (rTup (rCons (rVar 11) rNil))) (rCB rLen (rCons (rDG (rVar 1) (rC (.str "rows"))) rNil)))
    (rSeq (rAsg (rOp rCatT' (rVar 5) (rTup (rCons (rTup (rCons (rVar 2) (rCons (rVar 11) (rCons (rVar 8) rNil)))) rNil))) (gN 13))
    (rSeq (rIf (rB (rOp rEqD (rOp rIx (rVar 12) (rC (.int 0))) (rC (.str "call")))) (rSeq (rDrop (rCall 4 S_lay_call (fun _ _ => False) (rCons (rVar 0) (rCons (rVar 1) (rCons (rVar 12) (rCons (rTup (rCons (rOp rCatT' (rVar 4) (rTup (rCons (rVar 11) rNil))) (rCons (rVar 13) (rCons (rVar 10) rNil)))) rNil))))))
    rCont) rNext)
    (rSeq (rAsg (rIfE (rB (rOp rNeD (rOp rIx (rVar 12) (rC (.int 0))) (rC (.str "give")))) (rLstM (rCons (rCall 3 sp_row_on (fun _ _ => False) (rCons (rVar 12) (rCons (rVar 10) (rCons (rVar 4) rNil)))) rNil)) (rLstM (rCons (rTup (rCons (rC (.str "end")) rNil)) rNil))) (gN 14))
    (rCut (rIf (rAnd (rB (rOp rEqD (rOp rIx (rVar 12) (rC (.int 0))) (rC (.str "give")))) (rB (rOp rNotN (rVar 6) (rC .non)))) (rSeq (rAsg (rIfE (rB (rOp rIsN (rOp rIx (rVar 6) (rC (.int 0))) (rC .non))) (rLstM rNil) (rLstM (rCons (rTup (rCons (rC (.str "set")) (rCons (rOp rIx (rVar 6) (rC (.int 0))) (rCons (rCall 2 sp_put (fun _ _ => False) (rCons (rOp rIx (rVar 12) (rC (.int 1))) (rCons (rVar 10) rNil))) rNil)))) rNil))) (gN 14))
    (rDrop (rBM isLst rAppend (rVar 14) (rCons (rTup (rCons (rC (.str "go")) (rCons (rOp rIx (rVar 6) (rC (.int 1))) rNil))) rNil)))) rNext)
    (rSeq (rDP (rVar 1) (rC (.str "rows")) (rOp (rCatL' false) (rDG (rVar 1) (rC (.str "rows"))) (rVar 14)))
    (rDP (rVar 1) (rC (.str "labels")) (rOp (rCatL' false) (rOp (rCatL' true) (rDG (rVar 1) (rC (.str "labels"))) (rLstF (rCons (rVar 13) rNil))) (rOp (rRepL' true) (rLstM (rCons (rC .non) rNil)) (rOp (rI (fun _ _ => True) fun i j => .int (i - j)) (rCB rLen (rCons (rVar 14) rNil)) (rC (.int 1))))))))))))))))))
theorem d_lay {X : Cx} {k : Nat} (C : Ct X N_lay (defScope s_lay) k) (hfn : ∀ y, X.fn y = true) {S_lay_call : DSp} (b_enumerate : X.mg "enumerate" = none) (b_len : X.mg "len" = none) (b_dict : X.mg "dict" = none) (b_zip : X.mg "zip" = none) (b_tuple : X.mg "tuple" = none) (b_range : X.mg "range" = none) {j_put : Nat} (hl_put : j_put ≤ k) (H_put : HasX X "_law_put" j_put 2 sp_put) {j_row_on : Nat} (hl_row_on : j_row_on ≤ k) (H_row_on : HasX X "_law_row_on" j_row_on 3 sp_row_on) {j_lay_call : Nat} (hl_lay_call : j_lay_call ≤ k) (H_lay_call : HasX X "_law_lay_call" j_lay_call 4 S_lay_call) {j_names : Nat} (hl_names : j_names ≤ k) (H_names : HasX X "_law_names" j_names 1 sp_names) : PDSs X (defBody s_lay) (rd_lay S_lay_call) :=
  (dss_cons (ds_asg (xv C 3 n_lay_3) (dg_tup C.calm (dgs_cons (xgn C 4 n_lay_4 (.inl l_lay_4)) (dgs_cons (xgn C 5 n_lay_5 (.inl l_lay_5)) (dgs_cons (xgn C 6 n_lay_6 (.inl l_lay_6)) dgs_nil)))))
    (dss_cons (xset C 7 n_lay_7 (.inl l_lay_7) (xcall C H_names hl_names g_lay_names (da_cons (de_ix d_ix (xv C 0 n_lay_0) (xv C 2 n_lay_2) (fun _ _ => rfl)) da_nil)))
    (dss_cons (xset C 8 n_lay_8 (.inl l_lay_8) (xty C c_tuple g_lay_tuple b_tuple boot_tuple' (da_cons (xlc C true (own := [("_law_k", 9)]) (di_range1 C.sc (g_lay_range).hg b_range (da_cons (xbi C c_len g_lay_len b_len boot_len' (da_cons (xv C 7 n_lay_7) da_nil)) da_nil)) (by decide +kernel) (by decide) (fun _ _ _ _ _ D1 => (xtg D1 9 ⟨rfl, (by first | exact .inl rfl | exact .inr (.inl rfl) | exact .inr (.inr rfl)), by decide, by decide⟩ (by first | exact .inl rfl | exact .inr ⟨rfl, rfl⟩))) (fun _ _ _ _ _ D1 => dts_nil) (fun _ _ _ _ _ D1 => (de_op d_add (de_dget D1.u1 (xv D1 1 ⟨rfl, (by first | exact .inl rfl | exact .inr (.inl rfl) | exact .inr (.inr rfl)), by decide, by decide⟩) (de_str (x := "free")) (fun _ _ => rfl)) (xv D1 9 ⟨rfl, (by first | exact .inl rfl | exact .inr (.inl rfl) | exact .inr (.inr rfl)), by decide, by decide⟩)))) da_nil)))
    (dss_cons (xset C 10 n_lay_10 (.inl l_lay_10) (xdictzip C g_lay_dict g_lay_zip b_dict b_zip (xv C 7 n_lay_7) (xv C 8 n_lay_8)))
    (dss_cons (ds_dput C.u1 (xv C 1 n_lay_1) (de_str (x := "free")) (de_op d_add (de_dget C.u1 (xv C 1 n_lay_1) (de_str (x := "free")) (fun _ _ => rfl)) (xbi C c_len g_lay_len b_len boot_len' (da_cons (xv C 7 n_lay_7) da_nil))))
    (dss_one (ds_for C.pass C.calm (di_enum C.sc (g_lay_enumerate).hg b_enumerate (da_cons (de_ix d_ix (de_ix d_ix (xv C 0 n_lay_0) (xv C 2 n_lay_2) (fun _ _ => rfl)) de_int (fun _ _ => rfl)) da_nil)) (dg_tup C.calm (dgs_cons (xgn C 11 n_lay_11 (.inl l_lay_11)) (dgs_cons (xgn C 12 n_lay_12 (.inl l_lay_12)) dgs_nil)))
    (dss_cons (ds_dput C.u1 (de_dget C.u1 (xv C 1 n_lay_1) (de_str (x := "begins")) (fun _ _ => rfl)) (de_op d_catT (xv C 4 n_lay_4) (de_tup (da_cons (xv C 11 n_lay_11) da_nil))) (xbi C c_len g_lay_len b_len boot_len' (da_cons (de_dget C.u1 (xv C 1 n_lay_1) (de_str (x := "rows")) (fun _ _ => rfl)) da_nil)))
    (dss_cons (xset C 13 n_lay_13 (.inl l_lay_13) (de_op d_catT (xv C 5 n_lay_5) (de_tup (da_cons (de_tup (da_cons (xv C 2 n_lay_2) (da_cons (xv C 11 n_lay_11) (da_cons (xv C 8 n_lay_8) da_nil)))) da_nil))))
    (dss_cons (ds_if (dt_cmp (d_eq C.u64) (de_ix d_ix (xv C 12 n_lay_12) de_int (fun _ _ => rfl)) (de_str (x := "call")) (nobehind _ (by decide) (by decide))) (dss_cons (ds_expr (xcall C H_lay_call hl_lay_call g_lay_lay_call (da_cons (xv C 0 n_lay_0) (da_cons (xv C 1 n_lay_1) (da_cons (xv C 12 n_lay_12) (da_cons (de_tup (da_cons (de_op d_catT (xv C 4 n_lay_4) (de_tup (da_cons (xv C 11 n_lay_11) da_nil))) (da_cons (xv C 13 n_lay_13) (da_cons (xv C 10 n_lay_10) da_nil)))) da_nil))))))
    (dss_one ds_cont)) dss_nil)
    (dss_cons (xset C 14 n_lay_14 (.inl l_lay_14) (de_ifE (dt_cmp (d_ne C.u64) (de_ix d_ix (xv C 12 n_lay_12) de_int (fun _ _ => rfl)) (de_str (x := "give")) (nobehind _ (by decide) (by decide))) (de_lstM (da_cons (xcall C H_row_on hl_row_on g_lay_row_on (da_cons (xv C 12 n_lay_12) (da_cons (xv C 10 n_lay_10) (da_cons (xv C 4 n_lay_4) da_nil)))) da_nil)) (de_lstM (da_cons (de_tup (da_cons (de_str (x := "end")) da_nil)) da_nil))))
    (dss_cut (ds_if (dt_w (dw_and (dt_cmp (d_eq C.u64) (de_ix d_ix (xv C 12 n_lay_12) de_int (fun _ _ => rfl)) (de_str (x := "give")) (nobehind _ (by decide) (by decide))) (dw_and1 (dt_cmp d_notN (xv C 6 n_lay_6) de_non (nobehind _ (by decide) (by decide)))))) (dss_cons (xset C 14 n_lay_14 (.inl l_lay_14) (de_ifE (dt_cmp d_isN (de_ix d_ix (xv C 6 n_lay_6) de_int (fun _ _ => rfl)) de_non (nobehind _ (by decide) (by decide))) (de_lstM da_nil) (de_lstM (da_cons (de_tup (da_cons (de_str (x := "set")) (da_cons (de_ix d_ix (xv C 6 n_lay_6) de_int (fun _ _ => rfl)) (da_cons (xcall C H_put hl_put g_lay_put (da_cons (de_ix d_ix (xv C 12 n_lay_12) de_int (fun _ _ => rfl)) (da_cons (xv C 10 n_lay_10) da_nil))) da_nil)))) da_nil))))
    (dss_one (ds_expr (de_lm PySem.F.slot_list_append PySem.F.type_list_append m_append (xv C 14 n_lay_14) (da_cons (de_tup (da_cons (de_str (x := "go")) (da_cons (de_ix d_ix (xv C 6 n_lay_6) de_int (fun _ _ => rfl)) da_nil))) da_nil))))) dss_nil)
    (dss_cons (ds_dput C.u1 (xv C 1 n_lay_1) (de_str (x := "rows")) (de_op (d_catL false) (de_dget C.u1 (xv C 1 n_lay_1) (de_str (x := "rows")) (fun _ _ => rfl)) (xv C 14 n_lay_14)))
    (dss_one (ds_dput C.u1 (xv C 1 n_lay_1) (de_str (x := "labels")) (de_op (d_catL false) (de_op (d_catL true) (de_dget C.u1 (xv C 1 n_lay_1) (de_str (x := "labels")) (fun _ _ => rfl)) (de_lstF (da_cons (xv C 13 n_lay_13) da_nil))) (de_op (d_repL true) (de_lstM (da_cons de_non da_nil)) (de_op d_sub (xbi C c_len g_lay_len b_len boot_len' (da_cons (xv C 14 n_lay_14) da_nil)) de_int))))))))))))))))))
/-! ### _law_laid -/
abbrev s_laid : Stmt := top 20
def N_laid : List Str := ["_law_told", "_law_top_here", "_law_helpers", "_law_s", "_law_rows", "_law_row_here"]
def P_laid : List Str := ["_law_told"]
theorem sc_laid : FnScope N_laid P_laid (defScope s_laid) := ⟨rfl, rfl, rfl, by decide +kernel, rfl, by decide +kernel, by decide +kernel⟩
theorem k_laid : (defScope s_laid).kind = .function := rfl
theorem l_laid_0 : (defScope s_laid).names.lookup (Str.ofString "_law_told") = some .local := by decide +kernel
theorem n_laid_0 : Nm N_laid (defScope s_laid) 0 "_law_told" := ⟨rfl, .inl l_laid_0, by decide, by decide⟩
theorem l_laid_1 : (defScope s_laid).names.lookup (Str.ofString "_law_top_here") = some .local := by decide +kernel
theorem n_laid_1 : Nm N_laid (defScope s_laid) 1 "_law_top_here" := ⟨rfl, .inl l_laid_1, by decide, by decide⟩
theorem l_laid_2 : (defScope s_laid).names.lookup (Str.ofString "_law_helpers") = some .local := by decide +kernel
theorem n_laid_2 : Nm N_laid (defScope s_laid) 2 "_law_helpers" := ⟨rfl, .inl l_laid_2, by decide, by decide⟩
theorem l_laid_3 : (defScope s_laid).names.lookup (Str.ofString "_law_s") = some .local := by decide +kernel
theorem n_laid_3 : Nm N_laid (defScope s_laid) 3 "_law_s" := ⟨rfl, .inl l_laid_3, by decide, by decide⟩
theorem l_laid_4 : (defScope s_laid).names.lookup (Str.ofString "_law_rows") = some .local := by decide +kernel
theorem n_laid_4 : Nm N_laid (defScope s_laid) 4 "_law_rows" := ⟨rfl, .inl l_laid_4, by decide, by decide⟩
theorem l_laid_5 : (defScope s_laid).names.lookup (Str.ofString "_law_row_here") = some .local := by decide +kernel
theorem n_laid_5 : Nm N_laid (defScope s_laid) 5 "_law_row_here" := ⟨rfl, .inl l_laid_5, by decide, by decide⟩
theorem g_laid_tuple : Gn (defScope s_laid) "tuple" := ⟨by decide +kernel, by decide, by decide⟩
theorem g_laid_max : Gn (defScope s_laid) "max" := ⟨by decide +kernel, by decide, by decide⟩
theorem g_laid_isinstance : Gn (defScope s_laid) "isinstance" := ⟨by decide +kernel, by decide, by decide⟩
theorem g_laid_lay : Gn (defScope s_laid) "_law_lay" := ⟨by decide +kernel, by decide, by decide⟩
theorem g_laid_len : Gn (defScope s_laid) "len" := ⟨by decide +kernel, by decide, by decide⟩
def rd_laid  : DS :=
  (rSeq (rAsg (rVar 0) (gT 2 (gsC (gN 1) (gsC (gN 2) gs0))))
    (rSeq (rAsg (rDisp [((rC (.str "rows")), (rLstM rNil)), ((rC (.str "labels")), (rLstM rNil)), ((rC (.str "begins")), rNewT), ((rC (.str "free")), (rC (.int 0)))]) (gN 3))
    (rSeq (rDrop (rCall 4 sp_lay (fun _ _ => False) (rCons (rVar 2) (rCons (rVar 3) (rCons (rOp (rI (fun _ _ => True) fun i j => .int (i - j)) (rCB rLen (rCons (rVar 2) rNil)) (rC (.int 1))) (rCons (rTup (rCons (rTup rNil) (rCons (rTup rNil) (rCons (rC .non) rNil)))) rNil))))))
    (rSeq (rAsg (rLstM rNil) (gN 4))
    (rCut (rFor (rSq (rDG (rVar 3) (rC (.str "rows")))) (gN 5) (rCut (rIf (rAnd (rB (rCB rIsi (rCons (rOp rIx (rVar 5) (rNeg (rC (.int 1)))) (rCons (rC (.ty "tuple")) rNil)))) (rB (rOp (rInD' false) (rOp rIx (rVar 5) (rC (.int 0))) (rTup (rCons (rC (.str "if")) (rCons (rC (.str "go")) rNil)))))) (rAsg (rOp rCatT' (rSl rSlT' (rVar 5) rNoP (rPt (rNeg (rC (.int 1))))) (rTup (rCons (rDG (rDG (rVar 3) (rC (.str "begins"))) (rOp rIx (rVar 5) (rNeg (rC (.int 1))))) rNil))) (gN 5)) rNext)
    (rDrop (rBM isLst rAppend (rVar 4) (rCons (rVar 5) rNil)))))
    (rRet (rTup (rCons (rTup (rCons (rVar 1) (rCons (rCB rMax2 (rCons (rC (.int 1)) (rCons (rDG (rVar 3) (rC (.str "free"))) rNil))) (rCons (rCB rTuple (rCons (rVar 4) rNil)) rNil)))) (rCons (rCB rTuple (rCons (rDG (rVar 3) (rC (.str "labels"))) rNil)) rNil)))))))))
theorem d_laid {X : Cx} {k : Nat} (C : Ct X N_laid (defScope s_laid) k) (hfn : ∀ y, X.fn y = true)  (b_tuple : X.mg "tuple" = none) (b_max : X.mg "max" = none) (b_isinstance : X.mg "isinstance" = none) (b_len : X.mg "len" = none) {j_lay : Nat} (hl_lay : j_lay ≤ k) (H_lay : HasX X "_law_lay" j_lay 4 sp_lay) : PDSs X (defBody s_laid) (rd_laid ) :=
  (dss_cons (ds_asg (xv C 0 n_laid_0) (dg_tup C.calm (dgs_cons (xgn C 1 n_laid_1 (.inl l_laid_1)) (dgs_cons (xgn C 2 n_laid_2 (.inl l_laid_2)) dgs_nil))))
    (dss_cons (xset C 3 n_laid_3 (.inl l_laid_3) (de_disp (dp_cons (de_str (x := "rows")) (de_lstM da_nil) (dp_cons (de_str (x := "labels")) (de_lstM da_nil) (dp_cons (de_str (x := "begins")) de_newT (dp_cons (de_str (x := "free")) de_int dp_nil)))) rfl rfl (by simp) (by decide)))
    (dss_cons (ds_expr (xcall C H_lay hl_lay g_laid_lay (da_cons (xv C 2 n_laid_2) (da_cons (xv C 3 n_laid_3) (da_cons (de_op d_sub (xbi C c_len g_laid_len b_len boot_len' (da_cons (xv C 2 n_laid_2) da_nil)) de_int) (da_cons (de_tup (da_cons (de_tup da_nil) (da_cons (de_tup da_nil) (da_cons de_non da_nil)))) da_nil))))))
    (dss_cons (xset C 4 n_laid_4 (.inl l_laid_4) (de_lstM da_nil))
    (dss_cut (ds_for C.pass C.calm (di_seq (de_dget C.u1 (xv C 3 n_laid_3) (de_str (x := "rows")) (fun _ _ => rfl))) (xgn C 5 n_laid_5 (.inl l_laid_5))
    (dss_cut (ds_if (dt_w (dw_and (dt_val (xbi C c_isi g_laid_isinstance b_isinstance boot_isinstance' (da_cons (de_ix d_ix (xv C 5 n_laid_5) (de_neg de_int) (fun _ _ => rfl)) (da_cons (xbty C g_laid_tuple b_tuple boot_tuple') da_nil)))) (dw_and1 (dt_cmp (d_in C.u65) (de_ix d_ix (xv C 5 n_laid_5) de_int (fun _ _ => rfl)) (de_tup (da_cons (de_str (x := "if")) (da_cons (de_str (x := "go")) da_nil))) rfl)))) (dss_one (xset C 5 n_laid_5 (.inl l_laid_5) (de_op d_catT (de_slice sl_t (xv C 5 n_laid_5) do_none (do_some (de_neg de_int))) (de_tup (da_cons (de_dget C.u1 (de_dget C.u1 (xv C 3 n_laid_3) (de_str (x := "begins")) (fun _ _ => rfl)) (de_ix d_ix (xv C 5 n_laid_5) (de_neg de_int) (fun _ _ => rfl)) (fun _ _ => rfl)) da_nil))))) dss_nil)
    (dss_one (ds_expr (de_lm PySem.F.slot_list_append PySem.F.type_list_append m_append (xv C 4 n_laid_4) (da_cons (xv C 5 n_laid_5) da_nil))))))
    (dss_one (ds_ret (de_tup (da_cons (de_tup (da_cons (xv C 1 n_laid_1) (da_cons (xbi C (c_max2 C.calm) g_laid_max b_max boot_max' (da_cons de_int (da_cons (de_dget C.u1 (xv C 3 n_laid_3) (de_str (x := "free")) (fun _ _ => rfl)) da_nil))) (da_cons (xty C c_tuple g_laid_tuple b_tuple boot_tuple' (da_cons (xv C 4 n_laid_4) da_nil)) da_nil)))) (da_cons (xty C c_tuple g_laid_tuple b_tuple boot_tuple' (da_cons (de_dget C.u1 (xv C 3 n_laid_3) (de_str (x := "labels")) (fun _ _ => rfl)) da_nil)) da_nil))))))))))
/-! ### _law_told_by -/
abbrev s_told_by : Stmt := top 21
def N_told_by : List Str := ["_law_labels", "_law_showings_here", "_law_found", "_law_row_here", "_law_worths", "_law_count", "_law_said", "_law_frames", "_law_number_here", "_law_place", "_law_slots", "_law_slot"]
def P_told_by : List Str := ["_law_labels", "_law_showings_here"]
theorem sc_told_by : FnScope N_told_by P_told_by (defScope s_told_by) := ⟨rfl, rfl, rfl, by decide +kernel, rfl, by decide +kernel, by decide +kernel⟩
theorem k_told_by : (defScope s_told_by).kind = .function := rfl
theorem l_told_by_0 : (defScope s_told_by).names.lookup (Str.ofString "_law_labels") = some .local := by decide +kernel
theorem n_told_by_0 : Nm N_told_by (defScope s_told_by) 0 "_law_labels" := ⟨rfl, .inl l_told_by_0, by decide, by decide⟩
theorem l_told_by_1 : (defScope s_told_by).names.lookup (Str.ofString "_law_showings_here") = some .local := by decide +kernel
theorem n_told_by_1 : Nm N_told_by (defScope s_told_by) 1 "_law_showings_here" := ⟨rfl, .inl l_told_by_1, by decide, by decide⟩
theorem l_told_by_2 : (defScope s_told_by).names.lookup (Str.ofString "_law_found") = some .local := by decide +kernel
theorem n_told_by_2 : Nm N_told_by (defScope s_told_by) 2 "_law_found" := ⟨rfl, .inl l_told_by_2, by decide, by decide⟩
theorem l_told_by_3 : (defScope s_told_by).names.lookup (Str.ofString "_law_row_here") = some .local := by decide +kernel
theorem n_told_by_3 : Nm N_told_by (defScope s_told_by) 3 "_law_row_here" := ⟨rfl, .inl l_told_by_3, by decide, by decide⟩
theorem l_told_by_4 : (defScope s_told_by).names.lookup (Str.ofString "_law_worths") = some .cell := by decide +kernel
theorem n_told_by_4 : Nm N_told_by (defScope s_told_by) 4 "_law_worths" := ⟨rfl, .inr (.inl l_told_by_4), by decide, by decide⟩
theorem l_told_by_5 : (defScope s_told_by).names.lookup (Str.ofString "_law_count") = some .local := by decide +kernel
theorem n_told_by_5 : Nm N_told_by (defScope s_told_by) 5 "_law_count" := ⟨rfl, .inl l_told_by_5, by decide, by decide⟩
theorem l_told_by_6 : (defScope s_told_by).names.lookup (Str.ofString "_law_said") = some .local := by decide +kernel
theorem n_told_by_6 : Nm N_told_by (defScope s_told_by) 6 "_law_said" := ⟨rfl, .inl l_told_by_6, by decide, by decide⟩
theorem l_told_by_7 : (defScope s_told_by).names.lookup (Str.ofString "_law_frames") = some .local := by decide +kernel
theorem n_told_by_7 : Nm N_told_by (defScope s_told_by) 7 "_law_frames" := ⟨rfl, .inl l_told_by_7, by decide, by decide⟩
theorem l_told_by_8 : (defScope s_told_by).names.lookup (Str.ofString "_law_number_here") = some .local := by decide +kernel
theorem n_told_by_8 : Nm N_told_by (defScope s_told_by) 8 "_law_number_here" := ⟨rfl, .inl l_told_by_8, by decide, by decide⟩
theorem l_told_by_9 : (defScope s_told_by).names.lookup (Str.ofString "_law_place") = some .local := by decide +kernel
theorem n_told_by_9 : Nm N_told_by (defScope s_told_by) 9 "_law_place" := ⟨rfl, .inl l_told_by_9, by decide, by decide⟩
theorem l_told_by_10 : (defScope s_told_by).names.lookup (Str.ofString "_law_slots") = some .local := by decide +kernel
theorem n_told_by_10 : Nm N_told_by (defScope s_told_by) 10 "_law_slots" := ⟨rfl, .inl l_told_by_10, by decide, by decide⟩
theorem g_told_by_tuple : Gn (defScope s_told_by) "tuple" := ⟨by decide +kernel, by decide, by decide⟩
def rd_told_by  : DS :=
  (rSeq (rAsg (rLstM rNil) (gN 2))
    (rCut (rFor (rSq (rVar 1)) (gT 4 (gsC (gN 3) (gsC (gN 4) (gsC (gN 5) (gsC (gN 6) gs0))))) (rIf (rB (rOp rNotN (rOp rIx (rVar 0) (rVar 3)) (rC .non))) (rSeq (rAsg (rLstM rNil) (gN 7))
    (rCut (rFor (rSq (rOp rIx (rVar 0) (rVar 3))) (gT 3 (gsC (gN 8) (gsC (gN 9) (gsC (gN 10) gs0)))) (rDrop (rBM isLst rAppend (rVar 7) (rCons (rTup (rCons (rVar 8) (rCons (rVar 9) (rCons (rCB rTuple (rCons (rLc (rSq (rVar 10)) (.nm 11) rYes (rOp rIx (rVar 4) (rVar 11)) [11] true) rNil)) rNil)))) rNil))))
    (rDrop (rBM isLst rAppend (rVar 2) (rCons (rTup (rCons (rCB rTuple (rCons (rVar 7) rNil)) (rCons (rVar 5) (rCons (rVar 6) rNil)))) rNil))))) rNext))
    (rRet (rVar 2))))
theorem d_told_by {X : Cx} {k : Nat} (C : Ct X N_told_by (defScope s_told_by) k) (hfn : ∀ y, X.fn y = true)  (b_tuple : X.mg "tuple" = none) : PDSs X (defBody s_told_by) (rd_told_by ) :=
  (dss_cons (xset C 2 n_told_by_2 (.inl l_told_by_2) (de_lstM da_nil))
    (dss_cut (ds_for C.pass C.calm (di_seq (xv C 1 n_told_by_1)) (dg_tup C.calm (dgs_cons (xgn C 3 n_told_by_3 (.inl l_told_by_3)) (dgs_cons (xgn C 4 n_told_by_4 (.inr ⟨l_told_by_4, hfn _⟩)) (dgs_cons (xgn C 5 n_told_by_5 (.inl l_told_by_5)) (dgs_cons (xgn C 6 n_told_by_6 (.inl l_told_by_6)) dgs_nil)))))
    (dss_one (ds_if (dt_cmp d_notN (de_ix d_ix (xv C 0 n_told_by_0) (xv C 3 n_told_by_3) (fun _ _ => rfl)) de_non (nobehind _ (by decide) (by decide))) (dss_cons (xset C 7 n_told_by_7 (.inl l_told_by_7) (de_lstM da_nil))
    (dss_cut (ds_for C.pass C.calm (di_seq (de_ix d_ix (xv C 0 n_told_by_0) (xv C 3 n_told_by_3) (fun _ _ => rfl))) (dg_tup C.calm (dgs_cons (xgn C 8 n_told_by_8 (.inl l_told_by_8)) (dgs_cons (xgn C 9 n_told_by_9 (.inl l_told_by_9)) (dgs_cons (xgn C 10 n_told_by_10 (.inl l_told_by_10)) dgs_nil))))
    (dss_one (ds_expr (de_lm PySem.F.slot_list_append PySem.F.type_list_append m_append (xv C 7 n_told_by_7) (da_cons (de_tup (da_cons (xv C 8 n_told_by_8) (da_cons (xv C 9 n_told_by_9) (da_cons (xty C c_tuple g_told_by_tuple b_tuple boot_tuple' (da_cons (xlc C true (own := [("_law_slot", 11)]) (di_seq (xv C 10 n_told_by_10)) (by decide +kernel) (by decide) (fun _ _ _ _ _ D1 => (xtg D1 11 ⟨rfl, (by first | exact .inl rfl | exact .inr (.inl rfl) | exact .inr (.inr rfl)), by decide, by decide⟩ (by first | exact .inl rfl | exact .inr ⟨rfl, rfl⟩))) (fun _ _ _ _ _ D1 => dts_nil) (fun _ _ _ _ _ D1 => (de_ix d_ix (xv D1 4 ⟨rfl, (by first | exact .inl rfl | exact .inr (.inl rfl) | exact .inr (.inr rfl)), by decide, by decide⟩) (xv D1 11 ⟨rfl, (by first | exact .inl rfl | exact .inr (.inl rfl) | exact .inr (.inr rfl)), by decide, by decide⟩) (fun _ _ => rfl)))) da_nil)) da_nil)))) da_nil)))))
    (dss_one (ds_expr (de_lm PySem.F.slot_list_append PySem.F.type_list_append m_append (xv C 2 n_told_by_2) (da_cons (de_tup (da_cons (xty C c_tuple g_told_by_tuple b_tuple boot_tuple' (da_cons (xv C 7 n_told_by_7) da_nil)) (da_cons (xv C 5 n_told_by_5) (da_cons (xv C 6 n_told_by_6) da_nil)))) da_nil)))))) dss_nil)))
    (dss_one (ds_ret (xv C 2 n_told_by_2)))))
/-! ### _law_showings -/
abbrev s_showings : Stmt := top 22
def N_showings : List Str := ["_law_state", "_law_flat", "_law_found", "_law_k", "_law_worths", "_law_t", "_law_number_here", "_law_said"]
def P_showings : List Str := ["_law_state", "_law_flat"]
theorem sc_showings : FnScope N_showings P_showings (defScope s_showings) := ⟨rfl, rfl, rfl, by decide +kernel, rfl, by decide +kernel, by decide +kernel⟩
theorem k_showings : (defScope s_showings).kind = .function := rfl
theorem l_showings_0 : (defScope s_showings).names.lookup (Str.ofString "_law_state") = some .cell := by decide +kernel
theorem n_showings_0 : Nm N_showings (defScope s_showings) 0 "_law_state" := ⟨rfl, .inr (.inl l_showings_0), by decide, by decide⟩
theorem l_showings_1 : (defScope s_showings).names.lookup (Str.ofString "_law_flat") = some .cell := by decide +kernel
theorem n_showings_1 : Nm N_showings (defScope s_showings) 1 "_law_flat" := ⟨rfl, .inr (.inl l_showings_1), by decide, by decide⟩
theorem l_showings_2 : (defScope s_showings).names.lookup (Str.ofString "_law_found") = some .local := by decide +kernel
theorem n_showings_2 : Nm N_showings (defScope s_showings) 2 "_law_found" := ⟨rfl, .inl l_showings_2, by decide, by decide⟩
theorem l_showings_3 : (defScope s_showings).names.lookup (Str.ofString "_law_k") = some .local := by decide +kernel
theorem n_showings_3 : Nm N_showings (defScope s_showings) 3 "_law_k" := ⟨rfl, .inl l_showings_3, by decide, by decide⟩
theorem l_showings_4 : (defScope s_showings).names.lookup (Str.ofString "_law_worths") = some .local := by decide +kernel
theorem n_showings_4 : Nm N_showings (defScope s_showings) 4 "_law_worths" := ⟨rfl, .inl l_showings_4, by decide, by decide⟩
theorem l_showings_5 : (defScope s_showings).names.lookup (Str.ofString "_law_t") = some .local := by decide +kernel
theorem n_showings_5 : Nm N_showings (defScope s_showings) 5 "_law_t" := ⟨rfl, .inl l_showings_5, by decide, by decide⟩
theorem l_showings_6 : (defScope s_showings).names.lookup (Str.ofString "_law_number_here") = some .local := by decide +kernel
theorem n_showings_6 : Nm N_showings (defScope s_showings) 6 "_law_number_here" := ⟨rfl, .inl l_showings_6, by decide, by decide⟩
theorem l_showings_7 : (defScope s_showings).names.lookup (Str.ofString "_law_said") = some .local := by decide +kernel
theorem n_showings_7 : Nm N_showings (defScope s_showings) 7 "_law_said" := ⟨rfl, .inl l_showings_7, by decide, by decide⟩
theorem g_showings_range : Gn (defScope s_showings) "range" := ⟨by decide +kernel, by decide, by decide⟩
theorem g_showings_take : Gn (defScope s_showings) "_law_take" := ⟨by decide +kernel, by decide, by decide⟩
theorem g_showings_tuple : Gn (defScope s_showings) "tuple" := ⟨by decide +kernel, by decide, by decide⟩
theorem g_showings_len : Gn (defScope s_showings) "len" := ⟨by decide +kernel, by decide, by decide⟩
theorem g_showings_pick : Gn (defScope s_showings) "_law_pick" := ⟨by decide +kernel, by decide, by decide⟩
theorem g_showings_number : Gn (defScope s_showings) "_law_number" := ⟨by decide +kernel, by decide, by decide⟩
def rd_showings  : DS :=
  (rSeq (rAsg (rLstM rNil) (gN 2))
    (rCut (rFor (rRg1 (rCons (rCall 2 sp_take (fun _ _ => False) (rCons (rVar 0) (rCons (rC (.int 15)) rNil))) rNil)) (gN 3) (rSeq (rAsg (rLstM rNil) (gN 4))
    (rCut (rFor (rRg1 (rCons (rOp rIx (rVar 1) (rC (.int 1))) rNil)) (gN 5) (rSeq (rAsg (rCall 2 sp_number (fun _ _ => False) (rCons (rVar 0) (rCons (rOp rIx (rVar 1) (rC (.int 0))) rNil))) (gN 6))
    (rDrop (rBM isLst rAppend (rVar 4) (rCons (rCall 2 sp_pick (fun _ _ => False) (rCons (rVar 0) (rCons (rLstF (rCons (rC .non) (rCons (rVar 6) (rCons (rVar 6) rNil)))) rNil))) rNil)))))
    (rSeq (rAsg (rCB rTuple (rCons (rLc (rRg1 (rCons (rCall 2 sp_take (fun _ _ => False) (rCons (rVar 0) (rCons (rC (.int 3)) rNil))) rNil)) (.nm 5) rYes (rCall 2 sp_number (fun _ _ => False) (rCons (rVar 0) (rCons (rOp rIx (rVar 1) (rC (.int 0))) rNil))) [5] true) rNil)) (gN 7))
    (rDrop (rBM isLst rAppend (rVar 2) (rCons (rTup (rCons (rCall 2 sp_take (fun _ _ => False) (rCons (rVar 0) (rCons (rCB rLen (rCons (rOp rIx (rVar 1) (rC (.int 2))) rNil)) rNil))) (rCons (rCB rTuple (rCons (rVar 4) rNil)) (rCons (rCall 2 sp_take (fun _ _ => False) (rCons (rVar 0) (rCons (rC (.int 9)) rNil))) (rCons (rVar 7) rNil))))) rNil)))))))
    (rRet (rVar 2))))
theorem d_showings {X : Cx} {k : Nat} (C : Ct X N_showings (defScope s_showings) k) (hfn : ∀ y, X.fn y = true)  (b_range : X.mg "range" = none) (b_tuple : X.mg "tuple" = none) (b_len : X.mg "len" = none) {j_take : Nat} (hl_take : j_take ≤ k) (H_take : HasX X "_law_take" j_take 2 sp_take) {j_number : Nat} (hl_number : j_number ≤ k) (H_number : HasX X "_law_number" j_number 2 sp_number) {j_pick : Nat} (hl_pick : j_pick ≤ k) (H_pick : HasX X "_law_pick" j_pick 2 sp_pick) : PDSs X (defBody s_showings) (rd_showings ) :=
  (dss_cons (xset C 2 n_showings_2 (.inl l_showings_2) (de_lstM da_nil))
    (dss_cut (ds_for C.pass C.calm (di_range1 C.sc (g_showings_range).hg b_range (da_cons (xcall C H_take hl_take g_showings_take (da_cons (xv C 0 n_showings_0) (da_cons de_int da_nil))) da_nil)) (xgn C 3 n_showings_3 (.inl l_showings_3))
    (dss_cons (xset C 4 n_showings_4 (.inl l_showings_4) (de_lstM da_nil))
    (dss_cut (ds_for C.pass C.calm (di_range1 C.sc (g_showings_range).hg b_range (da_cons (de_ix d_ix (xv C 1 n_showings_1) de_int (fun _ _ => rfl)) da_nil)) (xgn C 5 n_showings_5 (.inl l_showings_5))
    (dss_cons (xset C 6 n_showings_6 (.inl l_showings_6) (xcall C H_number hl_number g_showings_number (da_cons (xv C 0 n_showings_0) (da_cons (de_ix d_ix (xv C 1 n_showings_1) de_int (fun _ _ => rfl)) da_nil))))
    (dss_one (ds_expr (de_lm PySem.F.slot_list_append PySem.F.type_list_append m_append (xv C 4 n_showings_4) (da_cons (xcall C H_pick hl_pick g_showings_pick (da_cons (xv C 0 n_showings_0) (da_cons (de_lstF (da_cons de_non (da_cons (xv C 6 n_showings_6) (da_cons (xv C 6 n_showings_6) da_nil)))) da_nil))) da_nil))))))
    (dss_cons (xset C 7 n_showings_7 (.inl l_showings_7) (xty C c_tuple g_showings_tuple b_tuple boot_tuple' (da_cons (xlc C true (own := [("_law_t", 5)]) (di_range1 C.sc (g_showings_range).hg b_range (da_cons (xcall C H_take hl_take g_showings_take (da_cons (xv C 0 n_showings_0) (da_cons de_int da_nil))) da_nil)) (by decide +kernel) (by decide) (fun _ _ _ _ _ D1 => (xtg D1 5 ⟨rfl, (by first | exact .inl rfl | exact .inr (.inl rfl) | exact .inr (.inr rfl)), by decide, by decide⟩ (by first | exact .inl rfl | exact .inr ⟨rfl, rfl⟩))) (fun _ _ _ _ _ D1 => dts_nil) (fun _ _ _ _ _ D1 => (xcall D1 H_number hl_number ⟨rfl, by decide, by decide⟩ (da_cons (xv D1 0 ⟨rfl, (by first | exact .inl rfl | exact .inr (.inl rfl) | exact .inr (.inr rfl)), by decide, by decide⟩) (da_cons (de_ix d_ix (xv D1 1 ⟨rfl, (by first | exact .inl rfl | exact .inr (.inl rfl) | exact .inr (.inr rfl)), by decide, by decide⟩) de_int (fun _ _ => rfl)) da_nil))))) da_nil)))
    (dss_one (ds_expr (de_lm PySem.F.slot_list_append PySem.F.type_list_append m_append (xv C 2 n_showings_2) (da_cons (de_tup (da_cons (xcall C H_take hl_take g_showings_take (da_cons (xv C 0 n_showings_0) (da_cons (xbi C c_len g_showings_len b_len boot_len' (da_cons (de_ix d_ix (xv C 1 n_showings_1) de_int (fun _ _ => rfl)) da_nil)) da_nil))) (da_cons (xty C c_tuple g_showings_tuple b_tuple boot_tuple' (da_cons (xv C 4 n_showings_4) da_nil)) (da_cons (xcall C H_take hl_take g_showings_take (da_cons (xv C 0 n_showings_0) (da_cons de_int da_nil))) (da_cons (xv C 7 n_showings_7) da_nil))))) da_nil))))))))
    (dss_one (ds_ret (xv C 2 n_showings_2)))))
/-! ### law -/
abbrev s_p_law : Stmt := top 23
def N_p_law : List Str := ["_law_script", "_law_state", "_law_pairs", "_law_k", "_law_flat", "_law_labels", "_law_showings_here", "_law_handed", "_law_due", "_law_found"]
def P_p_law : List Str := ["_law_script"]
theorem sc_p_law : FnScope N_p_law P_p_law (defScope s_p_law) := ⟨rfl, rfl, rfl, by decide +kernel, rfl, by decide +kernel, by decide +kernel⟩
theorem k_p_law : (defScope s_p_law).kind = .function := rfl
theorem l_p_law_0 : (defScope s_p_law).names.lookup (Str.ofString "_law_script") = some .local := by decide +kernel
theorem n_p_law_0 : Nm N_p_law (defScope s_p_law) 0 "_law_script" := ⟨rfl, .inl l_p_law_0, by decide, by decide⟩
theorem l_p_law_1 : (defScope s_p_law).names.lookup (Str.ofString "_law_state") = some .local := by decide +kernel
theorem n_p_law_1 : Nm N_p_law (defScope s_p_law) 1 "_law_state" := ⟨rfl, .inl l_p_law_1, by decide, by decide⟩
theorem l_p_law_2 : (defScope s_p_law).names.lookup (Str.ofString "_law_pairs") = some .local := by decide +kernel
theorem n_p_law_2 : Nm N_p_law (defScope s_p_law) 2 "_law_pairs" := ⟨rfl, .inl l_p_law_2, by decide, by decide⟩
theorem l_p_law_3 : (defScope s_p_law).names.lookup (Str.ofString "_law_k") = some .local := by decide +kernel
theorem n_p_law_3 : Nm N_p_law (defScope s_p_law) 3 "_law_k" := ⟨rfl, .inl l_p_law_3, by decide, by decide⟩
theorem l_p_law_4 : (defScope s_p_law).names.lookup (Str.ofString "_law_flat") = some .local := by decide +kernel
theorem n_p_law_4 : Nm N_p_law (defScope s_p_law) 4 "_law_flat" := ⟨rfl, .inl l_p_law_4, by decide, by decide⟩
theorem l_p_law_5 : (defScope s_p_law).names.lookup (Str.ofString "_law_labels") = some .local := by decide +kernel
theorem n_p_law_5 : Nm N_p_law (defScope s_p_law) 5 "_law_labels" := ⟨rfl, .inl l_p_law_5, by decide, by decide⟩
theorem l_p_law_6 : (defScope s_p_law).names.lookup (Str.ofString "_law_showings_here") = some .local := by decide +kernel
theorem n_p_law_6 : Nm N_p_law (defScope s_p_law) 6 "_law_showings_here" := ⟨rfl, .inl l_p_law_6, by decide, by decide⟩
theorem l_p_law_7 : (defScope s_p_law).names.lookup (Str.ofString "_law_handed") = some .local := by decide +kernel
theorem n_p_law_7 : Nm N_p_law (defScope s_p_law) 7 "_law_handed" := ⟨rfl, .inl l_p_law_7, by decide, by decide⟩
theorem l_p_law_8 : (defScope s_p_law).names.lookup (Str.ofString "_law_due") = some .local := by decide +kernel
theorem n_p_law_8 : Nm N_p_law (defScope s_p_law) 8 "_law_due" := ⟨rfl, .inl l_p_law_8, by decide, by decide⟩
theorem l_p_law_9 : (defScope s_p_law).names.lookup (Str.ofString "_law_found") = some .local := by decide +kernel
theorem n_p_law_9 : Nm N_p_law (defScope s_p_law) 9 "_law_found" := ⟨rfl, .inl l_p_law_9, by decide, by decide⟩
theorem g_p_law_len : Gn (defScope s_p_law) "len" := ⟨by decide +kernel, by decide, by decide⟩
theorem g_p_law_p_moments_of : Gn (defScope s_p_law) "moments_of" := ⟨by decide +kernel, by decide, by decide⟩
theorem g_p_law_repr : Gn (defScope s_p_law) "repr" := ⟨by decide +kernel, by decide, by decide⟩
theorem g_p_law_isinstance : Gn (defScope s_p_law) "isinstance" := ⟨by decide +kernel, by decide, by decide⟩
theorem g_p_law_list : Gn (defScope s_p_law) "list" := ⟨by decide +kernel, by decide, by decide⟩
theorem g_p_law_told_by : Gn (defScope s_p_law) "_law_told_by" := ⟨by decide +kernel, by decide, by decide⟩
theorem g_p_law_range : Gn (defScope s_p_law) "range" := ⟨by decide +kernel, by decide, by decide⟩
theorem g_p_law_showings : Gn (defScope s_p_law) "_law_showings" := ⟨by decide +kernel, by decide, by decide⟩
theorem g_p_law_laid : Gn (defScope s_p_law) "_law_laid" := ⟨by decide +kernel, by decide, by decide⟩
theorem g_p_law_program : Gn (defScope s_p_law) "_law_program" := ⟨by decide +kernel, by decide, by decide⟩
theorem g_p_law_begun : Gn (defScope s_p_law) "_law_begun" := ⟨by decide +kernel, by decide, by decide⟩
def rd_p_law  : DS :=
  (rSeq (rAsg (rCall 1 sp_begun (fun _ _ => False) (rCons (rVar 0) rNil)) (gN 1))
    (rSeq (rAsg (rLstM rNil) (gN 2))
    (rCut (rFor (rRg1 (rCons (rC (.int 2)) rNil)) (gN 3) (rSeq (rAsg (rCall 1 sp_laid (fun _ _ => False) (rCons (rCall 1 sp_program (fun _ _ => False) (rCons (rVar 1) rNil)) rNil)) (gT 2 (gsC (gN 4) (gsC (gN 5) gs0))))
    (rDrop (rBM isLst rAppend (rVar 2) (rCons (rTup (rCons (rVar 5) (rCons (rCall 2 sp_showings (fun _ _ => False) (rCons (rVar 1) (rCons (rVar 4) rNil))) rNil))) rNil)))))
    (rCut (rFor (rSq (rLstF (rCons (rOp rIx (rVar 2) (rC (.int 0))) (rCons (rOp rIx (rVar 2) (rC (.int 1))) (rCons (rOp rIx (rVar 2) (rC (.int 0))) rNil))))) (gT 2 (gsC (gN 5) (gsC (gN 6) gs0))) (rSeq (rAsg (rCB rList (rCons (rVar 6) rNil)) (gN 7))
    (rSeq (rAsg (rCall 2 sp_told_by (fun _ _ => False) (rCons (rVar 5) (rCons (rVar 6) rNil))) (gN 8))
    (rSeq (rAsg (rCall 2 sp_p_moments_of (fun _ _ => False) (rCons (rVar 5) (rCons (rVar 7) rNil))) (gN 9))
    (rSeq (rIf (rOr (rNot (rB (rCB rIsi (rCons (rVar 9) (rCons (rC (.ty "list")) rNil))))) (rOr (rB (rOp rNeD (rCB rRepr (rCons (rVar 9) rNil)) (rCB rRepr (rCons (rVar 8) rNil)))) (rB (rOp rNeD (rVar 7) (rVar 6))))) (rRet (rC (.bl false))) rNext)
    (rSeq (rDrop (rBM isLst rAppend (rVar 7) (rCons (rC (.str "x")) rNil)))
    (rSeq (rIf (rB (rOp rNeD (rVar 9) (rVar 8))) (rRet (rC (.bl false))) rNext)
    (rSeq (rDrop (rBM isLst rAppend (rVar 9) (rCons (rC (.str "x")) rNil)))
    (rIf (rB (rOp rNeD (rCall 2 sp_p_moments_of (fun _ _ => False) (rCons (rVar 5) (rCons (rVar 6) rNil))) (rVar 8))) (rRet (rC (.bl false))) rNext)))))))))
    (rRet (rOp rEqD (rCB rLen (rCons (rCall 2 sp_p_moments_of (fun _ _ => False) (rCons (rTup (rCons (rTup (rCons (rTup (rCons (rC (.int 0)) (rCons (rC (.int 0)) (rCons (rTup rNil) rNil)))) rNil)) rNil)) (rCons (rLstF (rCons (rTup (rCons (rC (.int 0)) (rCons (rTup (rCons (rC .non) rNil)) (rCons (rC (.int 0)) (rCons (rTup rNil) rNil))))) rNil)) rNil))) rNil)) (rC (.int 1))))))))
theorem d_p_law {X : Cx} {k : Nat} (C : Ct X N_p_law (defScope s_p_law) k) (hfn : ∀ y, X.fn y = true)  (b_len : X.mg "len" = none) (b_repr : X.mg "repr" = none) (b_isinstance : X.mg "isinstance" = none) (b_list : X.mg "list" = none) (b_range : X.mg "range" = none) {j_p_moments_of : Nat} (hl_p_moments_of : j_p_moments_of ≤ k) (H_p_moments_of : HasX X "moments_of" j_p_moments_of 2 sp_p_moments_of) {j_told_by : Nat} (hl_told_by : j_told_by ≤ k) (H_told_by : HasX X "_law_told_by" j_told_by 2 sp_told_by) {j_showings : Nat} (hl_showings : j_showings ≤ k) (H_showings : HasX X "_law_showings" j_showings 2 sp_showings) {j_program : Nat} (hl_program : j_program ≤ k) (H_program : HasX X "_law_program" j_program 1 sp_program) {j_laid : Nat} (hl_laid : j_laid ≤ k) (H_laid : HasX X "_law_laid" j_laid 1 sp_laid) {j_begun : Nat} (hl_begun : j_begun ≤ k) (H_begun : HasX X "_law_begun" j_begun 1 sp_begun) : PDSs X (defBody s_p_law) (rd_p_law ) :=
  (dss_cons (xset C 1 n_p_law_1 (.inl l_p_law_1) (xcall C H_begun hl_begun g_p_law_begun (da_cons (xv C 0 n_p_law_0) da_nil)))
    (dss_cons (xset C 2 n_p_law_2 (.inl l_p_law_2) (de_lstM da_nil))
    (dss_cut (ds_for C.pass C.calm (di_range1 C.sc (g_p_law_range).hg b_range (da_cons de_int da_nil)) (xgn C 3 n_p_law_3 (.inl l_p_law_3))
    (dss_cons (ds_asg (xcall C H_laid hl_laid g_p_law_laid (da_cons (xcall C H_program hl_program g_p_law_program (da_cons (xv C 1 n_p_law_1) da_nil)) da_nil)) (dg_tup C.calm (dgs_cons (xgn C 4 n_p_law_4 (.inl l_p_law_4)) (dgs_cons (xgn C 5 n_p_law_5 (.inl l_p_law_5)) dgs_nil))))
    (dss_one (ds_expr (de_lm PySem.F.slot_list_append PySem.F.type_list_append m_append (xv C 2 n_p_law_2) (da_cons (de_tup (da_cons (xv C 5 n_p_law_5) (da_cons (xcall C H_showings hl_showings g_p_law_showings (da_cons (xv C 1 n_p_law_1) (da_cons (xv C 4 n_p_law_4) da_nil))) da_nil))) da_nil))))))
    (dss_cut (ds_for C.pass C.calm (di_seq (de_lstF (da_cons (de_ix d_ix (xv C 2 n_p_law_2) de_int (fun _ _ => rfl)) (da_cons (de_ix d_ix (xv C 2 n_p_law_2) de_int (fun _ _ => rfl)) (da_cons (de_ix d_ix (xv C 2 n_p_law_2) de_int (fun _ _ => rfl)) da_nil))))) (dg_tup C.calm (dgs_cons (xgn C 5 n_p_law_5 (.inl l_p_law_5)) (dgs_cons (xgn C 6 n_p_law_6 (.inl l_p_law_6)) dgs_nil)))
    (dss_cons (xset C 7 n_p_law_7 (.inl l_p_law_7) (xty C c_list g_p_law_list b_list boot_list' (da_cons (xv C 6 n_p_law_6) da_nil)))
    (dss_cons (xset C 8 n_p_law_8 (.inl l_p_law_8) (xcall C H_told_by hl_told_by g_p_law_told_by (da_cons (xv C 5 n_p_law_5) (da_cons (xv C 6 n_p_law_6) da_nil))))
    (dss_cons (xset C 9 n_p_law_9 (.inl l_p_law_9) (xcall C H_p_moments_of hl_p_moments_of g_p_law_p_moments_of (da_cons (xv C 5 n_p_law_5) (da_cons (xv C 7 n_p_law_7) da_nil))))
    (dss_cons (ds_if (dt_w (dw_or (dt_not (dt_val (xbi C c_isi g_p_law_isinstance b_isinstance boot_isinstance' (da_cons (xv C 9 n_p_law_9) (da_cons (xbty C g_p_law_list b_list boot_list') da_nil))))) (dw_or (dt_cmp (d_ne C.u64) (xbi C (c_repr C.gd C.u64) g_p_law_repr b_repr boot_repr' (da_cons (xv C 9 n_p_law_9) da_nil)) (xbi C (c_repr C.gd C.u64) g_p_law_repr b_repr boot_repr' (da_cons (xv C 8 n_p_law_8) da_nil)) (nobehind _ (by decide) (by decide))) (dw_or1 (dt_cmp (d_ne C.u64) (xv C 7 n_p_law_7) (xv C 6 n_p_law_6) (nobehind _ (by decide) (by decide))))))) (dss_one (ds_ret de_bl)) dss_nil)
    (dss_cons (ds_expr (de_lm PySem.F.slot_list_append PySem.F.type_list_append m_append (xv C 7 n_p_law_7) (da_cons (de_str (x := "x")) da_nil)))
    (dss_cons (ds_if (dt_cmp (d_ne C.u64) (xv C 9 n_p_law_9) (xv C 8 n_p_law_8) (nobehind _ (by decide) (by decide))) (dss_one (ds_ret de_bl)) dss_nil)
    (dss_cons (ds_expr (de_lm PySem.F.slot_list_append PySem.F.type_list_append m_append (xv C 9 n_p_law_9) (da_cons (de_str (x := "x")) da_nil)))
    (dss_one (ds_if (dt_cmp (d_ne C.u64) (xcall C H_p_moments_of hl_p_moments_of g_p_law_p_moments_of (da_cons (xv C 5 n_p_law_5) (da_cons (xv C 6 n_p_law_6) da_nil))) (xv C 8 n_p_law_8) (nobehind _ (by decide) (by decide))) (dss_one (ds_ret de_bl)) dss_nil))))))))))
    (dss_one (ds_ret (de_cmp (d_eq C.u64) (xbi C c_len g_p_law_len b_len boot_len' (da_cons (xcall C H_p_moments_of hl_p_moments_of g_p_law_p_moments_of (da_cons (de_tup (da_cons (de_tup (da_cons (de_tup (da_cons de_int (da_cons de_int (da_cons (de_tup da_nil) da_nil)))) da_nil)) da_nil)) (da_cons (de_lstF (da_cons (de_tup (da_cons de_int (da_cons (de_tup (da_cons de_non da_nil)) (da_cons de_int (da_cons (de_tup da_nil) da_nil))))) da_nil)) da_nil))) da_nil)) de_int (nobehind _ (by decide) (by decide)))))))))
end K26

set_option maxRecDepth 100000
set_option maxHeartbeats 4000000
namespace K26
open PySem PySem.Spec PyProof.Rows L2 DX
theorem dat_iL {n : Nat} (l : List Int) : D.dat (n + 1) (.lst (iL l)) = true := dats_of fun d hd => by
  obtain ⟨z, _, rfl⟩ := List.mem_map.mp hd
  exact dat_int
section
variable {h : DHp} {S g : Addr} {gs cs : List Int} {r t m : Int}
theorem lk_great (e : h S = some (stC g cs r t m)) : lookD h S (.str "great") = some (some (.ref g)) := by unfold lookD; rw [e]; rfl
theorem lk_cells (e : h S = some (stC g cs r t m)) : lookD h S (.str "cells") = some (some (.lst (iL cs))) := by unfold lookD; rw [e]; rfl
theorem lk_rest (e : h S = some (stC g cs r t m)) : lookD h S (.str "rest") = some (some (.int r)) := by unfold lookD; rw [e]; rfl
theorem lk_turn (e : h S = some (stC g cs r t m)) : lookD h S (.str "turn") = some (some (.int t)) := by unfold lookD; rw [e]; rfl
theorem lk_more (e : h S = some (stC g cs r t m)) : lookD h S (.str "more") = some (some (.int m)) := by unfold lookD; rw [e]; rfl
theorem st_rest (e : h S = some (stC g cs r t m)) (z : Int) : storeD h S (.str "rest") (.int z) = some (stC g cs z t m) := by unfold storeD; rw [e]; rfl
theorem st_turn (e : h S = some (stC g cs r t m)) (z : Int) : storeD h S (.str "turn") (.int z) = some (stC g cs r z m) := by unfold storeD; rw [e]; rfl
theorem st_more (e : h S = some (stC g cs r t m)) (z : Int) : storeD h S (.str "more") (.int z) = some (stC g cs r t z) := by unfold storeD; rw [e]; rfl
theorem sz_st (e : h S = some (stC g cs r t m)) : sizeC h S < sizeLine := by unfold sizeC; rw [e]; show 5 < sizeLine; decide
end
theorem take_ok (ds : List D) (h : DHp) (Q : DQ) (hl : ds.length = 2) (hs : sp_take ds h Q (fun _ _ => False)) : rd_take { nx := fun _ h' => Q .non h', rt := Q } (startD N_take ds) h := by
  obtain ⟨S, g, n, e, n0, n1, ⟨gs, cs, r, t, m, O⟩, k⟩ := hs
  subst e
  have gS := O.ne
  refine ⟨fun ρ h' => ∃ gs' r', ρ = [some (.ref S), some (.int n), none, none, none] ∧ StOk h' S g gs' cs r' t m ∧ Fr S g h h', ?_, ?_⟩
  · refine ⟨fun j ρ h' => ∃ gs' r', ρ = [some (.ref S), some (.int n), none, none, none] ∧ StOk h' S g gs' cs r' t m ∧ Fr S g h h' ∧ j = gs'.length, ⟨_, gs, r, rfl, O, Fr.refl, rfl⟩, ?_⟩
    rintro j ρ h1 ⟨gs1, r1, rfl, O1, f1, rfl⟩
    simp only [rSeq, rCut, rAnd, rOr, rNot, rB, rOp, rDG, rDG2, rDIn, rVar, rC, DX.rEqD, DX.rNeD, rLstF, rLstM, rNil, rCons, rTup, rDP, DX.rLP, rRepL', rRepr, rNeg, rEnum, rDictZip, DX.rSortedSet, rBM, rPop0, DX.rAppend, rIf, rAsg, gN, gT, gsC, gs0, rRet, rDrop, DX.rI, rNext, rCont, rBreak, rCB, DX.rLen, rTuple, rTupleN, rTIdx, rList, rAbs, rMax2, rMin2, rIntB, rStrI, DX.rIsi, rIsN, rNotN, DX.rIx, rFrz, rNotV, rAndV, rOrV, rIfE, rSl, rSlT', rSlL', rPt, rNoP, rCatT', rCatL', newL, rCatS, rInD', rIndex', rCall, rSq, rRg1, rRg2, rChain, rYes, rNewK, rNewT, Tg.d, tgsD, wipeD, startD, exists_and_left, exists_and_right, resD_int, resD_str, resD_bl, resD_non, resD_tup, resD_lst, resD_ktup, dat_int, dat_str, dat_bl, dat_non, dat_nil, eqv_int, eqv_str, eqv_nil, eqv_tnil, seqD_tup, seqD_lst, seqD_ktup, seqD_klst, resD_klst, seqL_lst, isN_non, isN_int, isN_str, isN_bl, isN_tup, isN_lst, isN_ref, Bool.not_eq_true', Bool.not_eq_true, decide_eq_false_iff_not, Nat.zero_le, List.map, List.length, List.replicate, List.cons_append, List.nil_append, List.getElem?_cons_zero, List.getElem?_cons_succ, List.set_cons_zero, List.set_cons_succ, Nat.sub_self, Nat.reduceAdd, Nat.reduceSub, Option.some.injEq, D.int.injEq, D.ref.injEq, D.bl.injEq, D.str.injEq, D.tup.injEq, D.lst.injEq, List.cons.injEq, and_true, true_and, exists_eq_left, exists_eq_left', exists_eq', exists_eq_right, exists_const, Bool.true_eq_false, Bool.false_eq_true, if_true, if_false, ite_true, ite_false, decide_eq_true_eq, lk_rest O1.s, lk_great O1.s, resD_ref O1.g, O1.g]
    by_cases hr : r1 = 0
    · rw [if_pos hr]
      refine ⟨dat_iL gs1, ?_⟩
      cases gs1 with
      | nil => exact ⟨⟨[], r1, O1⟩, f1⟩
      | cons z zs =>
        refine ⟨isLst_ref O1.g, .int z, iL zs, rfl, _, st_rest (by rw [updD_ne gS.symm]; exact O1.s) z, sz_st (by rw [updD_ne gS.symm]; exact O1.s), zs.length, Nat.lt_succ_self _, zs, ⟨z, ?_, by rw [updD_ne gS]; exact updD_same, fun y hy => O1.gn y (List.mem_cons_of_mem _ hy), O1.cn, O1.gn z List.mem_cons_self, O1.t0, O1.m0, O1.m1⟩, ?_, rfl⟩
        · exact updD_same
        · intro a c h1 h2 h3
          rw [updD_ne h1, updD_ne h2]
          exact f1 a c h1 h2 h3
    · rw [if_neg hr]
      exact ⟨⟨gs1, r1, O1⟩, f1⟩
  · rintro ρ h1 ⟨gs1, r1, rfl, O1, f1⟩
    simp only [rSeq, rCut, rAnd, rOr, rNot, rB, rOp, rDG, rDG2, rDIn, rVar, rC, DX.rEqD, DX.rNeD, rLstF, rLstM, rNil, rCons, rTup, rDP, DX.rLP, rRepL', rRepr, rNeg, rEnum, rDictZip, DX.rSortedSet, rBM, rPop0, DX.rAppend, rIf, rAsg, gN, gT, gsC, gs0, rRet, rDrop, DX.rI, rNext, rCont, rBreak, rCB, DX.rLen, rTuple, rTupleN, rTIdx, rList, rAbs, rMax2, rMin2, rIntB, rStrI, DX.rIsi, rIsN, rNotN, DX.rIx, rFrz, rNotV, rAndV, rOrV, rIfE, rSl, rSlT', rSlL', rPt, rNoP, rCatT', rCatL', newL, rCatS, rInD', rIndex', rCall, rSq, rRg1, rRg2, rChain, rYes, rNewK, rNewT, Tg.d, tgsD, wipeD, startD, exists_and_left, exists_and_right, resD_int, resD_str, resD_bl, resD_non, resD_tup, resD_lst, resD_ktup, dat_int, dat_str, dat_bl, dat_non, dat_nil, eqv_int, eqv_str, eqv_nil, eqv_tnil, seqD_tup, seqD_lst, seqD_ktup, seqD_klst, resD_klst, seqL_lst, isN_non, isN_int, isN_str, isN_bl, isN_tup, isN_lst, isN_ref, Bool.not_eq_true', Bool.not_eq_true, decide_eq_false_iff_not, Nat.zero_le, List.map, List.length, List.replicate, List.cons_append, List.nil_append, List.getElem?_cons_zero, List.getElem?_cons_succ, List.set_cons_zero, List.set_cons_succ, Nat.sub_self, Nat.reduceAdd, Nat.reduceSub, Option.some.injEq, D.int.injEq, D.ref.injEq, D.bl.injEq, D.str.injEq, D.tup.injEq, D.lst.injEq, List.cons.injEq, and_true, true_and, exists_eq_left, exists_eq_left', exists_eq', exists_eq_right, exists_const, Bool.true_eq_false, Bool.false_eq_true, if_true, if_false, ite_true, ite_false, decide_eq_true_eq, lk_rest O1.s, lk_great O1.s, resD_ref O1.g, O1.g, st_rest O1.s, lk_cells O1.s, sz_st O1.s]
    by_cases hr : 0 < r1
    · rw [if_pos hr]
      refine ⟨n0, ⟨n0, n1⟩, k _ _ ⟨_, rfl, Int.emod_nonneg _ (by omega), Int.emod_lt_of_pos _ n0⟩ ⟨gs1, cs, r1 / n, t, m, ?_⟩ ?_⟩
      · exact ⟨updD_same, by rw [updD_ne gS]; exact O1.g, O1.gn, O1.cn, Int.ediv_nonneg O1.r0 (by omega), O1.t0, O1.m0, O1.m1⟩
      · intro a c h1 h2 h3
        rw [updD_ne h1]
        exact f1 a c h1 h2 h3
    · rw [if_neg hr]
      refine ⟨fun ρ h' => ∃ c : Int, 0 ≤ c ∧ ρ = [some (.ref S), some (.int n), none, some (.int c), none] ∧ h' = h1, ⟨dat_iL cs, ?_⟩, ?_⟩
      · cases hc : (iL cs).isEmpty with
        | true => exact ⟨0, by decide, rfl, rfl⟩
        | false =>
          simp only [lk_turn O1.s, exists_and_left, exists_and_right, resD_int, resD_str, resD_bl, resD_non, resD_tup, resD_lst, resD_ktup, dat_int, dat_str, dat_bl, dat_non, dat_nil, eqv_int, eqv_str, eqv_nil, eqv_tnil, seqD_tup, seqD_lst, seqD_ktup, seqD_klst, resD_klst, seqL_lst, isN_non, isN_int, isN_str, isN_bl, isN_tup, isN_lst, isN_ref, Bool.not_eq_true', Bool.not_eq_true, decide_eq_false_iff_not, Nat.zero_le, List.map, List.length, List.replicate, List.cons_append, List.nil_append, List.getElem?_cons_zero, List.getElem?_cons_succ, List.set_cons_zero, List.set_cons_succ, Nat.sub_self, Nat.reduceAdd, Nat.reduceSub, Option.some.injEq, D.int.injEq, D.ref.injEq, D.bl.injEq, D.str.injEq, D.tup.injEq, D.lst.injEq, List.cons.injEq, and_true, true_and, exists_eq_left, exists_eq_left', exists_eq', exists_eq_right, exists_const, Bool.true_eq_false, Bool.false_eq_true, if_true, if_false, ite_true, ite_false, decide_eq_true_eq]
          have hl : 0 < ((iL cs).length : Int) := by
            cases cs with
            | nil => simp [iL] at hc
            | cons _ _ => (simp only [iL, List.map_cons, List.length_cons]; omega)
          obtain ⟨x, hx, _, hx2⟩ := atI_lt (xs := iL cs) (Int.emod_nonneg t (by omega : ((iL cs).length : Int) ≠ 0)) (Int.emod_lt_of_pos t hl)
          obtain ⟨c, hc, rfl⟩ := List.mem_map.mp hx
          exact ⟨hl, _, hx2, c, O1.cn c hc, rfl⟩
      · rintro ρ h2 ⟨c, c0, rfl, rfl⟩
        have e1 : (updD h2 S (stC g cs r1 (t + 1) m)) S = some (stC g cs r1 (t + 1) m) := updD_same
        simp only [rSeq, rCut, rAnd, rOr, rNot, rB, rOp, rDG, rDG2, rDIn, rVar, rC, DX.rEqD, DX.rNeD, rLstF, rLstM, rNil, rCons, rTup, rDP, DX.rLP, rRepL', rRepr, rNeg, rEnum, rDictZip, DX.rSortedSet, rBM, rPop0, DX.rAppend, rIf, rAsg, gN, gT, gsC, gs0, rRet, rDrop, DX.rI, rNext, rCont, rBreak, rCB, DX.rLen, rTuple, rTupleN, rTIdx, rList, rAbs, rMax2, rMin2, rIntB, rStrI, DX.rIsi, rIsN, rNotN, DX.rIx, rFrz, rNotV, rAndV, rOrV, rIfE, rSl, rSlT', rSlL', rPt, rNoP, rCatT', rCatL', newL, rCatS, rInD', rIndex', rCall, rSq, rRg1, rRg2, rChain, rYes, rNewK, rNewT, Tg.d, tgsD, wipeD, startD, exists_and_left, exists_and_right, resD_int, resD_str, resD_bl, resD_non, resD_tup, resD_lst, resD_ktup, dat_int, dat_str, dat_bl, dat_non, dat_nil, eqv_int, eqv_str, eqv_nil, eqv_tnil, seqD_tup, seqD_lst, seqD_ktup, seqD_klst, resD_klst, seqL_lst, isN_non, isN_int, isN_str, isN_bl, isN_tup, isN_lst, isN_ref, Bool.not_eq_true', Bool.not_eq_true, decide_eq_false_iff_not, Nat.zero_le, List.map, List.length, List.replicate, List.cons_append, List.nil_append, List.getElem?_cons_zero, List.getElem?_cons_succ, List.set_cons_zero, List.set_cons_succ, Nat.sub_self, Nat.reduceAdd, Nat.reduceSub, Option.some.injEq, D.int.injEq, D.ref.injEq, D.bl.injEq, D.str.injEq, D.tup.injEq, D.lst.injEq, List.cons.injEq, and_true, true_and, exists_eq_left, exists_eq_left', exists_eq', exists_eq_right, exists_const, Bool.true_eq_false, Bool.false_eq_true, if_true, if_false, ite_true, ite_false, decide_eq_true_eq, lk_turn O1.s, st_turn O1.s, sz_st O1.s, lk_more e1, lk_turn e1, st_more e1, sz_st e1]
        have e2 := fun z => (updD_same : (updD (updD h2 S (stC g cs r1 (t + 1) m)) S (stC g cs r1 (t + 1) z)) S = some (stC g cs r1 (t + 1) z))
        simp only [rSeq, rCut, rAnd, rOr, rNot, rB, rOp, rDG, rDG2, rDIn, rVar, rC, DX.rEqD, DX.rNeD, rLstF, rLstM, rNil, rCons, rTup, rDP, DX.rLP, rRepL', rRepr, rNeg, rEnum, rDictZip, DX.rSortedSet, rBM, rPop0, DX.rAppend, rIf, rAsg, gN, gT, gsC, gs0, rRet, rDrop, DX.rI, rNext, rCont, rBreak, rCB, DX.rLen, rTuple, rTupleN, rTIdx, rList, rAbs, rMax2, rMin2, rIntB, rStrI, DX.rIsi, rIsN, rNotN, DX.rIx, rFrz, rNotV, rAndV, rOrV, rIfE, rSl, rSlT', rSlL', rPt, rNoP, rCatT', rCatL', newL, rCatS, rInD', rIndex', rCall, rSq, rRg1, rRg2, rChain, rYes, rNewK, rNewT, Tg.d, tgsD, wipeD, startD, exists_and_left, exists_and_right, resD_int, resD_str, resD_bl, resD_non, resD_tup, resD_lst, resD_ktup, dat_int, dat_str, dat_bl, dat_non, dat_nil, eqv_int, eqv_str, eqv_nil, eqv_tnil, seqD_tup, seqD_lst, seqD_ktup, seqD_klst, resD_klst, seqL_lst, isN_non, isN_int, isN_str, isN_bl, isN_tup, isN_lst, isN_ref, Bool.not_eq_true', Bool.not_eq_true, decide_eq_false_iff_not, Nat.zero_le, List.map, List.length, List.replicate, List.cons_append, List.nil_append, List.getElem?_cons_zero, List.getElem?_cons_succ, List.set_cons_zero, List.set_cons_succ, Nat.sub_self, Nat.reduceAdd, Nat.reduceSub, Option.some.injEq, D.int.injEq, D.ref.injEq, D.bl.injEq, D.str.injEq, D.tup.injEq, D.lst.injEq, List.cons.injEq, and_true, true_and, exists_eq_left, exists_eq_left', exists_eq', exists_eq_right, exists_const, Bool.true_eq_false, Bool.false_eq_true, if_true, if_false, ite_true, ite_false, decide_eq_true_eq, lk_more (e2 _)]
        have m0 := O1.m0
        have m1 := O1.m1
        have t0 := O1.t0
        generalize hz : (m * 48271 + c + 7919 * (t + 1)) % 2147483647 = z
        have z0 : 0 ≤ z := by rw [← hz]; exact Int.emod_nonneg _ (by decide)
        have z1 : z < 2147483647 := by rw [← hz]; exact Int.emod_lt_of_pos _ (by decide)
        have y0 := Int.emod_nonneg (z * z + 16807 * z + 11) (by decide : (2147483629 : Int) ≠ 0)
        have y1 := Int.emod_lt_of_pos (z * z + 16807 * z + 11) (by decide : (0 : Int) < 2147483629)
        generalize (z * z + 16807 * z + 11) % 2147483629 = y at y0 y1
        refine ⟨.inl (by constructor <;> omega), .inl (by decide), by decide, .inl (by constructor <;> omega), .inl (by decide), by decide, .inl (by constructor <;> omega), by decide, ⟨by decide, by decide⟩, n0, k _ _ ⟨_, rfl, Int.emod_nonneg _ (by omega), Int.emod_lt_of_pos _ n0⟩ ⟨gs1, cs, r1, t + 1, z, ?_⟩ ?_⟩
        · exact ⟨updD_same, by rw [updD_ne gS, updD_ne gS]; exact O1.g, O1.gn, O1.cn, O1.r0, by omega, z0, z1⟩
        · intro a c h1 h2 h3
          rw [updD_ne h1, updD_ne h1]
          exact f1 a c h1 h2 h3
end K26

set_option maxRecDepth 100000
set_option maxHeartbeats 4000000
namespace K26
open PySem PySem.Spec PyProof.Rows L2 DX
abbrev EN (Q : DQ) : DEnds := { nx := fun _ h' => Q .non h', rt := Q }
section
variable {S g : Addr} {h h1 : DHp} {Q : DQ} {E : Addr → DHp → Prop}
theorem take_in {n : Int} (n0 : 0 < n) (n1 : n < 1073741824) (st : St h S g) (k : ∀ (z : Int) h', 0 ≤ z → z < n → St h' S g → Fr S g h h' → Q (.int z) h') : sp_take [.ref S, .int n] h Q E :=
  ⟨S, g, n, rfl, n0, n1, st, fun d h' ⟨z, e, z0, z1⟩ s f => by subst e; exact k z h' z0 z1 s f⟩
theorem pick_in {xs : List D} (n0 : xs ≠ []) (n1 : xs.length ≤ 1000) (st : St h S g) (k : ∀ d h', d ∈ xs → St h' S g → Fr S g h h' → Q d h') : sp_pick [.ref S, .lst xs] h Q E :=
  ⟨S, g, xs, rfl, n0, n1, st, k⟩
theorem num_in {t : Int} (t0 : topOk t) (st : St h S g) (k : ∀ (z : Int) h', 0 ≤ z → z ≤ t → St h' S g → Fr S g h h' → Q (.int z) h') : sp_number [.ref S, .int t] h Q E :=
  ⟨S, g, t, rfl, t0, st, fun d h' ⟨z, e, z0, z1⟩ s f => by subst e; exact k z h' z0 z1 s f⟩
theorem St.fresh (st : St h S g) {C : Addr} (e : h C = Option.none) : C ≠ S ∧ C ≠ g := by
  obtain ⟨gs, cs, r, t, m, O⟩ := st
  exact ⟨fun z => (by rw [z, O.s] at e; cases e), fun z => (by rw [z, O.g] at e; cases e)⟩
theorem St.upd (st : St h S g) {C : Addr} {c : Cell} (n1 : C ≠ S) (n2 : C ≠ g) : St (updD h C c) S g := by
  obtain ⟨gs, cs, r, t, m, O⟩ := st
  exact ⟨gs, cs, r, t, m, ⟨by rw [updD_ne n1.symm]; exact O.s, by rw [updD_ne n2.symm]; exact O.g, O.gn, O.cn, O.r0, O.t0, O.m0, O.m1⟩⟩
theorem delD_ne {h : DHp} {a b : Addr} (e : b ≠ a) : delD h a b = h b := by unfold delD; rw [if_neg e]
theorem St.del (st : St h S g) {C : Addr} (n1 : C ≠ S) (n2 : C ≠ g) : St (delD h C) S g := by
  obtain ⟨gs, cs, r, t, m, O⟩ := st
  exact ⟨gs, cs, r, t, m, ⟨by rw [delD_ne n1.symm]; exact O.s, by rw [delD_ne n2.symm]; exact O.g, O.gn, O.cn, O.r0, O.t0, O.m0, O.m1⟩⟩
theorem Fr.del {C : Addr} (f : Fr S g h h1) (e : h C = Option.none) : Fr S g h (delD h1 C) := fun a c n1 n2 q => by
  have : a ≠ C := fun z => by rw [z, e] at q; cases q
  rw [delD_ne this]; exact f a c n1 n2 q
theorem Fr.upd {C : Addr} {c : Cell} (f : Fr S g h h1) (e : h C = Option.none) : Fr S g h (updD h1 C c) := fun a c n1 n2 q => by
  have : a ≠ C := fun z => by rw [z, e] at q; cases q
  rw [updD_ne this]; exact f a c n1 n2 q
theorem FrA.del {C : Addr} (f : FrA h h1) (e : h C = Option.none) : FrA h (delD h1 C) := fun a c q => by
  have : a ≠ C := fun z => by rw [z, e] at q; cases q
  rw [delD_ne this]; exact f a c q
theorem FrA.upd {C : Addr} {c : Cell} (f : FrA h h1) (e : h C = Option.none) : FrA h (updD h1 C c) := fun a c q => by
  have : a ≠ C := fun z => by rw [z, e] at q; cases q
  rw [updD_ne this]; exact f a c q
end
/-- a comprehension whose tests and elements leave the heap alone -/
theorem lc_pure {ri : DI} {t : Tg} {tt : DT} {re : DE} {vs : List Nat} {fz : Bool} {ρ : DSt} {h : DHp} {Q : DQ} (items : List D) (keep : DHp → Prop) (f : D → Option D)
    (hi : ∀ R : List D → (DHp → Prop) → DHp → Prop, R items keep h → ri ρ h R) (hn : items.length ≤ 1000000) (hk : ∀ C acc, h C = none → keep (updD h C (.lst acc)))
    (he : ∀ (i : Nat) (x : D) (C : Addr) (acc : List D) (P1 : D → DHp → Prop) (P0 : DHp → Prop), items[i]? = some x → h C = none → (∀ y, f x = some y → P1 y (updD h C (.lst acc))) → (f x = none → P0 (updD h C (.lst acc))) →
      t.d x (wipeD ρ vs) (updD h C (.lst acc)) fun ρ2 h2 => tt ρ2 h2 fun b h3 => if b = true then re ρ2 h3 P1 else P0 h3)
    (hq : newL fz (items.filterMap f) h Q) : rLc ri t tt re vs fz ρ h Q := by
  refine hi _ ⟨hn, fun C hC => ⟨fun i acc h' => h' = updD h C (.lst acc) ∧ acc = (items.take i).filterMap f, ⟨rfl, rfl⟩, ?_, ?_⟩⟩
  · rintro i x acc h' hx ⟨rfl, ea⟩ hl
    have tk : (items.take (i + 1)).filterMap f = (items.take i).filterMap f ++ (f x).toList := by
      rw [List.take_add_one, hx, List.filterMap_append]
      cases e : f x <;> simp [e]
    refine ⟨hk C acc hC, he i x C acc _ _ hx hC (fun y ey => ⟨updD_same, upd_updD, ?_⟩) fun ey => ⟨rfl, ?_⟩⟩
    · rw [tk, ← ea, ey]; rfl
    · rw [tk, ← ea, ey]; simp
  · rintro acc h' ⟨rfl, ea⟩ hl
    rw [List.take_length] at ea
    subst ea
    refine ⟨hk C _ hC, ?_⟩
    unfold newL at hq
    cases fz with
    | true => rw [if_pos rfl] at hq ⊢; exact ⟨updD_same, by rw [delD_upd hC]; exact hq⟩
    | false => rw [if_neg Bool.false_ne_true] at hq ⊢; exact hq C hC
/-- a comprehension whose elements are drawn -/
theorem lc_draw {ri : DI} {t : Tg} {re : DE} {vs : List Nat} {fz : Bool} {ρ : DSt} {h : DHp} {Q : DQ} {S g : Addr} (items : List D) (keep : DHp → Prop) (R : Nat → D → Prop) (st : St h S g)
    (hi : ∀ R : List D → (DHp → Prop) → DHp → Prop, R items keep h → ri ρ h R) (hn : items.length ≤ 1000000) (hk : ∀ h', Fr S g h h' → keep h')
    (he : ∀ (i : Nat) (x : D) (C : Addr) (acc : List D) (h' : DHp) (P1 : D → DHp → Prop), items[i]? = some x → h C = none → h' C = some (.lst acc) → St h' S g → Fr S g h h' → (∀ d h2, R i d → St h2 S g → Fr S g h' h2 → P1 d h2) → t.d x (wipeD ρ vs) h' fun ρ2 h2 => re ρ2 h2 P1)
    (hq : ∀ (ds : List D) (h' : DHp), ds.length = items.length → (∀ (i : Nat) (d : D), ds[i]? = some d → R i d) → St h' S g → Fr S g h h' → if fz = true then Q (.lst ds) h' else ∀ C, h C = none → h' C = some (.lst ds) → Q (.ref C) h') : rLc ri t rYes re vs fz ρ h Q := by
  refine hi _ ⟨hn, fun C hC => ?_⟩
  obtain ⟨cS, cg⟩ := st.fresh hC
  refine ⟨fun i acc h' => h' C = some (.lst acc) ∧ St h' S g ∧ Fr S g h h' ∧ acc.length = i ∧ ∀ j d, acc[j]? = some d → R j d, ⟨updD_same, st.upd cS cg, Fr.refl.upd hC, rfl, fun j d e => by simp at e⟩, ?_, ?_⟩
  · rintro i x acc h' hx ⟨c1, s1, f1, l1, r1⟩ hl
    refine ⟨hk h' f1, ?_⟩
    refine he i x C acc h' _ hx hC c1 s1 f1 fun d h2 rd s2 f2 => ⟨f2 C _ cS cg c1, updD_same, s2.upd cS cg, (f1.trans f2).upd hC, by rw [List.length_append, l1]; rfl, fun j e ej => ?_⟩
    rcases Nat.lt_or_ge j acc.length with z | z
    · rw [List.getElem?_append_left z] at ej; exact r1 j e ej
    · rw [List.getElem?_append_right z] at ej
      by_cases zz : j - acc.length = 0
      · rw [zz] at ej
        cases ej
        have : j = i := by omega
        rw [this]; exact rd
      · obtain ⟨k, ek⟩ := Nat.exists_eq_succ_of_ne_zero zz
        rw [ek] at ej; simp at ej
  · rintro acc h' ⟨c1, s1, f1, l1, r1⟩ hl
    refine ⟨hk h' f1, ?_⟩
    cases fz with
    | true => rw [if_pos rfl]; exact ⟨c1, by have q := hq acc (delD h' C) l1 r1 (s1.del cS cg) (f1.del hC); rw [if_pos rfl] at q; exact q⟩
    | false =>
      have q := hq acc h' l1 r1 s1 f1
      rw [if_neg Bool.false_ne_true] at q ⊢
      exact q C hC c1
theorem pick_ok (ds : List D) (h : DHp) (Q : DQ) (hl : ds.length = 2) (hs : sp_pick ds h Q (fun _ _ => False)) : rd_pick (EN Q) (startD N_pick ds) h := by
  obtain ⟨S, g, xs, e, x0, x1, st, k⟩ := hs
  subst e
  have l0 : 0 < xs.length := List.length_pos_iff.mpr x0
  simp only [rd_pick, N_pick, rSeq, rCut, rAnd, rOr, rNot, rB, rOp, rDG, rDG2, rDIn, rVar, rC, DX.rEqD, DX.rNeD, rLstF, rLstM, rNil, rCons, rTup, rDP, DX.rLP, rRepL', rRepr, rNeg, rEnum, rDictZip, DX.rSortedSet, rBM, rPop0, DX.rAppend, rIf, rAsg, gN, gT, gsC, gs0, rRet, rDrop, DX.rI, rNext, rCont, rBreak, rCB, DX.rLen, rTuple, rTupleN, rTIdx, rList, rAbs, rMax2, rMin2, rIntB, rStrI, DX.rIsi, rIsN, rNotN, DX.rIx, rFrz, rNotV, rAndV, rOrV, rIfE, rSl, rSlT', rSlL', rPt, rNoP, rCatT', rCatL', newL, rCatS, rInD', rIndex', rCall, rSq, rRg1, rRg2, rChain, rYes, rNewK, rNewT, Tg.d, tgsD, wipeD, startD, exists_and_left, exists_and_right, resD_int, resD_str, resD_bl, resD_non, resD_tup, resD_lst, resD_ktup, dat_int, dat_str, dat_bl, dat_non, dat_nil, eqv_int, eqv_str, eqv_nil, eqv_tnil, seqD_tup, seqD_lst, seqD_ktup, seqD_klst, resD_klst, seqL_lst, isN_non, isN_int, isN_str, isN_bl, isN_tup, isN_lst, isN_ref, Bool.not_eq_true', Bool.not_eq_true, decide_eq_false_iff_not, Nat.zero_le, List.map, List.length, List.replicate, List.cons_append, List.nil_append, List.getElem?_cons_zero, List.getElem?_cons_succ, List.set_cons_zero, List.set_cons_succ, Nat.sub_self, Nat.reduceAdd, Nat.reduceSub, Option.some.injEq, D.int.injEq, D.ref.injEq, D.bl.injEq, D.str.injEq, D.tup.injEq, D.lst.injEq, List.cons.injEq, and_true, true_and, exists_eq_left, exists_eq_left', exists_eq', exists_eq_right, exists_const, Bool.true_eq_false, Bool.false_eq_true, if_true, if_false, ite_true, ite_false, decide_eq_true_eq]
  refine take_in (by omega) (by omega) st fun z h1 z0 z1 s1 f1 => ?_
  obtain ⟨x, hx, _, ex⟩ := atI_lt (xs := xs) z0 z1
  simp only [rSeq, rCut, rAnd, rOr, rNot, rB, rOp, rDG, rDG2, rDIn, rVar, rC, DX.rEqD, DX.rNeD, rLstF, rLstM, rNil, rCons, rTup, rDP, DX.rLP, rRepL', rRepr, rNeg, rEnum, rDictZip, DX.rSortedSet, rBM, rPop0, DX.rAppend, rIf, rAsg, gN, gT, gsC, gs0, rRet, rDrop, DX.rI, rNext, rCont, rBreak, rCB, DX.rLen, rTuple, rTupleN, rTIdx, rList, rAbs, rMax2, rMin2, rIntB, rStrI, DX.rIsi, rIsN, rNotN, DX.rIx, rFrz, rNotV, rAndV, rOrV, rIfE, rSl, rSlT', rSlL', rPt, rNoP, rCatT', rCatL', newL, rCatS, rInD', rIndex', rCall, rSq, rRg1, rRg2, rChain, rYes, rNewK, rNewT, Tg.d, tgsD, wipeD, startD, exists_and_left, exists_and_right, resD_int, resD_str, resD_bl, resD_non, resD_tup, resD_lst, resD_ktup, dat_int, dat_str, dat_bl, dat_non, dat_nil, eqv_int, eqv_str, eqv_nil, eqv_tnil, seqD_tup, seqD_lst, seqD_ktup, seqD_klst, resD_klst, seqL_lst, isN_non, isN_int, isN_str, isN_bl, isN_tup, isN_lst, isN_ref, Bool.not_eq_true', Bool.not_eq_true, decide_eq_false_iff_not, Nat.zero_le, List.map, List.length, List.replicate, List.cons_append, List.nil_append, List.getElem?_cons_zero, List.getElem?_cons_succ, List.set_cons_zero, List.set_cons_succ, Nat.sub_self, Nat.reduceAdd, Nat.reduceSub, Option.some.injEq, D.int.injEq, D.ref.injEq, D.bl.injEq, D.str.injEq, D.tup.injEq, D.lst.injEq, List.cons.injEq, and_true, true_and, exists_eq_left, exists_eq_left', exists_eq', exists_eq_right, exists_const, Bool.true_eq_false, Bool.false_eq_true, if_true, if_false, ite_true, ite_false, decide_eq_true_eq]
  exact ⟨x, ex, k x h1 hx s1 f1⟩
theorem top_ok (ds : List D) (h : DHp) (Q : DQ) (hl : ds.length = 1) (hs : sp_top ds h Q (fun _ _ => False)) : rd_top (EN Q) (startD N_top ds) h := by
  obtain ⟨S, g, e, st, k⟩ := hs
  subst e
  simp only [rd_top, N_top, rSeq, rCut, rAnd, rOr, rNot, rB, rOp, rDG, rDG2, rDIn, rVar, rC, DX.rEqD, DX.rNeD, rLstF, rLstM, rNil, rCons, rTup, rDP, DX.rLP, rRepL', rRepr, rNeg, rEnum, rDictZip, DX.rSortedSet, rBM, rPop0, DX.rAppend, rIf, rAsg, gN, gT, gsC, gs0, rRet, rDrop, DX.rI, rNext, rCont, rBreak, rCB, DX.rLen, rTuple, rTupleN, rTIdx, rList, rAbs, rMax2, rMin2, rIntB, rStrI, DX.rIsi, rIsN, rNotN, DX.rIx, rFrz, rNotV, rAndV, rOrV, rIfE, rSl, rSlT', rSlL', rPt, rNoP, rCatT', rCatL', newL, rCatS, rInD', rIndex', rCall, rSq, rRg1, rRg2, rChain, rYes, rNewK, rNewT, Tg.d, tgsD, wipeD, startD, exists_and_left, exists_and_right, resD_int, resD_str, resD_bl, resD_non, resD_tup, resD_lst, resD_ktup, dat_int, dat_str, dat_bl, dat_non, dat_nil, eqv_int, eqv_str, eqv_nil, eqv_tnil, seqD_tup, seqD_lst, seqD_ktup, seqD_klst, resD_klst, seqL_lst, isN_non, isN_int, isN_str, isN_bl, isN_tup, isN_lst, isN_ref, Bool.not_eq_true', Bool.not_eq_true, decide_eq_false_iff_not, Nat.zero_le, List.map, List.length, List.replicate, List.cons_append, List.nil_append, List.getElem?_cons_zero, List.getElem?_cons_succ, List.set_cons_zero, List.set_cons_succ, Nat.sub_self, Nat.reduceAdd, Nat.reduceSub, Option.some.injEq, D.int.injEq, D.ref.injEq, D.bl.injEq, D.str.injEq, D.tup.injEq, D.lst.injEq, List.cons.injEq, and_true, true_and, exists_eq_left, exists_eq_left', exists_eq', exists_eq_right, exists_const, Bool.true_eq_false, Bool.false_eq_true, if_true, if_false, ite_true, ite_false, decide_eq_true_eq]
  refine ⟨⟨by decide, by decide⟩, take_in (by decide) (by decide) st fun z h1 z0 z1 s1 f1 => ⟨z, rfl, by decide, take_in (by decide) (by decide) s1 fun y h2 y0 y1 s2 f2 => ⟨y, rfl, ?_⟩⟩⟩
  have e9 : (10 : Int) ^ Int.toNat 9 = 1000000000 := by decide
  obtain ⟨x, hx, _, ex⟩ := atI_lt (xs := [D.int 1, D.int 2, D.int 3, D.int 9, D.int 1, D.int 255, D.int (10 ^ Int.toNat 9), D.int (2 + z)]) y0 y1
  refine ⟨x, ex, k x h2 ?_ s2 (f1.trans f2)⟩
  rw [e9] at hx
  simp only [List.mem_cons, List.not_mem_nil, or_false] at hx
  unfold topOk
  rcases hx with e | e | e | e | e | e | e | e <;> exact ⟨_, e, by omega, by omega⟩
theorem number_ok (ds : List D) (h : DHp) (Q : DQ) (hl : ds.length = 2) (hs : sp_number ds h Q (fun _ _ => False)) : rd_number (EN Q) (startD N_number ds) h := by
  obtain ⟨S, g, t, e, t0, st, k⟩ := hs
  subst e
  have t1 := t0.1
  have t2 := t0.2
  simp only [rd_number, N_number, rSeq, rCut, rAnd, rOr, rNot, rB, rOp, rDG, rDG2, rDIn, rVar, rC, DX.rEqD, DX.rNeD, rLstF, rLstM, rNil, rCons, rTup, rDP, DX.rLP, rRepL', rRepr, rNeg, rEnum, rDictZip, DX.rSortedSet, rBM, rPop0, DX.rAppend, rIf, rAsg, gN, gT, gsC, gs0, rRet, rDrop, DX.rI, rNext, rCont, rBreak, rCB, DX.rLen, rTuple, rTupleN, rTIdx, rList, rAbs, rMax2, rMin2, rIntB, rStrI, DX.rIsi, rIsN, rNotN, DX.rIx, rFrz, rNotV, rAndV, rOrV, rIfE, rSl, rSlT', rSlL', rPt, rNoP, rCatT', rCatL', newL, rCatS, rInD', rIndex', rCall, rSq, rRg1, rRg2, rChain, rYes, rNewK, rNewT, Tg.d, tgsD, wipeD, startD, and_assoc, exists_and_left, exists_and_right, resD_int, resD_str, resD_bl, resD_non, resD_tup, resD_lst, resD_ktup, dat_int, dat_str, dat_bl, dat_non, dat_nil, eqv_int, eqv_str, eqv_nil, eqv_tnil, seqD_tup, seqD_lst, seqD_ktup, seqD_klst, resD_klst, seqL_lst, isN_non, isN_int, isN_str, isN_bl, isN_tup, isN_lst, isN_ref, Bool.not_eq_true', Bool.not_eq_true, decide_eq_false_iff_not, Nat.zero_le, List.map, List.length, List.replicate, List.cons_append, List.nil_append, List.getElem?_cons_zero, List.getElem?_cons_succ, List.set_cons_zero, List.set_cons_succ, Nat.sub_self, Nat.reduceAdd, Nat.reduceSub, Option.some.injEq, D.int.injEq, D.ref.injEq, D.bl.injEq, D.str.injEq, D.tup.injEq, D.lst.injEq, List.cons.injEq, and_true, true_and, exists_eq_left, exists_eq_left', exists_eq', exists_eq_right, exists_const, Bool.true_eq_false, Bool.false_eq_true, if_true, if_false, ite_true, ite_false, decide_eq_true_eq]
  refine take_in (by decide) (by decide) st fun z h1 z0 z1 s1 f1 => ?_
  simp only [rSeq, rCut, rAnd, rOr, rNot, rB, rOp, rDG, rDG2, rDIn, rVar, rC, DX.rEqD, DX.rNeD, rLstF, rLstM, rNil, rCons, rTup, rDP, DX.rLP, rRepL', rRepr, rNeg, rEnum, rDictZip, DX.rSortedSet, rBM, rPop0, DX.rAppend, rIf, rAsg, gN, gT, gsC, gs0, rRet, rDrop, DX.rI, rNext, rCont, rBreak, rCB, DX.rLen, rTuple, rTupleN, rTIdx, rList, rAbs, rMax2, rMin2, rIntB, rStrI, DX.rIsi, rIsN, rNotN, DX.rIx, rFrz, rNotV, rAndV, rOrV, rIfE, rSl, rSlT', rSlL', rPt, rNoP, rCatT', rCatL', newL, rCatS, rInD', rIndex', rCall, rSq, rRg1, rRg2, rChain, rYes, rNewK, rNewT, Tg.d, tgsD, wipeD, startD, and_assoc, exists_and_left, exists_and_right, resD_int, resD_str, resD_bl, resD_non, resD_tup, resD_lst, resD_ktup, dat_int, dat_str, dat_bl, dat_non, dat_nil, eqv_int, eqv_str, eqv_nil, eqv_tnil, seqD_tup, seqD_lst, seqD_ktup, seqD_klst, resD_klst, seqL_lst, isN_non, isN_int, isN_str, isN_bl, isN_tup, isN_lst, isN_ref, Bool.not_eq_true', Bool.not_eq_true, decide_eq_false_iff_not, Nat.zero_le, List.map, List.length, List.replicate, List.cons_append, List.nil_append, List.getElem?_cons_zero, List.getElem?_cons_succ, List.set_cons_zero, List.set_cons_succ, Nat.sub_self, Nat.reduceAdd, Nat.reduceSub, Option.some.injEq, D.int.injEq, D.ref.injEq, D.bl.injEq, D.str.injEq, D.tup.injEq, D.lst.injEq, List.cons.injEq, and_true, true_and, exists_eq_left, exists_eq_left', exists_eq', exists_eq_right, exists_const, Bool.true_eq_false, Bool.false_eq_true, if_true, if_false, ite_true, ite_false, decide_eq_true_eq]
  by_cases c1 : z < 2
  · rw [if_pos c1]
    refine take_in ?_ ?_ s1 fun y h2 y0 y1 s2 f2 => k _ h2 ⟨y, rfl, y0, ?_⟩ s2 (f1.trans f2) <;> omega
  · rw [if_neg c1]
    by_cases c2 : z = 2
    · rw [if_pos c2]
      refine take_in ?_ ?_ s1 fun y h2 y0 y1 s2 f2 => ⟨y, rfl, k _ h2 ⟨_, rfl, ?_, ?_⟩ s2 (f1.trans f2)⟩ <;> omega
    · rw [if_neg c2]
      refine take_in ?_ ?_ s1 fun y h2 y0 y1 s2 f2 => k _ h2 ⟨y, rfl, y0, ?_⟩ s2 (f1.trans f2) <;> omega
def fAbs : D → Option D
  | .int i => some (.int i.natAbs)
  | _ => none
def fBig : D → Option D
  | .int i => if 10 ^ Int.toNat 18 ≤ i then some (.int i) else none
  | _ => none
theorem abs_all : ∀ ns : List Int, (iL ns).filterMap fAbs = iL (ns.map fun z => (z.natAbs : Int))
  | [] => rfl
  | n :: ns => by
    unfold iL
    rw [List.map_cons, List.filterMap_cons_some (show fAbs (D.int n) = some (D.int (n.natAbs : Int)) from rfl)]
    exact congrArg _ (abs_all ns)
theorem big_all : ∀ cs : List Int, (∀ z ∈ cs, 0 ≤ z) → ∃ gs : List Int, (∀ z ∈ gs, 0 ≤ z) ∧ (iL cs).filterMap fBig = iL gs
  | [], _ => ⟨[], fun z hz => by simp at hz, rfl⟩
  | c :: cs, c0 => by
    obtain ⟨gs, q1, q2⟩ := big_all cs fun z hz => c0 z (List.mem_cons_of_mem _ hz)
    by_cases cc : 10 ^ Int.toNat 18 ≤ c
    · refine ⟨c :: gs, fun z hz => ?_, ?_⟩
      · rcases List.mem_cons.mp hz with e | e
        · rw [e]; exact c0 c List.mem_cons_self
        · exact q1 z e
      · unfold iL at q2 ⊢
        rw [List.map_cons, List.filterMap_cons_some (show fBig (D.int c) = some (D.int c) from if_pos cc), q2]; rfl
    · refine ⟨gs, q1, ?_⟩
      unfold iL at q2 ⊢
      rw [List.map_cons, List.filterMap_cons_none (show fBig (D.int c) = none from if_neg cc), q2]
theorem begun_ok (ds : List D) (h : DHp) (Q : DQ) (hl : ds.length = 1) (hs : sp_begun ds h Q (fun _ _ => False)) : rd_begun (EN Q) (startD N_begun ds) h := by
  obtain ⟨x, ns, e, sx, ln, k⟩ := hs
  subst e
  have sq : ∀ h, seqD h x = some (iL ns) := fun h => by rcases sx with e | e <;> (subst e; rfl)
  simp only [rd_begun, N_begun, rSeq, rAsg, gN, startD]
  refine lc_pure (iL ns) (fun h => seqD h x = some (iL ns)) fAbs (fun R r => ?_) (by simp [iL]; omega) (fun _ _ _ => sq _) (fun i d C acc P1 P0 hd hC k1 k0 => ?_) ?_
  · simp only [rSeq, rCut, rAnd, rOr, rNot, rB, rOp, rDG, rDG2, rDIn, rVar, rC, DX.rEqD, DX.rNeD, rLstF, rLstM, rNil, rCons, rTup, rDP, DX.rLP, rRepL', rRepr, rNeg, rEnum, rDictZip, DX.rSortedSet, rBM, rPop0, DX.rAppend, rIf, rAsg, gN, gT, gsC, gs0, rRet, rDrop, DX.rI, rNext, rCont, rBreak, rCB, DX.rLen, rTuple, rTupleN, rTIdx, rList, rAbs, rMax2, rMin2, rIntB, rStrI, DX.rIsi, rIsN, rNotN, DX.rIx, rFrz, rNotV, rAndV, rOrV, rIfE, rSl, rSlT', rSlL', rPt, rNoP, rCatT', rCatL', newL, rCatS, rInD', rIndex', rCall, rSq, rRg1, rRg2, rChain, rYes, rNewK, rNewT, Tg.d, tgsD, wipeD, startD, exists_and_left, exists_and_right, resD_int, resD_str, resD_bl, resD_non, resD_tup, resD_lst, resD_ktup, dat_int, dat_str, dat_bl, dat_non, dat_nil, eqv_int, eqv_str, eqv_nil, eqv_tnil, seqD_tup, seqD_lst, seqD_ktup, seqD_klst, resD_klst, seqL_lst, isN_non, isN_int, isN_str, isN_bl, isN_tup, isN_lst, isN_ref, Bool.not_eq_true', Bool.not_eq_true, decide_eq_false_iff_not, Nat.zero_le, List.map, List.length, List.replicate, List.cons_append, List.nil_append, List.getElem?_cons_zero, List.getElem?_cons_succ, List.set_cons_zero, List.set_cons_succ, Nat.sub_self, Nat.reduceAdd, Nat.reduceSub, Option.some.injEq, D.int.injEq, D.ref.injEq, D.bl.injEq, D.str.injEq, D.tup.injEq, D.lst.injEq, List.cons.injEq, and_true, true_and, exists_eq_left, exists_eq_left', exists_eq', exists_eq_right, exists_const, Bool.true_eq_false, Bool.false_eq_true, if_true, if_false, ite_true, ite_false, decide_eq_true_eq]
    exact ⟨_, sq _, r⟩
  · obtain ⟨z, _, rfl⟩ := List.mem_map.mp (List.mem_of_getElem? hd)
    simp only [rSeq, rCut, rAnd, rOr, rNot, rB, rOp, rDG, rDG2, rDIn, rVar, rC, DX.rEqD, DX.rNeD, rLstF, rLstM, rNil, rCons, rTup, rDP, DX.rLP, rRepL', rRepr, rNeg, rEnum, rDictZip, DX.rSortedSet, rBM, rPop0, DX.rAppend, rIf, rAsg, gN, gT, gsC, gs0, rRet, rDrop, DX.rI, rNext, rCont, rBreak, rCB, DX.rLen, rTuple, rTupleN, rTIdx, rList, rAbs, rMax2, rMin2, rIntB, rStrI, DX.rIsi, rIsN, rNotN, DX.rIx, rFrz, rNotV, rAndV, rOrV, rIfE, rSl, rSlT', rSlL', rPt, rNoP, rCatT', rCatL', newL, rCatS, rInD', rIndex', rCall, rSq, rRg1, rRg2, rChain, rYes, rNewK, rNewT, Tg.d, tgsD, wipeD, startD, exists_and_left, exists_and_right, resD_int, resD_str, resD_bl, resD_non, resD_tup, resD_lst, resD_ktup, dat_int, dat_str, dat_bl, dat_non, dat_nil, eqv_int, eqv_str, eqv_nil, eqv_tnil, seqD_tup, seqD_lst, seqD_ktup, seqD_klst, resD_klst, seqL_lst, isN_non, isN_int, isN_str, isN_bl, isN_tup, isN_lst, isN_ref, Bool.not_eq_true', Bool.not_eq_true, decide_eq_false_iff_not, Nat.zero_le, List.map, List.length, List.replicate, List.cons_append, List.nil_append, List.getElem?_cons_zero, List.getElem?_cons_succ, List.set_cons_zero, List.set_cons_succ, Nat.sub_self, Nat.reduceAdd, Nat.reduceSub, Option.some.injEq, D.int.injEq, D.ref.injEq, D.bl.injEq, D.str.injEq, D.tup.injEq, D.lst.injEq, List.cons.injEq, and_true, true_and, exists_eq_left, exists_eq_left', exists_eq', exists_eq_right, exists_const, Bool.true_eq_false, Bool.false_eq_true, if_true, if_false, ite_true, ite_false, decide_eq_true_eq]
    exact k1 _ rfl
  · rw [abs_all]
    simp only [rSeq, rCut, rAnd, rOr, rNot, rB, rOp, rDG, rDG2, rDIn, rVar, rC, DX.rEqD, DX.rNeD, rLstF, rLstM, rNil, rCons, rTup, rDP, DX.rLP, rRepL', rRepr, rNeg, rEnum, rDictZip, DX.rSortedSet, rBM, rPop0, DX.rAppend, rIf, rAsg, gN, gT, gsC, gs0, rRet, rDrop, DX.rI, rNext, rCont, rBreak, rCB, DX.rLen, rTuple, rTupleN, rTIdx, rList, rAbs, rMax2, rMin2, rIntB, rStrI, DX.rIsi, rIsN, rNotN, DX.rIx, rFrz, rNotV, rAndV, rOrV, rIfE, rSl, rSlT', rSlL', rPt, rNoP, rCatT', rCatL', newL, rCatS, rInD', rIndex', rCall, rSq, rRg1, rRg2, rChain, rYes, rNewK, rNewT, Tg.d, tgsD, wipeD, startD, exists_and_left, exists_and_right, resD_int, resD_str, resD_bl, resD_non, resD_tup, resD_lst, resD_ktup, dat_int, dat_str, dat_bl, dat_non, dat_nil, eqv_int, eqv_str, eqv_nil, eqv_tnil, seqD_tup, seqD_lst, seqD_ktup, seqD_klst, resD_klst, seqL_lst, isN_non, isN_int, isN_str, isN_bl, isN_tup, isN_lst, isN_ref, Bool.not_eq_true', Bool.not_eq_true, decide_eq_false_iff_not, Nat.zero_le, List.map, List.length, List.replicate, List.cons_append, List.nil_append, List.getElem?_cons_zero, List.getElem?_cons_succ, List.set_cons_zero, List.set_cons_succ, Nat.sub_self, Nat.reduceAdd, Nat.reduceSub, Option.some.injEq, D.int.injEq, D.ref.injEq, D.bl.injEq, D.str.injEq, D.tup.injEq, D.lst.injEq, List.cons.injEq, and_true, true_and, exists_eq_left, exists_eq_left', exists_eq', exists_eq_right, exists_const, Bool.true_eq_false, Bool.false_eq_true, if_true, if_false, ite_true, ite_false, decide_eq_true_eq]
    intro p np
    generalize hcs : (ns.map fun z => (z.natAbs : Int)) = cs
    have c0 : ∀ z ∈ cs, 0 ≤ z := fun z hz => by
      rw [← hcs] at hz
      obtain ⟨y, _, rfl⟩ := List.mem_map.mp hz
      exact Int.natCast_nonneg _
    have cl : cs.length ≤ 63 := by rw [← hcs, List.length_map]; exact ln
    simp only [rPairs, rSeq, rCut, rAnd, rOr, rNot, rB, rOp, rDG, rDG2, rDIn, rVar, rC, DX.rEqD, DX.rNeD, rLstF, rLstM, rNil, rCons, rTup, rDP, DX.rLP, rRepL', rRepr, rNeg, rEnum, rDictZip, DX.rSortedSet, rBM, rPop0, DX.rAppend, rIf, rAsg, gN, gT, gsC, gs0, rRet, rDrop, DX.rI, rNext, rCont, rBreak, rCB, DX.rLen, rTuple, rTupleN, rTIdx, rList, rAbs, rMax2, rMin2, rIntB, rStrI, DX.rIsi, rIsN, rNotN, DX.rIx, rFrz, rNotV, rAndV, rOrV, rIfE, rSl, rSlT', rSlL', rPt, rNoP, rCatT', rCatL', newL, rCatS, rInD', rIndex', rCall, rSq, rRg1, rRg2, rChain, rYes, rNewK, rNewT, Tg.d, tgsD, wipeD, startD, exists_and_left, exists_and_right, resD_int, resD_str, resD_bl, resD_non, resD_tup, resD_lst, resD_ktup, dat_int, dat_str, dat_bl, dat_non, dat_nil, eqv_int, eqv_str, eqv_nil, eqv_tnil, seqD_tup, seqD_lst, seqD_ktup, seqD_klst, resD_klst, seqL_lst, isN_non, isN_int, isN_str, isN_bl, isN_tup, isN_lst, isN_ref, Bool.not_eq_true', Bool.not_eq_true, decide_eq_false_iff_not, Nat.zero_le, List.map, List.length, List.replicate, List.cons_append, List.nil_append, List.getElem?_cons_zero, List.getElem?_cons_succ, List.set_cons_zero, List.set_cons_succ, Nat.sub_self, Nat.reduceAdd, Nat.reduceSub, Option.some.injEq, D.int.injEq, D.ref.injEq, D.bl.injEq, D.str.injEq, D.tup.injEq, D.lst.injEq, List.cons.injEq, and_true, true_and, exists_eq_left, exists_eq_left', exists_eq', exists_eq_right, exists_const, Bool.true_eq_false, Bool.false_eq_true, if_true, if_false, ite_true, ite_false, decide_eq_true_eq]
    refine lc_pure (iL cs) (fun _ => True) fBig (fun R r => ?_) (by simp [iL]; omega) (fun _ _ _ => trivial) (fun i d C acc P1 P0 hd hC k1 k0 => ?_) ?_
    · simp only [rSeq, rCut, rAnd, rOr, rNot, rB, rOp, rDG, rDG2, rDIn, rVar, rC, DX.rEqD, DX.rNeD, rLstF, rLstM, rNil, rCons, rTup, rDP, DX.rLP, rRepL', rRepr, rNeg, rEnum, rDictZip, DX.rSortedSet, rBM, rPop0, DX.rAppend, rIf, rAsg, gN, gT, gsC, gs0, rRet, rDrop, DX.rI, rNext, rCont, rBreak, rCB, DX.rLen, rTuple, rTupleN, rTIdx, rList, rAbs, rMax2, rMin2, rIntB, rStrI, DX.rIsi, rIsN, rNotN, DX.rIx, rFrz, rNotV, rAndV, rOrV, rIfE, rSl, rSlT', rSlL', rPt, rNoP, rCatT', rCatL', newL, rCatS, rInD', rIndex', rCall, rSq, rRg1, rRg2, rChain, rYes, rNewK, rNewT, Tg.d, tgsD, wipeD, startD, exists_and_left, exists_and_right, resD_int, resD_str, resD_bl, resD_non, resD_tup, resD_lst, resD_ktup, dat_int, dat_str, dat_bl, dat_non, dat_nil, eqv_int, eqv_str, eqv_nil, eqv_tnil, seqD_tup, seqD_lst, seqD_ktup, seqD_klst, resD_klst, seqL_lst, isN_non, isN_int, isN_str, isN_bl, isN_tup, isN_lst, isN_ref, Bool.not_eq_true', Bool.not_eq_true, decide_eq_false_iff_not, Nat.zero_le, List.map, List.length, List.replicate, List.cons_append, List.nil_append, List.getElem?_cons_zero, List.getElem?_cons_succ, List.set_cons_zero, List.set_cons_succ, Nat.sub_self, Nat.reduceAdd, Nat.reduceSub, Option.some.injEq, D.int.injEq, D.ref.injEq, D.bl.injEq, D.str.injEq, D.tup.injEq, D.lst.injEq, List.cons.injEq, and_true, true_and, exists_eq_left, exists_eq_left', exists_eq', exists_eq_right, exists_const, Bool.true_eq_false, Bool.false_eq_true, if_true, if_false, ite_true, ite_false, decide_eq_true_eq]
      exact r
    · obtain ⟨z, _, rfl⟩ := List.mem_map.mp (List.mem_of_getElem? hd)
      simp only [rSeq, rCut, rAnd, rOr, rNot, rB, rOp, rDG, rDG2, rDIn, rVar, rC, DX.rEqD, DX.rNeD, rLstF, rLstM, rNil, rCons, rTup, rDP, DX.rLP, rRepL', rRepr, rNeg, rEnum, rDictZip, DX.rSortedSet, rBM, rPop0, DX.rAppend, rIf, rAsg, gN, gT, gsC, gs0, rRet, rDrop, DX.rI, rNext, rCont, rBreak, rCB, DX.rLen, rTuple, rTupleN, rTIdx, rList, rAbs, rMax2, rMin2, rIntB, rStrI, DX.rIsi, rIsN, rNotN, DX.rIx, rFrz, rNotV, rAndV, rOrV, rIfE, rSl, rSlT', rSlL', rPt, rNoP, rCatT', rCatL', newL, rCatS, rInD', rIndex', rCall, rSq, rRg1, rRg2, rChain, rYes, rNewK, rNewT, Tg.d, tgsD, wipeD, startD, and_assoc, exists_and_left, exists_and_right, resD_int, resD_str, resD_bl, resD_non, resD_tup, resD_lst, resD_ktup, dat_int, dat_str, dat_bl, dat_non, dat_nil, eqv_int, eqv_str, eqv_nil, eqv_tnil, seqD_tup, seqD_lst, seqD_ktup, seqD_klst, resD_klst, seqL_lst, isN_non, isN_int, isN_str, isN_bl, isN_tup, isN_lst, isN_ref, Bool.not_eq_true', Bool.not_eq_true, decide_eq_false_iff_not, Nat.zero_le, List.map, List.length, List.replicate, List.cons_append, List.nil_append, List.getElem?_cons_zero, List.getElem?_cons_succ, List.set_cons_zero, List.set_cons_succ, Nat.sub_self, Nat.reduceAdd, Nat.reduceSub, Option.some.injEq, D.int.injEq, D.ref.injEq, D.bl.injEq, D.str.injEq, D.tup.injEq, D.lst.injEq, List.cons.injEq, and_true, true_and, exists_eq_left, exists_eq_left', exists_eq', exists_eq_right, exists_const, Bool.true_eq_false, Bool.false_eq_true, if_true, if_false, ite_true, ite_false, decide_eq_true_eq]
      refine ⟨⟨by decide, by decide⟩, ?_⟩
      by_cases c : 10 ^ Int.toNat 18 ≤ z
      · simp only [c, decide_true, if_true]
        exact k1 _ (if_pos c)
      · simp only [c, decide_false, Bool.false_eq_true, if_false]
        exact k0 (if_neg c)
    · obtain ⟨gs, g0, eg⟩ := big_all cs c0
      rw [eg]
      unfold newL
      rw [if_neg Bool.false_ne_true]
      intro a na
      have ap : a ≠ p := fun z => by rw [z, updD_same] at na; cases na
      have nh : h a = none := by rw [updD_ne ap] at na; exact na
      refine ⟨by rw [updD_ne ap.symm]; exact updD_same, [(.inr "great", .ref a), (.inr "cells", .lst (iL cs)), (.inr "rest", .int 0), (.inr "turn", .int 0), (.inr "more", .int 7)], rfl, by (show 5 ≤ 15); omega, ?_⟩
      refine k p a _ ⟨gs, cs, 0, 0, 7, updD_same, by rw [updD_ne ap]; exact updD_same, g0, c0, by decide, by decide, by decide, by decide⟩ ?_
      exact ((FrA.refl.upd np).upd nh).upd np
theorem cut_from (xs : List D) (k : Nat) : DX.cutD xs (some (k : Int)) none = xs.drop k := by
  unfold DX.cutD
  rw [HT.sIx_nat, HT.sIx_none]
  rcases Nat.le_total k xs.length with z | z
  · rw [Nat.min_eq_left z, List.take_of_length_le (by rw [List.length_drop]; exact Nat.le_refl _)]
  · rw [Nat.min_eq_right z, Nat.sub_self, List.take_zero, List.drop_eq_nil_of_le z]
theorem cut_to (xs : List D) (k : Nat) : DX.cutD xs none (some (k : Int)) = xs.take k := by
  unfold DX.cutD
  rw [HT.sIx_nat, HT.sIx_none, List.drop_zero, Nat.sub_zero]
  rcases Nat.le_total k xs.length with z | z
  · rw [Nat.min_eq_left z]
  · rw [Nat.min_eq_right z, List.take_of_length_le (Nat.le_refl _), List.take_of_length_le z]
theorem rot_ok {ws : List String} (hw : okW ws) {z : Int} (z0 : 0 ≤ z) (z1 : z < 6) : ∃ vs, DX.cutD (sL ws) (some z) none ++ DX.cutD (sL ws) none (some z) = sL vs ∧ okW vs := by
  obtain ⟨k, rfl⟩ := Int.eq_ofNat_of_zero_le z0
  refine ⟨ws.drop k ++ ws.take k, ?_, ?_, ?_⟩
  · rw [cut_from, cut_to]
    unfold sL
    rw [List.map_append, List.map_drop, List.map_take]
  · have := hw.1
    rw [List.length_append, List.length_drop, List.length_take]
    omega
  · have p : (ws.drop k ++ ws.take k).Perm ws := List.perm_append_comm.trans (List.Perm.of_eq (List.take_append_drop k ws))
    exact p.nodup_iff.mpr hw.2
theorem words_ok (ds : List D) (h : DHp) (Q : DQ) (hl : ds.length = 1) (hs : sp_words ds h Q (fun _ _ => False)) : rd_words (EN Q) (startD N_words ds) h := by
  obtain ⟨S, g, e, st, k⟩ := hs
  subst e
  simp only [rd_words, N_words, rSeq, rCut, rAnd, rOr, rNot, rB, rOp, rDG, rDG2, rDIn, rVar, rC, DX.rEqD, DX.rNeD, rLstF, rLstM, rNil, rCons, rTup, rDP, DX.rLP, rRepL', rRepr, rNeg, rEnum, rDictZip, DX.rSortedSet, rBM, rPop0, DX.rAppend, rIf, rAsg, gN, gT, gsC, gs0, rRet, rDrop, DX.rI, rNext, rCont, rBreak, rCB, DX.rLen, rTuple, rTupleN, rTIdx, rList, rAbs, rMax2, rMin2, rIntB, rStrI, DX.rIsi, rIsN, rNotN, DX.rIx, rFrz, rNotV, rAndV, rOrV, rIfE, rSl, rSlT', rSlL', rPt, rNoP, rCatT', rCatL', newL, rCatS, rInD', rIndex', rCall, rSq, rRg1, rRg2, rChain, rYes, rNewK, rNewT, Tg.d, tgsD, wipeD, startD, exists_and_left, exists_and_right, resD_int, resD_str, resD_bl, resD_non, resD_tup, resD_lst, resD_ktup, dat_int, dat_str, dat_bl, dat_non, dat_nil, eqv_int, eqv_str, eqv_nil, eqv_tnil, seqD_tup, seqD_lst, seqD_ktup, seqD_klst, resD_klst, seqL_lst, isN_non, isN_int, isN_str, isN_bl, isN_tup, isN_lst, isN_ref, Bool.not_eq_true', Bool.not_eq_true, decide_eq_false_iff_not, Nat.zero_le, List.map, List.length, List.replicate, List.cons_append, List.nil_append, List.getElem?_cons_zero, List.getElem?_cons_succ, List.set_cons_zero, List.set_cons_succ, Nat.sub_self, Nat.reduceAdd, Nat.reduceSub, Option.some.injEq, D.int.injEq, D.ref.injEq, D.bl.injEq, D.str.injEq, D.tup.injEq, D.lst.injEq, List.cons.injEq, and_true, true_and, exists_eq_left, exists_eq_left', exists_eq', exists_eq_right, exists_const, Bool.true_eq_false, Bool.false_eq_true, if_true, if_false, ite_true, ite_false, decide_eq_true_eq]
  refine ⟨by decide, by decide, by decide, by decide, by decide, by decide, by decide, ?_⟩
  refine pick_in (by simp) (by decide) st fun d h1 hd s1 f1 => take_in (by decide) (by decide) s1 fun z h2 z0 z1 s2 f2 => ?_
  have hw : ∃ ws, d = .lst (sL ws) ∧ okW ws := by
    simp only [List.mem_cons, List.not_mem_nil, or_false] at hd
    rcases hd with e | e | e | e
    · exact ⟨["a", "ab", "b", "ba", "aab", "c"], e, ⟨by decide, by decide⟩⟩
    · exact ⟨["x", "xx", "y", "z", "zz", "yx"], e, ⟨by decide, by decide⟩⟩
    · exact ⟨["sets", "asks", "gos", "ifs", "ends", "tops"], e, ⟨by decide, by decide⟩⟩
    · exact ⟨["n", "nn", "nnn", "m", "mn", "nm"], e, ⟨by decide, by decide⟩⟩
  obtain ⟨ws, rfl, hw⟩ := hw
  obtain ⟨vs, e, hv⟩ := rot_ok hw z0 z1
  refine ⟨z, rfl, _, rfl, z, rfl, _, rfl, ?_, k _ h2 ⟨vs, ?_, hv⟩ s2 (f1.trans f2)⟩
  · rw [← List.length_append, e]
    simp only [sL, List.length_map, hv.1]
    decide
  · rw [e]
theorem dat_sL {n : Nat} (l : List String) : D.dat (n + 1) (.lst (sL l)) = true := dats_of fun d hd => by
  obtain ⟨z, _, rfl⟩ := List.mem_map.mp hd
  exact dat_str
theorem rk_in {n k : Nat} {S g : Addr} {h : DHp} {Q : DQ} {E : Addr → DHp → Prop} {top : Int} {names : List String} (kn : k < n) (t0 : topOk top) (nm : namesOk names) (st : St h S g) (q : ∀ (t : Tm) h', t.good names top k → St h' S g → Fr S g h h' → Q t.d h') :
    spRk n [.ref S, .int top, .lst (sL names), .int (k : Nat)] h Q E := ⟨S, g, top, names, k, rfl, kn, t0, nm, st, fun d h' ⟨t, e, tg⟩ s f => by subst e; exact q t h' tg s f⟩
theorem reckoning_ok (n : Nat) (ds : List D) (h : DHp) (Q : DQ) (hl : ds.length = 4) (hs : spRk (n + 1) ds h Q (fun _ _ => False)) : rd_reckoning (spRk n) (EN Q) (startD N_reckoning ds) h := by
  obtain ⟨S, g, top, names, m, e, mn, t0, nm, st, k⟩ := hs
  subst e
  have n6 := nm.2
  simp only [rd_reckoning, N_reckoning, rSeq, rCut, rAnd, rOr, rNot, rB, rOp, rDG, rDG2, rDIn, rVar, rC, DX.rEqD, DX.rNeD, rLstF, rLstM, rNil, rCons, rTup, rDP, DX.rLP, rRepL', rRepr, rNeg, rEnum, rDictZip, DX.rSortedSet, rBM, rPop0, DX.rAppend, rIf, rAsg, gN, gT, gsC, gs0, rRet, rDrop, DX.rI, rNext, rCont, rBreak, rCB, DX.rLen, rTuple, rTupleN, rTIdx, rList, rAbs, rMax2, rMin2, rIntB, rStrI, DX.rIsi, rIsN, rNotN, DX.rIx, rFrz, rNotV, rAndV, rOrV, rIfE, rSl, rSlT', rSlL', rPt, rNoP, rCatT', rCatL', newL, rCatS, rInD', rIndex', rCall, rSq, rRg1, rRg2, rChain, rYes, rNewK, rNewT, Tg.d, tgsD, wipeD, startD, and_assoc, exists_and_left, exists_and_right, resD_int, resD_str, resD_bl, resD_non, resD_tup, resD_lst, resD_ktup, dat_int, dat_str, dat_bl, dat_non, dat_nil, eqv_int, eqv_str, eqv_nil, eqv_tnil, seqD_tup, seqD_lst, seqD_ktup, seqD_klst, resD_klst, seqL_lst, isN_non, isN_int, isN_str, isN_bl, isN_tup, isN_lst, isN_ref, Bool.not_eq_true', Bool.not_eq_true, decide_eq_false_iff_not, Nat.zero_le, List.map, List.length, List.replicate, List.cons_append, List.nil_append, List.getElem?_cons_zero, List.getElem?_cons_succ, List.set_cons_zero, List.set_cons_succ, Nat.sub_self, Nat.reduceAdd, Nat.reduceSub, Option.some.injEq, D.int.injEq, D.ref.injEq, D.bl.injEq, D.str.injEq, D.tup.injEq, D.lst.injEq, List.cons.injEq, and_true, true_and, exists_eq_left, exists_eq_left', exists_eq', exists_eq_right, exists_const, Bool.true_eq_false, Bool.false_eq_true, if_true, if_false, ite_true, ite_false, decide_eq_true_eq]
  refine take_in (by decide) (by decide) st fun z h1 z0 z1 s1 f1 => ?_
  simp only [rSeq, rCut, rAnd, rOr, rNot, rB, rOp, rDG, rDG2, rDIn, rVar, rC, DX.rEqD, DX.rNeD, rLstF, rLstM, rNil, rCons, rTup, rDP, DX.rLP, rRepL', rRepr, rNeg, rEnum, rDictZip, DX.rSortedSet, rBM, rPop0, DX.rAppend, rIf, rAsg, gN, gT, gsC, gs0, rRet, rDrop, DX.rI, rNext, rCont, rBreak, rCB, DX.rLen, rTuple, rTupleN, rTIdx, rList, rAbs, rMax2, rMin2, rIntB, rStrI, DX.rIsi, rIsN, rNotN, DX.rIx, rFrz, rNotV, rAndV, rOrV, rIfE, rSl, rSlT', rSlL', rPt, rNoP, rCatT', rCatL', newL, rCatS, rInD', rIndex', rCall, rSq, rRg1, rRg2, rChain, rYes, rNewK, rNewT, Tg.d, tgsD, wipeD, startD, and_assoc, exists_and_left, exists_and_right, resD_int, resD_str, resD_bl, resD_non, resD_tup, resD_lst, resD_ktup, dat_int, dat_str, dat_bl, dat_non, dat_nil, eqv_int, eqv_str, eqv_nil, eqv_tnil, seqD_tup, seqD_lst, seqD_ktup, seqD_klst, resD_klst, seqL_lst, isN_non, isN_int, isN_str, isN_bl, isN_tup, isN_lst, isN_ref, Bool.not_eq_true', Bool.not_eq_true, decide_eq_false_iff_not, Nat.zero_le, List.map, List.length, List.replicate, List.cons_append, List.nil_append, List.getElem?_cons_zero, List.getElem?_cons_succ, List.set_cons_zero, List.set_cons_succ, Nat.sub_self, Nat.reduceAdd, Nat.reduceSub, Option.some.injEq, D.int.injEq, D.ref.injEq, D.bl.injEq, D.str.injEq, D.tup.injEq, D.lst.injEq, List.cons.injEq, and_true, true_and, exists_eq_left, exists_eq_left', exists_eq', exists_eq_right, exists_const, Bool.true_eq_false, Bool.false_eq_true, if_true, if_false, ite_true, ite_false, decide_eq_true_eq]
  have leaf : D.dat 64 (D.lst (sL names)) = true ∧
      if (sL names).isEmpty = true then
        sp_number [D.ref S, D.int top] h1 (fun x h1 => 2 ≤ 1000 ∧ Q (D.tup [D.str "number", x]) h1) fun x x_1 => False
      else
        (0 : Int) < 3 ∧
          if z % 3 = 0 then
            sp_number [D.ref S, D.int top] h1 (fun x h1 => 2 ≤ 1000 ∧ Q (D.tup [D.str "number", x]) h1) fun x x_1 =>
              False
          else
            sp_pick [D.ref S, D.lst (sL names)] h1 (fun x h1 => 2 ≤ 1000 ∧ Q (D.tup [D.str "at", x]) h1) fun x x_1 =>
              False := by
    have nb : sp_number [D.ref S, D.int top] h1 (fun x h1 => 2 ≤ 1000 ∧ Q (D.tup [D.str "number", x]) h1) fun x x_1 => False :=
      num_in t0 s1 fun y h2 y0 y1 s2 f2 => ⟨by decide, k _ h2 ⟨.num y, rfl, ⟨y0, y1⟩, Nat.zero_le _⟩ s2 (f1.trans f2)⟩
    refine ⟨dat_sL names, ?_⟩
    cases he : (sL names).isEmpty with
    | true => rw [if_pos rfl]; exact nb
    | false =>
      rw [if_neg Bool.false_ne_true]
      refine ⟨by decide, ?_⟩
      by_cases c : z % 3 = 0
      · rw [if_pos c]; exact nb
      · rw [if_neg c]
        refine pick_in (fun e => by rw [e] at he; cases he) (by unfold sL; rw [List.length_map]; omega) s1 fun d h2 hd s2 f2 => ⟨by decide, ?_⟩
        obtain ⟨x, hx, rfl⟩ := List.mem_map.mp hd
        exact k _ h2 ⟨.at x, rfl, hx, Nat.zero_le _⟩ s2 (f1.trans f2)
  by_cases c1 : (m : Int) = 0
  · rw [if_pos c1]; exact leaf
  · rw [if_neg c1]
    by_cases c2 : z < 6
    · rw [if_pos c2]; exact leaf
    · rw [if_neg c2]
      have em : (m : Int) - 1 = ((m - 1 : Nat) : Int) := by omega
      refine ⟨by decide, pick_in (by simp) (by decide) s1 fun d h2 hd s2 f2 => ?_⟩
      rw [em]
      refine rk_in (by omega) t0 nm s2 fun a h3 ga s3 f3 => rk_in (by omega) t0 nm s3 fun b h4 gb s4 f4 => ⟨by decide, ?_⟩
      have hw : ∃ w, d = .str w ∧ w ∈ opsW := by
        simp only [List.mem_cons, List.not_mem_nil, or_false] at hd
        rcases hd with e | e | e | e | e | e <;> exact ⟨_, e, by decide⟩
      obtain ⟨w, rfl, hw⟩ := hw
      refine k _ h4 ⟨.op w a b, rfl, ⟨hw, ga.1, gb.1⟩, ?_⟩ s4 (((f1.trans f2).trans f3).trans f4)
      have := ga.2
      have := gb.2
      show max a.dep b.dep + 1 ≤ m
      omega
theorem rgD_len (lo : Int) (n : Nat) : (rgD lo n).length = n := by unfold rgD; rw [List.length_map, List.length_range]
theorem rgD_get {lo : Int} {n i : Nat} {x : D} (e : (rgD lo n)[i]? = some x) : i < n ∧ x = .int (lo + (i : Nat)) := by
  unfold rgD at e
  rw [List.getElem?_map] at e
  obtain ⟨j, e1, e2⟩ := Option.map_eq_some_iff.mp e
  obtain ⟨h1, h2⟩ := List.getElem?_eq_some_iff.mp e1
  rw [List.getElem_range] at h2
  rw [List.length_range] at h1
  subst h2
  exact ⟨h1, e2.symm⟩
theorem each_d {α : Type} {f : α → D} {P : α → Prop} : ∀ {ds : List D}, (∀ (i : Nat) (d : D), ds[i]? = some d → ∃ a, d = f a ∧ P a) → ∃ as : List α, ds = as.map f ∧ ∀ a ∈ as, P a
  | [], _ => ⟨[], rfl, fun a h => by simp at h⟩
  | d :: ds, h => by
    obtain ⟨a, e, p⟩ := h 0 d rfl
    obtain ⟨as, e2, p2⟩ := each_d (ds := ds) fun i d q => h (i + 1) d (by simpa using q)
    exact ⟨a :: as, by rw [List.map_cons, e, e2], fun b hb => (List.mem_cons.mp hb).elim (fun z => z ▸ p) (p2 b)⟩
theorem call_ok (ds : List D) (h : DHp) (Q : DQ) (hl : ds.length = 4) (hs : sp_call ds h Q (fun _ _ => False)) : rd_call (EN Q) (startD N_call ds) h := by
  obtain ⟨S, g, top, names, A, e, t0, nm, ao, an, st, k⟩ := hs
  subst e
  have n6 := nm.2
  simp only [rd_call, N_call, rSeq, rCut, rAnd, rOr, rNot, rB, rOp, rDG, rDG2, rDIn, rVar, rC, DX.rEqD, DX.rNeD, rLstF, rLstM, rNil, rCons, rTup, rDP, DX.rLP, rRepL', rRepr, rNeg, rEnum, rDictZip, DX.rSortedSet, rBM, rPop0, DX.rAppend, rIf, rAsg, gN, gT, gsC, gs0, rRet, rDrop, DX.rI, rNext, rCont, rBreak, rCB, DX.rLen, rTuple, rTupleN, rTIdx, rList, rAbs, rMax2, rMin2, rIntB, rStrI, DX.rIsi, rIsN, rNotN, DX.rIx, rFrz, rNotV, rAndV, rOrV, rIfE, rSl, rSlT', rSlL', rPt, rNoP, rCatT', rCatL', newL, rCatS, rInD', rIndex', rCall, rSq, rRg1, rRg2, rChain, rYes, rNewK, rNewT, Tg.d, tgsD, wipeD, startD, and_assoc, exists_and_left, exists_and_right, resD_int, resD_str, resD_bl, resD_non, resD_tup, resD_lst, resD_ktup, dat_int, dat_str, dat_bl, dat_non, dat_nil, eqv_int, eqv_str, eqv_nil, eqv_tnil, seqD_tup, seqD_lst, seqD_ktup, seqD_klst, resD_klst, seqL_lst, isN_non, isN_int, isN_str, isN_bl, isN_tup, isN_lst, isN_ref, Bool.not_eq_true', Bool.not_eq_true, decide_eq_false_iff_not, Nat.zero_le, List.map, List.length, List.replicate, List.cons_append, List.nil_append, List.getElem?_cons_zero, List.getElem?_cons_succ, List.set_cons_zero, List.set_cons_succ, Nat.sub_self, Nat.reduceAdd, Nat.reduceSub, Option.some.injEq, D.int.injEq, D.ref.injEq, D.bl.injEq, D.str.injEq, D.tup.injEq, D.lst.injEq, List.cons.injEq, and_true, true_and, exists_eq_left, exists_eq_left', exists_eq', exists_eq_right, exists_const, Bool.true_eq_false, Bool.false_eq_true, if_true, if_false, ite_true, ite_false, decide_eq_true_eq]
  refine pick_in (fun e => an (List.map_eq_nil_iff.mp e)) (by unfold aheadD; rw [List.length_map]; have := ao.1; omega) st fun d h1 hd s1 f1 => ?_
  obtain ⟨⟨nm', np⟩, hA, rfl⟩ := List.mem_map.mp hd
  have np3 : np ≤ 3 := ao.2 _ hA
  refine ⟨_, rfl, rfl, _, _, rfl, _, _, rfl, rfl, ?_⟩
  refine lc_draw (S := S) (g := g) (rgD 0 np) (fun _ => True) (fun _ d => ∃ t : Tm, d = t.d ∧ t.good names top 1) s1 (fun R r => ?_) (by rw [rgD_len]; omega) (fun _ _ => trivial) (fun i x C acc h' P1 hx hC c1 s' f' k1 => ?_) fun ds h2 l2 r2 s2 f2 => ?_
  · simp only [rSeq, rCut, rAnd, rOr, rNot, rB, rOp, rDG, rDG2, rDIn, rVar, rC, DX.rEqD, DX.rNeD, rLstF, rLstM, rNil, rCons, rTup, rDP, DX.rLP, rRepL', rRepr, rNeg, rEnum, rDictZip, DX.rSortedSet, rBM, rPop0, DX.rAppend, rIf, rAsg, gN, gT, gsC, gs0, rRet, rDrop, DX.rI, rNext, rCont, rBreak, rCB, DX.rLen, rTuple, rTupleN, rTIdx, rList, rAbs, rMax2, rMin2, rIntB, rStrI, DX.rIsi, rIsN, rNotN, DX.rIx, rFrz, rNotV, rAndV, rOrV, rIfE, rSl, rSlT', rSlL', rPt, rNoP, rCatT', rCatL', newL, rCatS, rInD', rIndex', rCall, rSq, rRg1, rRg2, rChain, rYes, rNewK, rNewT, Tg.d, tgsD, wipeD, startD, and_assoc, exists_and_left, exists_and_right, resD_int, resD_str, resD_bl, resD_non, resD_tup, resD_lst, resD_ktup, dat_int, dat_str, dat_bl, dat_non, dat_nil, eqv_int, eqv_str, eqv_nil, eqv_tnil, seqD_tup, seqD_lst, seqD_ktup, seqD_klst, resD_klst, seqL_lst, isN_non, isN_int, isN_str, isN_bl, isN_tup, isN_lst, isN_ref, Bool.not_eq_true', Bool.not_eq_true, decide_eq_false_iff_not, Nat.zero_le, List.map, List.length, List.replicate, List.cons_append, List.nil_append, List.getElem?_cons_zero, List.getElem?_cons_succ, List.set_cons_zero, List.set_cons_succ, Nat.sub_self, Nat.reduceAdd, Nat.reduceSub, Option.some.injEq, D.int.injEq, D.ref.injEq, D.bl.injEq, D.str.injEq, D.tup.injEq, D.lst.injEq, List.cons.injEq, and_true, true_and, exists_eq_left, exists_eq_left', exists_eq', exists_eq_right, exists_const, Bool.true_eq_false, Bool.false_eq_true, if_true, if_false, ite_true, ite_false, decide_eq_true_eq]
    exact ⟨by omega, by omega, r⟩
  · simp only [rSeq, rCut, rAnd, rOr, rNot, rB, rOp, rDG, rDG2, rDIn, rVar, rC, DX.rEqD, DX.rNeD, rLstF, rLstM, rNil, rCons, rTup, rDP, DX.rLP, rRepL', rRepr, rNeg, rEnum, rDictZip, DX.rSortedSet, rBM, rPop0, DX.rAppend, rIf, rAsg, gN, gT, gsC, gs0, rRet, rDrop, DX.rI, rNext, rCont, rBreak, rCB, DX.rLen, rTuple, rTupleN, rTIdx, rList, rAbs, rMax2, rMin2, rIntB, rStrI, DX.rIsi, rIsN, rNotN, DX.rIx, rFrz, rNotV, rAndV, rOrV, rIfE, rSl, rSlT', rSlL', rPt, rNoP, rCatT', rCatL', newL, rCatS, rInD', rIndex', rCall, rSq, rRg1, rRg2, rChain, rYes, rNewK, rNewT, Tg.d, tgsD, wipeD, startD, and_assoc, exists_and_left, exists_and_right, resD_int, resD_str, resD_bl, resD_non, resD_tup, resD_lst, resD_ktup, dat_int, dat_str, dat_bl, dat_non, dat_nil, eqv_int, eqv_str, eqv_nil, eqv_tnil, seqD_tup, seqD_lst, seqD_ktup, seqD_klst, resD_klst, seqL_lst, isN_non, isN_int, isN_str, isN_bl, isN_tup, isN_lst, isN_ref, Bool.not_eq_true', Bool.not_eq_true, decide_eq_false_iff_not, Nat.zero_le, List.map, List.length, List.replicate, List.cons_append, List.nil_append, List.getElem?_cons_zero, List.getElem?_cons_succ, List.set_cons_zero, List.set_cons_succ, Nat.sub_self, Nat.reduceAdd, Nat.reduceSub, Option.some.injEq, D.int.injEq, D.ref.injEq, D.bl.injEq, D.str.injEq, D.tup.injEq, D.lst.injEq, List.cons.injEq, and_true, true_and, exists_eq_left, exists_eq_left', exists_eq', exists_eq_right, exists_const, Bool.true_eq_false, Bool.false_eq_true, if_true, if_false, ite_true, ite_false, decide_eq_true_eq]
    exact rk_in (k := 1) (by decide) t0 nm s' fun t h3 tg s3 f3 => k1 _ h3 ⟨t, rfl, tg⟩ s3 f3
  · rw [if_pos rfl]
    obtain ⟨as, rfl, ga⟩ := each_d r2
    rw [List.length_map, rgD_len] at l2
    refine ⟨as.map Tm.d, rfl, trivial, by decide, by unfold sL; rw [List.length_map]; exact Nat.le_trans (show _ ≤ 7 by omega) (by decide), ?_⟩
    refine pick_in (by simp) (by simp only [List.length_append, sL, List.length_map, List.length_cons, List.length_nil]; omega) s2 fun x h3 hx s3 f3 => ⟨by decide, ?_⟩
    have hb : ∃ b : Option String, x = oS b ∧ ∀ y, b = some y → y ∈ names := by
      rcases List.mem_append.mp hx with z | z
      · obtain ⟨y, hy, rfl⟩ := List.mem_map.mp z
        exact ⟨some y, rfl, fun w e => by cases e; exact hy⟩
      · rw [List.mem_singleton.mp z]
        exact ⟨none, rfl, fun w e => by cases e⟩
    obtain ⟨b, rfl, hb⟩ := hb
    exact k _ h3 ⟨.call b nm' as, rfl, rfl, fun many => ⟨hb, by rw [l2]; exact hA, by omega, ga⟩⟩ s3 ((f1.trans f2).trans f3)
theorem row_ok (ds : List D) (h : DHp) (Q : DQ) (hl : ds.length = 5) (hs : sp_row ds h Q (fun _ _ => False)) : rd_row (EN Q) (startD N_row ds) h := by
  obtain ⟨S, g, top, names, x, i, many, e, t0, nm, im, m7, st, k⟩ := hs
  subst e
  have n6 := nm.2
  have nl : (sL names).length ≤ 1000 := by unfold sL; rw [List.length_map]; omega
  have nn : sL names ≠ [] := fun e => nm.1 (List.map_eq_nil_iff.mp e)
  have rk : ∀ {n : Nat} {h : DHp} {Q : DQ} {E : Addr → DHp → Prop}, n < 3 → St h S g → (∀ (t : Tm) h', t.good names top n → St h' S g → Fr S g h h' → Q t.d h') → sp_reckoning [.ref S, .int top, .lst (sL names), .int (n : Nat)] h Q E := fun hn s q => rk_in hn t0 nm s q
  simp only [rd_row, N_row, rSeq, rCut, rAnd, rOr, rNot, rB, rOp, rDG, rDG2, rDIn, rVar, rC, DX.rEqD, DX.rNeD, rLstF, rLstM, rNil, rCons, rTup, rDP, DX.rLP, rRepL', rRepr, rNeg, rEnum, rDictZip, DX.rSortedSet, rBM, rPop0, DX.rAppend, rIf, rAsg, gN, gT, gsC, gs0, rRet, rDrop, DX.rI, rNext, rCont, rBreak, rCB, DX.rLen, rTuple, rTupleN, rTIdx, rList, rAbs, rMax2, rMin2, rIntB, rStrI, DX.rIsi, rIsN, rNotN, DX.rIx, rFrz, rNotV, rAndV, rOrV, rIfE, rSl, rSlT', rSlL', rPt, rNoP, rCatT', rCatL', newL, rCatS, rInD', rIndex', rCall, rSq, rRg1, rRg2, rChain, rYes, rNewK, rNewT, Tg.d, tgsD, wipeD, startD, and_assoc, exists_and_left, exists_and_right, resD_int, resD_str, resD_bl, resD_non, resD_tup, resD_lst, resD_ktup, dat_int, dat_str, dat_bl, dat_non, dat_nil, eqv_int, eqv_str, eqv_nil, eqv_tnil, seqD_tup, seqD_lst, seqD_ktup, seqD_klst, resD_klst, seqL_lst, isN_non, isN_int, isN_str, isN_bl, isN_tup, isN_lst, isN_ref, Bool.not_eq_true', Bool.not_eq_true, decide_eq_false_iff_not, Nat.zero_le, List.map, List.length, List.replicate, List.cons_append, List.nil_append, List.getElem?_cons_zero, List.getElem?_cons_succ, List.set_cons_zero, List.set_cons_succ, Nat.sub_self, Nat.reduceAdd, Nat.reduceSub, Option.some.injEq, D.int.injEq, D.ref.injEq, D.bl.injEq, D.str.injEq, D.tup.injEq, D.lst.injEq, List.cons.injEq, and_true, true_and, exists_eq_left, exists_eq_left', exists_eq', exists_eq_right, exists_const, Bool.true_eq_false, Bool.false_eq_true, if_true, if_false, ite_true, ite_false, decide_eq_true_eq]
  refine take_in (by decide) (by decide) st fun z h1 z0 z1 s1 f1 => ?_
  simp only [rSeq, rCut, rAnd, rOr, rNot, rB, rOp, rDG, rDG2, rDIn, rVar, rC, DX.rEqD, DX.rNeD, rLstF, rLstM, rNil, rCons, rTup, rDP, DX.rLP, rRepL', rRepr, rNeg, rEnum, rDictZip, DX.rSortedSet, rBM, rPop0, DX.rAppend, rIf, rAsg, gN, gT, gsC, gs0, rRet, rDrop, DX.rI, rNext, rCont, rBreak, rCB, DX.rLen, rTuple, rTupleN, rTIdx, rList, rAbs, rMax2, rMin2, rIntB, rStrI, DX.rIsi, rIsN, rNotN, DX.rIx, rFrz, rNotV, rAndV, rOrV, rIfE, rSl, rSlT', rSlL', rPt, rNoP, rCatT', rCatL', newL, rCatS, rInD', rIndex', rCall, rSq, rRg1, rRg2, rChain, rYes, rNewK, rNewT, Tg.d, tgsD, wipeD, startD, and_assoc, exists_and_left, exists_and_right, resD_int, resD_str, resD_bl, resD_non, resD_tup, resD_lst, resD_ktup, dat_int, dat_str, dat_bl, dat_non, dat_nil, eqv_int, eqv_str, eqv_nil, eqv_tnil, seqD_tup, seqD_lst, seqD_ktup, seqD_klst, resD_klst, seqL_lst, isN_non, isN_int, isN_str, isN_bl, isN_tup, isN_lst, isN_ref, Bool.not_eq_true', Bool.not_eq_true, decide_eq_false_iff_not, Nat.zero_le, List.map, List.length, List.replicate, List.cons_append, List.nil_append, List.getElem?_cons_zero, List.getElem?_cons_succ, List.set_cons_zero, List.set_cons_succ, Nat.sub_self, Nat.reduceAdd, Nat.reduceSub, Option.some.injEq, D.int.injEq, D.ref.injEq, D.bl.injEq, D.str.injEq, D.tup.injEq, D.lst.injEq, List.cons.injEq, and_true, true_and, exists_eq_left, exists_eq_left', exists_eq', exists_eq_right, exists_const, Bool.true_eq_false, Bool.false_eq_true, if_true, if_false, ite_true, ite_false, decide_eq_true_eq]
  have wset : sp_pick [D.ref S, D.lst (sL names)] h1
                      (fun x h1 =>
                        sp_reckoning [D.ref S, D.int top, D.lst (sL names), D.int 2] h1
                          (fun x_1 h1 => 3 ≤ 1000 ∧ Q (D.tup [D.str "set", x, x_1]) h1) fun x x_1 => False)
                      fun x x_1 => False :=
    pick_in nn nl s1 fun d h2 hd s2 f2 => by
      obtain ⟨y, hy, rfl⟩ := List.mem_map.mp hd
      exact rk (n := 2) (by decide) s2 fun t h3 tg s3 f3 => ⟨by decide, k _ h3 ⟨.set y t, rfl, rfl, fun A => ⟨hy, tg⟩⟩ s3 ((f1.trans f2).trans f3)⟩
  by_cases c1 : z = 5
  · rw [if_pos c1]
    refine pick_in nn nl s1 fun d h2 hd s2 f2 => ⟨by decide, ?_⟩
    obtain ⟨y, hy, rfl⟩ := List.mem_map.mp hd
    exact k _ h2 ⟨.ask y, rfl, rfl, fun A => hy⟩ s2 (f1.trans f2)
  · rw [if_neg c1]
    refine ⟨by decide, rfl, ?_⟩
    split
    · exact rk (n := 2) (by decide) s1 fun t h2 tg s2 f2 => ⟨by decide, k _ h2 ⟨.tell t, rfl, rfl, fun A => tg⟩ s2 (f1.trans f2)⟩
    · refine ⟨by decide, rfl, ?_⟩
      split
      · refine ⟨_, atI_1, take_in (by omega) (by omega) s1 fun y h2 y0 y1 s2 f2 => rk (n := 2) (by decide) s2 fun t h3 tg s3 f3 => ?_⟩
        refine ⟨_, atI_0, _, rfl, by simp only [exists_and_left, exists_and_right, resD_int, resD_str, resD_bl, resD_non, resD_tup, resD_lst, resD_ktup, dat_int, dat_str, dat_bl, dat_non, dat_nil, eqv_int, eqv_str, eqv_nil, eqv_tnil, seqD_tup, seqD_lst, seqD_ktup, seqD_klst, resD_klst, seqL_lst, isN_non, isN_int, isN_str, isN_bl, isN_tup, isN_lst, isN_ref, Bool.not_eq_true', Bool.not_eq_true, decide_eq_false_iff_not, Nat.zero_le, List.map, List.length, List.replicate, List.cons_append, List.nil_append, List.getElem?_cons_zero, List.getElem?_cons_succ, List.set_cons_zero, List.set_cons_succ, Nat.sub_self, Nat.reduceAdd, Nat.reduceSub, Option.some.injEq, D.int.injEq, D.ref.injEq, D.bl.injEq, D.str.injEq, D.tup.injEq, D.lst.injEq, List.cons.injEq, and_true, true_and, exists_eq_left, exists_eq_left', exists_eq', exists_eq_right, exists_const, Bool.true_eq_false, Bool.false_eq_true, if_true, if_false, ite_true, ite_false, decide_eq_true_eq], ?_⟩
        simp only [exists_and_left, exists_and_right, resD_int, resD_str, resD_bl, resD_non, resD_tup, resD_lst, resD_ktup, dat_int, dat_str, dat_bl, dat_non, dat_nil, eqv_int, eqv_str, eqv_nil, eqv_tnil, seqD_tup, seqD_lst, seqD_ktup, seqD_klst, resD_klst, seqL_lst, isN_non, isN_int, isN_str, isN_bl, isN_tup, isN_lst, isN_ref, Bool.not_eq_true', Bool.not_eq_true, decide_eq_false_iff_not, Nat.zero_le, List.map, List.length, List.replicate, List.cons_append, List.nil_append, List.getElem?_cons_zero, List.getElem?_cons_succ, List.set_cons_zero, List.set_cons_succ, Nat.sub_self, Nat.reduceAdd, Nat.reduceSub, Option.some.injEq, D.int.injEq, D.ref.injEq, D.bl.injEq, D.str.injEq, D.tup.injEq, D.lst.injEq, List.cons.injEq, and_true, true_and, exists_eq_left, exists_eq_left', exists_eq', exists_eq_right, exists_const, Bool.true_eq_false, Bool.false_eq_true, if_true, if_false, ite_true, ite_false, decide_eq_true_eq]
        split
        · exact ⟨_, atI_0, by decide, k _ h3 ⟨.iff t (i : Nat), rfl, rfl, fun A => ⟨tg, by omega, by omega⟩⟩ s3 ((f1.trans f2).trans f3)⟩
        · exact ⟨by decide, k _ h3 ⟨.iff t y, rfl, rfl, fun A => ⟨tg, y0, y1⟩⟩ s3 ((f1.trans f2).trans f3)⟩
      · split
        · exact ⟨_, atI_1, take_in (by omega) (by omega) s1 fun y h2 y0 y1 s2 f2 => ⟨by decide, k _ h2 ⟨.go y, rfl, rfl, fun A => ⟨y0, y1⟩⟩ s2 (f1.trans f2)⟩⟩
        · split
          · refine take_in (by decide) (by decide) s1 fun y h2 y0 y1 s2 f2 => ⟨by simp only [exists_and_left, exists_and_right, resD_int, resD_str, resD_bl, resD_non, resD_tup, resD_lst, resD_ktup, dat_int, dat_str, dat_bl, dat_non, dat_nil, eqv_int, eqv_str, eqv_nil, eqv_tnil, seqD_tup, seqD_lst, seqD_ktup, seqD_klst, resD_klst, seqL_lst, isN_non, isN_int, isN_str, isN_bl, isN_tup, isN_lst, isN_ref, Bool.not_eq_true', Bool.not_eq_true, decide_eq_false_iff_not, Nat.zero_le, List.map, List.length, List.replicate, List.cons_append, List.nil_append, List.getElem?_cons_zero, List.getElem?_cons_succ, List.set_cons_zero, List.set_cons_succ, Nat.sub_self, Nat.reduceAdd, Nat.reduceSub, Option.some.injEq, D.int.injEq, D.ref.injEq, D.bl.injEq, D.str.injEq, D.tup.injEq, D.lst.injEq, List.cons.injEq, and_true, true_and, exists_eq_left, exists_eq_left', exists_eq', exists_eq_right, exists_const, Bool.true_eq_false, Bool.false_eq_true, if_true, if_false, ite_true, ite_false, decide_eq_true_eq], ?_⟩
            simp only [exists_and_left, exists_and_right, resD_int, resD_str, resD_bl, resD_non, resD_tup, resD_lst, resD_ktup, dat_int, dat_str, dat_bl, dat_non, dat_nil, eqv_int, eqv_str, eqv_nil, eqv_tnil, seqD_tup, seqD_lst, seqD_ktup, seqD_klst, resD_klst, seqL_lst, isN_non, isN_int, isN_str, isN_bl, isN_tup, isN_lst, isN_ref, Bool.not_eq_true', Bool.not_eq_true, decide_eq_false_iff_not, Nat.zero_le, List.map, List.length, List.replicate, List.cons_append, List.nil_append, List.getElem?_cons_zero, List.getElem?_cons_succ, List.set_cons_zero, List.set_cons_succ, Nat.sub_self, Nat.reduceAdd, Nat.reduceSub, Option.some.injEq, D.int.injEq, D.ref.injEq, D.bl.injEq, D.str.injEq, D.tup.injEq, D.lst.injEq, List.cons.injEq, and_true, true_and, exists_eq_left, exists_eq_left', exists_eq', exists_eq_right, exists_const, Bool.true_eq_false, Bool.false_eq_true, if_true, if_false, ite_true, ite_false, decide_eq_true_eq]
            split
            · exact rk (n := 1) (by decide) s2 fun t h3 tg s3 f3 => ⟨by decide, k _ h3 ⟨.give t, rfl, rfl, fun A => tg⟩ s3 ((f1.trans f2).trans f3)⟩
            · refine pick_in nn nl s2 fun d h3 hd s3 f3 => ?_
              obtain ⟨w, hw, rfl⟩ := List.mem_map.mp hd
              exact rk (n := 2) (by decide) s3 fun t h4 tg s4 f4 => ⟨by decide, k _ h4 ⟨.set w t, rfl, rfl, fun A => ⟨hw, tg⟩⟩ s4 (((f1.trans f2).trans f3).trans f4)⟩
          · exact wset
end K26

set_option maxRecDepth 100000
set_option maxHeartbeats 4000000
namespace K26
open PySem PySem.Spec PyProof.Rows L2 DX
theorem words_in {S g : Addr} {h : DHp} {Q : DQ} {E : Addr → DHp → Prop} (st : St h S g) (q : ∀ ws h', okW ws → St h' S g → Fr S g h h' → Q (.lst (sL ws)) h') : sp_words [.ref S] h Q E :=
  ⟨S, g, rfl, st, fun d h' ⟨ws, e, w⟩ s f => by subst e; exact q ws h' w s f⟩
theorem ixN_lt {n : Nat} {i : Int} (h0 : 0 ≤ i) (h1 : i < n) : ixN n i = some i.toNat := by
  unfold ixN
  rw [if_pos h0, if_pos h1]
theorem cutM (ws : List String) (i : Int) (h0 : 0 ≤ i) : DX.cutD (sL ws) none (some i) = sL (ws.take i.toNat) := by
  obtain ⟨k, rfl⟩ := Int.eq_ofNat_of_zero_le h0
  rw [cut_to, Int.toNat_natCast]
  unfold sL
  rw [List.map_take]
theorem fresh_of {S g : Addr} {h h' : DHp} (s1 : St h' S g) (f : Fr S g h h') {C : Addr} (e : h' C = none) : h C = none := by
  obtain ⟨n1, n2⟩ := s1.fresh e
  cases q : h C with
  | none => rfl
  | some c => rw [f C c n1 n2 q] at e; cases e
def HM (S g C : Addr) (top : Int) (name : String) (xs : List D) (A : List (String × Nat)) (ws names : List String) (many : Nat) (h3 : DHp) (ρ : DSt) (h : DHp) : Prop :=
  ∃ (rs : List Rw) (a b c : Option D), ρ = [some (D.ref S), some (D.int top), some (D.str name), some (D.lst xs), some (D.lst (aheadD A)), some (D.lst (sL ws)), some (D.lst (sL names)), some (D.int (many : Nat)), some (D.ref C), a, b, c] ∧
      h C = some (.lst (rs.map Rw.d)) ∧ rs.length = many - 1 ∧ (∀ r ∈ rs, r.ok names top many A) ∧ St h S g ∧ Fr S g h3 h
theorem helper_ok (ds : List D) (h : DHp) (Q : DQ) (hl : ds.length = 5) (hs : sp_helper ds h Q (fun _ _ => False)) : rd_helper (EN Q) (startD N_helper ds) h := by
  obtain ⟨S, g, top, name, xs, A, e, t0, x3, ao, st, k⟩ := hs
  subst e
  simp only [rd_helper, N_helper, rSeq, rCut, rAnd, rOr, rNot, rB, rOp, rDG, rDG2, rDIn, rVar, rC, DX.rEqD, DX.rNeD, rLstF, rLstM, rNil, rCons, rTup, rDP, DX.rLP, rRepL', rRepr, rNeg, rEnum, rDictZip, DX.rSortedSet, rBM, rPop0, DX.rAppend, rIf, rAsg, gN, gT, gsC, gs0, rRet, rDrop, DX.rI, rNext, rCont, rBreak, rCB, DX.rLen, rTuple, rTupleN, rTIdx, rList, rAbs, rMax2, rMin2, rIntB, rStrI, DX.rIsi, rIsN, rNotN, DX.rIx, rFrz, rNotV, rAndV, rOrV, rIfE, rSl, rSlT', rSlL', rPt, rNoP, rCatT', rCatL', newL, rCatS, rInD', rIndex', rCall, rSq, rRg1, rRg2, rChain, rYes, rNewK, rNewT, Tg.d, tgsD, wipeD, startD, and_assoc, exists_and_left, exists_and_right, resD_int, resD_str, resD_bl, resD_non, resD_tup, resD_lst, resD_ktup, dat_int, dat_str, dat_bl, dat_non, dat_nil, eqv_int, eqv_str, eqv_nil, eqv_tnil, seqD_tup, seqD_lst, seqD_ktup, seqD_klst, resD_klst, seqL_lst, isN_non, isN_int, isN_str, isN_bl, isN_tup, isN_lst, isN_ref, Bool.not_eq_true', Bool.not_eq_true, decide_eq_false_iff_not, Nat.zero_le, List.map, List.length, List.replicate, List.cons_append, List.nil_append, List.getElem?_cons_zero, List.getElem?_cons_succ, List.set_cons_zero, List.set_cons_succ, Nat.sub_self, Nat.reduceAdd, Nat.reduceSub, Option.some.injEq, D.int.injEq, D.ref.injEq, D.bl.injEq, D.str.injEq, D.tup.injEq, D.lst.injEq, List.cons.injEq, and_true, true_and, exists_eq_left, exists_eq_left', exists_eq', exists_eq_right, exists_const, Bool.true_eq_false, Bool.false_eq_true, if_true, if_false, ite_true, ite_false, decide_eq_true_eq]
  refine words_in st fun ws h1 ow s1 f1 => ?_
  simp only [rSeq, rCut, rAnd, rOr, rNot, rB, rOp, rDG, rDG2, rDIn, rVar, rC, DX.rEqD, DX.rNeD, rLstF, rLstM, rNil, rCons, rTup, rDP, DX.rLP, rRepL', rRepr, rNeg, rEnum, rDictZip, DX.rSortedSet, rBM, rPop0, DX.rAppend, rIf, rAsg, gN, gT, gsC, gs0, rRet, rDrop, DX.rI, rNext, rCont, rBreak, rCB, DX.rLen, rTuple, rTupleN, rTIdx, rList, rAbs, rMax2, rMin2, rIntB, rStrI, DX.rIsi, rIsN, rNotN, DX.rIx, rFrz, rNotV, rAndV, rOrV, rIfE, rSl, rSlT', rSlL', rPt, rNoP, rCatT', rCatL', newL, rCatS, rInD', rIndex', rCall, rSq, rRg1, rRg2, rChain, rYes, rNewK, rNewT, Tg.d, tgsD, wipeD, startD, and_assoc, exists_and_left, exists_and_right, resD_int, resD_str, resD_bl, resD_non, resD_tup, resD_lst, resD_ktup, dat_int, dat_str, dat_bl, dat_non, dat_nil, eqv_int, eqv_str, eqv_nil, eqv_tnil, seqD_tup, seqD_lst, seqD_ktup, seqD_klst, resD_klst, seqL_lst, isN_non, isN_int, isN_str, isN_bl, isN_tup, isN_lst, isN_ref, Bool.not_eq_true', Bool.not_eq_true, decide_eq_false_iff_not, Nat.zero_le, List.map, List.length, List.replicate, List.cons_append, List.nil_append, List.getElem?_cons_zero, List.getElem?_cons_succ, List.set_cons_zero, List.set_cons_succ, Nat.sub_self, Nat.reduceAdd, Nat.reduceSub, Option.some.injEq, D.int.injEq, D.ref.injEq, D.bl.injEq, D.str.injEq, D.tup.injEq, D.lst.injEq, List.cons.injEq, and_true, true_and, exists_eq_left, exists_eq_left', exists_eq', exists_eq_right, exists_const, Bool.true_eq_false, Bool.false_eq_true, if_true, if_false, ite_true, ite_false, decide_eq_true_eq]
  refine take_in (by decide) (by decide) s1 fun z h2 z0 z1 s2 f2 => ?_
  simp only [rSeq, rCut, rAnd, rOr, rNot, rB, rOp, rDG, rDG2, rDIn, rVar, rC, DX.rEqD, DX.rNeD, rLstF, rLstM, rNil, rCons, rTup, rDP, DX.rLP, rRepL', rRepr, rNeg, rEnum, rDictZip, DX.rSortedSet, rBM, rPop0, DX.rAppend, rIf, rAsg, gN, gT, gsC, gs0, rRet, rDrop, DX.rI, rNext, rCont, rBreak, rCB, DX.rLen, rTuple, rTupleN, rTIdx, rList, rAbs, rMax2, rMin2, rIntB, rStrI, DX.rIsi, rIsN, rNotN, DX.rIx, rFrz, rNotV, rAndV, rOrV, rIfE, rSl, rSlT', rSlL', rPt, rNoP, rCatT', rCatL', newL, rCatS, rInD', rIndex', rCall, rSq, rRg1, rRg2, rChain, rYes, rNewK, rNewT, Tg.d, tgsD, wipeD, startD, and_assoc, exists_and_left, exists_and_right, resD_int, resD_str, resD_bl, resD_non, resD_tup, resD_lst, resD_ktup, dat_int, dat_str, dat_bl, dat_non, dat_nil, eqv_int, eqv_str, eqv_nil, eqv_tnil, seqD_tup, seqD_lst, seqD_ktup, seqD_klst, resD_klst, seqL_lst, isN_non, isN_int, isN_str, isN_bl, isN_tup, isN_lst, isN_ref, Bool.not_eq_true', Bool.not_eq_true, decide_eq_false_iff_not, Nat.zero_le, List.map, List.length, List.replicate, List.cons_append, List.nil_append, List.getElem?_cons_zero, List.getElem?_cons_succ, List.set_cons_zero, List.set_cons_succ, Nat.sub_self, Nat.reduceAdd, Nat.reduceSub, Option.some.injEq, D.int.injEq, D.ref.injEq, D.bl.injEq, D.str.injEq, D.tup.injEq, D.lst.injEq, List.cons.injEq, and_true, true_and, exists_eq_left, exists_eq_left', exists_eq', exists_eq_right, exists_const, Bool.true_eq_false, Bool.false_eq_true, if_true, if_false, ite_true, ite_false, decide_eq_true_eq]
  refine take_in (by decide) (by decide) s2 fun y h3 y0 y1 s3 f3 => ⟨y, rfl, ?_⟩
  have w6 := ow.1
  rw [cutM ws _ (by omega)]
  obtain ⟨names, en⟩ : ∃ names, names = ws.take (max (xs.length : Int) (1 + z)).toNat := ⟨_, rfl⟩
  rw [← en]
  obtain ⟨many, em⟩ := Int.eq_ofNat_of_zero_le (show 0 ≤ 1 + y by omega)
  have m1 : 1 ≤ many := by omega
  have m7 : many ≤ 7 := by omega
  rw [em]
  have nl : names.length ≤ 6 ∧ 1 ≤ names.length ∧ xs.length ≤ names.length := by
    rw [en, List.length_take, w6]
    omega
  have nm : namesOk names := ⟨fun e => by rw [e] at nl; simp at nl, nl.1⟩
  have n1000 : (sL names).length ≤ 1000 := by unfold sL; rw [List.length_map]; omega
  have psn : ∀ x ∈ ws.take xs.length, x ∈ names := fun x hx => by
    rw [en]
    have : (ws.take xs.length) = ((ws.take (max (xs.length : Int) (1 + z)).toNat).take xs.length) := by rw [List.take_take, Nat.min_eq_left (by omega)]
    rw [this] at hx
    exact List.mem_of_mem_take hx
  have f03 := (f1.trans f2).trans f3
  refine lc_draw (S := S) (g := g) (rgD 0 (many - 1)) (fun _ => True) (fun _ d => ∃ r : Rw, d = r.d ∧ r.isCall = false ∧ ∀ A, r.ok names top many A) s3 (fun R r => ?_) (by rw [rgD_len]; omega) (fun _ _ => trivial) (fun i x C acc h' P1 hx hC c1 s' f' k1 => ?_) fun rs0 h4 l4 r4 s4 f4 => ?_
  · simp only [rSeq, rCut, rAnd, rOr, rNot, rB, rOp, rDG, rDG2, rDIn, rVar, rC, DX.rEqD, DX.rNeD, rLstF, rLstM, rNil, rCons, rTup, rDP, DX.rLP, rRepL', rRepr, rNeg, rEnum, rDictZip, DX.rSortedSet, rBM, rPop0, DX.rAppend, rIf, rAsg, gN, gT, gsC, gs0, rRet, rDrop, DX.rI, rNext, rCont, rBreak, rCB, DX.rLen, rTuple, rTupleN, rTIdx, rList, rAbs, rMax2, rMin2, rIntB, rStrI, DX.rIsi, rIsN, rNotN, DX.rIx, rFrz, rNotV, rAndV, rOrV, rIfE, rSl, rSlT', rSlL', rPt, rNoP, rCatT', rCatL', newL, rCatS, rInD', rIndex', rCall, rSq, rRg1, rRg2, rChain, rYes, rNewK, rNewT, Tg.d, tgsD, wipeD, startD, and_assoc, exists_and_left, exists_and_right, resD_int, resD_str, resD_bl, resD_non, resD_tup, resD_lst, resD_ktup, dat_int, dat_str, dat_bl, dat_non, dat_nil, eqv_int, eqv_str, eqv_nil, eqv_tnil, seqD_tup, seqD_lst, seqD_ktup, seqD_klst, resD_klst, seqL_lst, isN_non, isN_int, isN_str, isN_bl, isN_tup, isN_lst, isN_ref, Bool.not_eq_true', Bool.not_eq_true, decide_eq_false_iff_not, Nat.zero_le, List.map, List.length, List.replicate, List.cons_append, List.nil_append, List.getElem?_cons_zero, List.getElem?_cons_succ, List.set_cons_zero, List.set_cons_succ, Nat.sub_self, Nat.reduceAdd, Nat.reduceSub, Option.some.injEq, D.int.injEq, D.ref.injEq, D.bl.injEq, D.str.injEq, D.tup.injEq, D.lst.injEq, List.cons.injEq, and_true, true_and, exists_eq_left, exists_eq_left', exists_eq', exists_eq_right, exists_const, Bool.true_eq_false, Bool.false_eq_true, if_true, if_false, ite_true, ite_false, decide_eq_true_eq]
    refine ⟨by omega, by omega, ?_⟩
    have e : ((many : Int) - 1).toNat = many - 1 := by omega
    rw [e]
    exact r
  · obtain ⟨ix, rfl⟩ := rgD_get hx
    simp only [rSeq, rCut, rAnd, rOr, rNot, rB, rOp, rDG, rDG2, rDIn, rVar, rC, DX.rEqD, DX.rNeD, rLstF, rLstM, rNil, rCons, rTup, rDP, DX.rLP, rRepL', rRepr, rNeg, rEnum, rDictZip, DX.rSortedSet, rBM, rPop0, DX.rAppend, rIf, rAsg, gN, gT, gsC, gs0, rRet, rDrop, DX.rI, rNext, rCont, rBreak, rCB, DX.rLen, rTuple, rTupleN, rTIdx, rList, rAbs, rMax2, rMin2, rIntB, rStrI, DX.rIsi, rIsN, rNotN, DX.rIx, rFrz, rNotV, rAndV, rOrV, rIfE, rSl, rSlT', rSlL', rPt, rNoP, rCatT', rCatL', newL, rCatS, rInD', rIndex', rCall, rSq, rRg1, rRg2, rChain, rYes, rNewK, rNewT, Tg.d, tgsD, wipeD, startD, and_assoc, exists_and_left, exists_and_right, resD_int, resD_str, resD_bl, resD_non, resD_tup, resD_lst, resD_ktup, dat_int, dat_str, dat_bl, dat_non, dat_nil, eqv_int, eqv_str, eqv_nil, eqv_tnil, seqD_tup, seqD_lst, seqD_ktup, seqD_klst, resD_klst, seqL_lst, isN_non, isN_int, isN_str, isN_bl, isN_tup, isN_lst, isN_ref, Bool.not_eq_true', Bool.not_eq_true, decide_eq_false_iff_not, Nat.zero_le, List.map, List.length, List.replicate, List.cons_append, List.nil_append, List.getElem?_cons_zero, List.getElem?_cons_succ, List.set_cons_zero, List.set_cons_succ, Nat.sub_self, Nat.reduceAdd, Nat.reduceSub, Option.some.injEq, D.int.injEq, D.ref.injEq, D.bl.injEq, D.str.injEq, D.tup.injEq, D.lst.injEq, List.cons.injEq, and_true, true_and, exists_eq_left, exists_eq_left', exists_eq', exists_eq_right, exists_const, Bool.true_eq_false, Bool.false_eq_true, if_true, if_false, ite_true, ite_false, decide_eq_true_eq, Int.zero_add]
    exact ⟨by decide, S, g, top, names, _, i, many, rfl, t0, nm, by omega, m7, s', fun d h2 ⟨r, e, c, o⟩ s f => k1 d h2 ⟨r, e, c, o⟩ s f⟩
  · rw [if_neg Bool.false_ne_true]
    intro C hC c4
    obtain ⟨cS, cg⟩ := s3.fresh hC
    have hC0 := fresh_of s3 f03 hC
    obtain ⟨rs, rfl, gr⟩ := each_d r4
    rw [List.length_map, rgD_len] at l4
    have dA : D.dat 64 (D.lst (aheadD A)) = true := dats_of fun d hd => by
      obtain ⟨p, _, rfl⟩ := List.mem_map.mp hd
      rfl
    refine ⟨dA, HM S g C top name xs A ws names many h3, ?_, ?_⟩
    · have base : HM S g C top name xs A ws names many h3 [some (D.ref S), some (D.int top), some (D.str name), some (D.lst xs), some (D.lst (aheadD A)), some (D.lst (sL ws)), some (D.lst (sL names)), some (D.int (many : Nat)), some (D.ref C), none, none, none] h4 := ⟨rs, none, none, none, rfl, c4, l4, fun r hr => (gr r hr).2 A, s4, f4⟩
      split
      · rename_i hne
        split
        · rename_i h1m
          simp only [rFor, rSeq, rCut, rAnd, rOr, rNot, rB, rOp, rDG, rDG2, rDIn, rVar, rC, DX.rEqD, DX.rNeD, rLstF, rLstM, rNil, rCons, rTup, rDP, DX.rLP, rRepL', rRepr, rNeg, rEnum, rDictZip, DX.rSortedSet, rBM, rPop0, DX.rAppend, rIf, rAsg, gN, gT, gsC, gs0, rRet, rDrop, DX.rI, rNext, rCont, rBreak, rCB, DX.rLen, rTuple, rTupleN, rTIdx, rList, rAbs, rMax2, rMin2, rIntB, rStrI, DX.rIsi, rIsN, rNotN, DX.rIx, rFrz, rNotV, rAndV, rOrV, rIfE, rSl, rSlT', rSlL', rPt, rNoP, rCatT', rCatL', newL, rCatS, rInD', rIndex', rCall, rSq, rRg1, rRg2, rChain, rYes, rNewK, rNewT, Tg.d, tgsD, wipeD, startD, and_assoc, exists_and_left, exists_and_right, resD_int, resD_str, resD_bl, resD_non, resD_tup, resD_lst, resD_ktup, dat_int, dat_str, dat_bl, dat_non, dat_nil, eqv_int, eqv_str, eqv_nil, eqv_tnil, seqD_tup, seqD_lst, seqD_ktup, seqD_klst, resD_klst, seqL_lst, isN_non, isN_int, isN_str, isN_bl, isN_tup, isN_lst, isN_ref, Bool.not_eq_true', Bool.not_eq_true, decide_eq_false_iff_not, Nat.zero_le, List.map, List.length, List.replicate, List.cons_append, List.nil_append, List.getElem?_cons_zero, List.getElem?_cons_succ, List.set_cons_zero, List.set_cons_succ, Nat.sub_self, Nat.reduceAdd, Nat.reduceSub, Option.some.injEq, D.int.injEq, D.ref.injEq, D.bl.injEq, D.str.injEq, D.tup.injEq, D.lst.injEq, List.cons.injEq, and_true, true_and, exists_eq_left, exists_eq_left', exists_eq', exists_eq_right, exists_const, Bool.true_eq_false, Bool.false_eq_true, if_true, if_false, ite_true, ite_false, decide_eq_true_eq]
          refine take_in (by decide) (by decide) s4 fun n h5 n0 n1 s5 f5 => ⟨n, rfl, by omega, by omega, ?_⟩
          refine ⟨fun _ => HM S g C top name xs A ws names many h3, ⟨rs, none, none, none, rfl, f5 C _ cS cg c4, l4, fun r hr => (gr r hr).2 A, s5, f4.trans f5⟩, ?_, fun ρ h q => q⟩
          rintro i x ρ h6 hx ⟨rs6, a, b, c, rfl, c6, l6, g6, s6, f6⟩
          simp only [rSeq, rCut, rAnd, rOr, rNot, rB, rOp, rDG, rDG2, rDIn, rVar, rC, DX.rEqD, DX.rNeD, rLstF, rLstM, rNil, rCons, rTup, rDP, DX.rLP, rRepL', rRepr, rNeg, rEnum, rDictZip, DX.rSortedSet, rBM, rPop0, DX.rAppend, rIf, rAsg, gN, gT, gsC, gs0, rRet, rDrop, DX.rI, rNext, rCont, rBreak, rCB, DX.rLen, rTuple, rTupleN, rTIdx, rList, rAbs, rMax2, rMin2, rIntB, rStrI, DX.rIsi, rIsN, rNotN, DX.rIx, rFrz, rNotV, rAndV, rOrV, rIfE, rSl, rSlT', rSlL', rPt, rNoP, rCatT', rCatL', newL, rCatS, rInD', rIndex', rCall, rSq, rRg1, rRg2, rChain, rYes, rNewK, rNewT, Tg.d, tgsD, wipeD, startD, and_assoc, exists_and_left, exists_and_right, resD_int, resD_str, resD_bl, resD_non, resD_tup, resD_lst, resD_ktup, dat_int, dat_str, dat_bl, dat_non, dat_nil, eqv_int, eqv_str, eqv_nil, eqv_tnil, seqD_tup, seqD_lst, seqD_ktup, seqD_klst, resD_klst, seqL_lst, isN_non, isN_int, isN_str, isN_bl, isN_tup, isN_lst, isN_ref, Bool.not_eq_true', Bool.not_eq_true, decide_eq_false_iff_not, Nat.zero_le, List.map, List.length, List.replicate, List.cons_append, List.nil_append, List.getElem?_cons_zero, List.getElem?_cons_succ, List.set_cons_zero, List.set_cons_succ, Nat.sub_self, Nat.reduceAdd, Nat.reduceSub, Option.some.injEq, D.int.injEq, D.ref.injEq, D.bl.injEq, D.str.injEq, D.tup.injEq, D.lst.injEq, List.cons.injEq, and_true, true_and, exists_eq_left, exists_eq_left', exists_eq', exists_eq_right, exists_const, Bool.true_eq_false, Bool.false_eq_true, if_true, if_false, ite_true, ite_false, decide_eq_true_eq]
          refine ⟨S, g, top, names, A, rfl, t0, nm, ao, fun e => by rw [e] at hne; simp [aheadD] at hne, s6, fun d h7 ⟨r, e, ic, ro⟩ s7 f7 => ?_⟩
          subst e
          refine take_in (by omega) (by omega) s7 fun j h8 j0 j1 s8 f8 => ⟨j, rfl, rs6.map Rw.d, f8 C _ cS cg (f7 C _ cS cg c6), j.toNat, ?_, ?_⟩
          · rw [List.length_map]
            exact ixN_lt j0 (by omega)
          · refine ⟨rs6.set j.toNat r, _, _, _, rfl, by rw [List.map_set]; exact updD_same, by rw [List.length_set]; exact l6, fun q hq => ?_, s8.upd cS cg, ((f6.trans f7).trans f8).upd hC⟩
            rcases List.mem_or_eq_of_mem_set hq with z | z
            · exact g6 q z
            · rw [z]; exact ro many
        · exact base
      · exact base
    · rintro ρ h6 ⟨rs6, a, b, c, rfl, c6, l6, g6, s6, f6⟩
      simp only [rSeq, rCut, rAnd, rOr, rNot, rB, rOp, rDG, rDG2, rDIn, rVar, rC, DX.rEqD, DX.rNeD, rLstF, rLstM, rNil, rCons, rTup, rDP, DX.rLP, rRepL', rRepr, rNeg, rEnum, rDictZip, DX.rSortedSet, rBM, rPop0, DX.rAppend, rIf, rAsg, gN, gT, gsC, gs0, rRet, rDrop, DX.rI, rNext, rCont, rBreak, rCB, DX.rLen, rTuple, rTupleN, rTIdx, rList, rAbs, rMax2, rMin2, rIntB, rStrI, DX.rIsi, rIsN, rNotN, DX.rIx, rFrz, rNotV, rAndV, rOrV, rIfE, rSl, rSlT', rSlL', rPt, rNoP, rCatT', rCatL', newL, rCatS, rInD', rIndex', rCall, rSq, rRg1, rRg2, rChain, rYes, rNewK, rNewT, Tg.d, tgsD, wipeD, startD, and_assoc, exists_and_left, exists_and_right, resD_int, resD_str, resD_bl, resD_non, resD_tup, resD_lst, resD_ktup, dat_int, dat_str, dat_bl, dat_non, dat_nil, eqv_int, eqv_str, eqv_nil, eqv_tnil, seqD_tup, seqD_lst, seqD_ktup, seqD_klst, resD_klst, seqL_lst, isN_non, isN_int, isN_str, isN_bl, isN_tup, isN_lst, isN_ref, Bool.not_eq_true', Bool.not_eq_true, decide_eq_false_iff_not, Nat.zero_le, List.map, List.length, List.replicate, List.cons_append, List.nil_append, List.getElem?_cons_zero, List.getElem?_cons_succ, List.set_cons_zero, List.set_cons_succ, Nat.sub_self, Nat.reduceAdd, Nat.reduceSub, Option.some.injEq, D.int.injEq, D.ref.injEq, D.bl.injEq, D.str.injEq, D.tup.injEq, D.lst.injEq, List.cons.injEq, and_true, true_and, exists_eq_left, exists_eq_left', exists_eq', exists_eq_right, exists_const, Bool.true_eq_false, Bool.false_eq_true, if_true, if_false, ite_true, ite_false, decide_eq_true_eq]
      refine rk_in (k := 1) (by decide) t0 nm s6 fun t h7 tg s7 f7 => ⟨by decide, ?_⟩
      have c7 := f7 C _ cS cg c6
      refine ⟨isLst_ref c7, take_in (by decide) (by decide) s7 fun q h8 q0 q1 s8 f8 => ⟨q, rfl, ?_⟩⟩
      have c8 := f8 C _ cS cg c7
      have f08 := ((f03.trans f6).trans f7).trans f8
      have len6 : (rs6.map Rw.d).length < sizeLine := by rw [List.length_map, l6, sizeLine_eq]; omega
      have fin : ∀ (last : Rw) (h9 : DHp), last.isCall = false → last.ok names top many A → h9 C = some (.lst (rs6.map Rw.d)) → St h9 S g → Fr S g h h9 →
          Q (D.tup [D.str name, D.ktup (DX.cutD (sL ws) none (some (xs.length : Int))), D.tup (rs6.map Rw.d ++ [last.d])]) (updD h9 C (.lst (rs6.map Rw.d ++ [last.d]))) := fun last h9 lc lo c9 s9 f9 => by
        refine k _ _ ⟨⟨name, ws.take xs.length, rs6 ++ [last]⟩, names, ?_, rfl, ?_, ?_⟩ (s9.upd cS cg) (f9.upd hC0)
        · rw [cutM ws _ (Int.natCast_nonneg _), Int.toNat_natCast]
          simp only [Hlp.d, List.map_append, List.map_cons, List.map_nil]
        · rw [List.length_take]; omega
        · have nd : (ws.take xs.length).Nodup := List.Nodup.sublist (List.take_sublist _ _) ow.2
          have ml : (rs6 ++ [last]).length = many := by rw [List.length_append, l6]; simp; omega
          refine ⟨nl.1, by rw [List.length_take]; omega, psn, nd, by rw [ml]; exact m1, by rw [ml]; exact m7, fun i r hr => ?_⟩
          rw [ml]
          rcases Nat.lt_or_ge i rs6.length with z | z
          · rw [List.getElem?_append_left z] at hr
            exact ⟨g6 r (List.mem_of_getElem? hr), fun _ => by omega⟩
          · rw [List.getElem?_append_right z] at hr
            have e0 : i - rs6.length = 0 := by
              cases q : i - rs6.length with
              | zero => rfl
              | succ j => rw [q] at hr; simp at hr
            rw [e0] at hr
            cases hr
            exact ⟨lo, fun z => by rw [lc] at z; cases z⟩
      split
      · exact ⟨_, c8, len6, _, seqD_ref updD_same, by decide, fin (.give t) h8 rfl tg c8 s8 f08⟩
      · refine take_in (by omega) (by omega) s8 fun u h9 u0 u1 s9 f9 => ⟨by decide, ?_⟩
        exact ⟨_, f9 C _ cS cg c8, len6, _, seqD_ref updD_same, by decide, fin (.go u) h9 rfl ⟨u0, u1⟩ (f9 C _ cS cg c8) s9 (f08.trans f9)⟩
structure PI (ws : List String) (top : Int) (hs : List Hlp) : Prop where
  nm : hs.map Hlp.name = ws.take hs.length
  hp : ∀ (k : Nat) (q : Hlp), hs[k]? = some q → ∃ names : List String, q.ok names top (aheadOf (hs.take k))
theorem PI.add {ws : List String} {top : Int} {hs : List Hlp} {q : Hlp} {names : List String} (I : PI ws top hs) (ok : q.ok names top (aheadOf hs)) (e : ws[hs.length]? = some q.name) : PI ws top (hs ++ [q]) := by
  refine ⟨?_, fun k r hr => ?_⟩
  · rw [List.map_append, I.nm, List.length_append, List.length_singleton, List.take_add_one, e]; rfl
  · rcases Nat.lt_trichotomy k hs.length with z | z | z
    · rw [List.getElem?_append_left z] at hr
      rw [List.take_append_of_le_length (Nat.le_of_lt z)]
      exact I.hp k r hr
    · subst z
      rw [List.getElem?_append_right (Nat.le_refl _), Nat.sub_self] at hr
      cases hr
      rw [List.take_left]
      exact ⟨names, ok⟩
    · rw [List.getElem?_eq_none (by rw [List.length_append, List.length_singleton]; omega)] at hr; cases hr
theorem PI.ahead {ws : List String} {top : Int} {hs : List Hlp} (I : PI ws top hs) (l : hs.length ≤ 2) : aheadOk (aheadOf hs) := by
  refine ⟨by unfold aheadOf; rw [List.length_map]; exact l, fun p hp => ?_⟩
  obtain ⟨q, hq, rfl⟩ := List.mem_map.mp hp
  obtain ⟨k, hk⟩ := List.getElem?_of_mem hq
  obtain ⟨names, ok⟩ := I.hp k q hk
  exact ok.ps
def PM (S g p : Addr) (top : Int) (ws : List String) (h0 : DHp) (P : Nat → Prop) (ρ : DSt) (h : DHp) : Prop :=
  ∃ (hs : List Hlp) (a b : Option D), ρ = [some (D.ref S), some (D.int top), some (D.lst (sL ws)), some (D.ref p), some (D.lst (aheadD (aheadOf hs))), a, b] ∧ h p = some (.lst (hs.map Hlp.d)) ∧ P hs.length ∧ PI ws top hs ∧ St h S g ∧ Fr S g h0 h
theorem sL_at {ws : List String} {i : Nat} (hi : i < ws.length) : ∃ x, ws[i]? = some x ∧ atI (sL ws) (i : Nat) = some (.str x) := by
  refine ⟨ws[i], List.getElem?_eq_getElem hi, atI_nat ?_⟩
  unfold sL
  rw [List.getElem?_map, List.getElem?_eq_getElem hi]; rfl
theorem flat_rep {α : Type} (x : α) : ∀ n : Nat, (List.replicate n [x]).flatten.length = n
  | 0 => rfl
  | n + 1 => by rw [List.replicate_succ, List.flatten_cons, List.length_append, flat_rep x n]; simp; omega
theorem program_ok (ds : List D) (h : DHp) (Q : DQ) (hl : ds.length = 1) (hs : sp_program ds h Q (fun _ _ => False)) : rd_program (EN Q) (startD N_program ds) h := by
  obtain ⟨S, g, e, st, k⟩ := hs
  subst e
  simp only [rd_program, N_program, rSeq, rCut, rAnd, rOr, rNot, rB, rOp, rDG, rDG2, rDIn, rVar, rC, DX.rEqD, DX.rNeD, rLstF, rLstM, rNil, rCons, rTup, rDP, DX.rLP, rRepL', rRepr, rNeg, rEnum, rDictZip, DX.rSortedSet, rBM, rPop0, DX.rAppend, rIf, rAsg, gN, gT, gsC, gs0, rRet, rDrop, DX.rI, rNext, rCont, rBreak, rCB, DX.rLen, rTuple, rTupleN, rTIdx, rList, rAbs, rMax2, rMin2, rIntB, rStrI, DX.rIsi, rIsN, rNotN, DX.rIx, rFrz, rNotV, rAndV, rOrV, rIfE, rSl, rSlT', rSlL', rPt, rNoP, rCatT', rCatL', newL, rCatS, rInD', rIndex', rCall, rSq, rRg1, rRg2, rChain, rYes, rNewK, rNewT, Tg.d, tgsD, wipeD, startD, and_assoc, exists_and_left, exists_and_right, resD_int, resD_str, resD_bl, resD_non, resD_tup, resD_lst, resD_ktup, dat_int, dat_str, dat_bl, dat_non, dat_nil, eqv_int, eqv_str, eqv_nil, eqv_tnil, seqD_tup, seqD_lst, seqD_ktup, seqD_klst, resD_klst, seqL_lst, isN_non, isN_int, isN_str, isN_bl, isN_tup, isN_lst, isN_ref, Bool.not_eq_true', Bool.not_eq_true, decide_eq_false_iff_not, Nat.zero_le, List.map, List.length, List.replicate, List.cons_append, List.nil_append, List.getElem?_cons_zero, List.getElem?_cons_succ, List.set_cons_zero, List.set_cons_succ, Nat.sub_self, Nat.reduceAdd, Nat.reduceSub, Option.some.injEq, D.int.injEq, D.ref.injEq, D.bl.injEq, D.str.injEq, D.tup.injEq, D.lst.injEq, List.cons.injEq, and_true, true_and, exists_eq_left, exists_eq_left', exists_eq', exists_eq_right, exists_const, Bool.true_eq_false, Bool.false_eq_true, if_true, if_false, ite_true, ite_false, decide_eq_true_eq]
  refine ⟨S, g, rfl, st, fun d h1 ⟨top, e, t0⟩ s1 f1 => ?_⟩
  subst e
  refine words_in s1 fun ws h2 ow s2 f2 p np => ?_
  obtain ⟨pS, pg⟩ := s2.fresh np
  have f02 := f1.trans f2
  have np0 := fresh_of s2 f02 np
  have w6 := ow.1
  refine ⟨PM S g p top ws h2 (fun n => n ≤ 2), ?_, ?_⟩
  · simp only [rFor, rSeq, rCut, rAnd, rOr, rNot, rB, rOp, rDG, rDG2, rDIn, rVar, rC, DX.rEqD, DX.rNeD, rLstF, rLstM, rNil, rCons, rTup, rDP, DX.rLP, rRepL', rRepr, rNeg, rEnum, rDictZip, DX.rSortedSet, rBM, rPop0, DX.rAppend, rIf, rAsg, gN, gT, gsC, gs0, rRet, rDrop, DX.rI, rNext, rCont, rBreak, rCB, DX.rLen, rTuple, rTupleN, rTIdx, rList, rAbs, rMax2, rMin2, rIntB, rStrI, DX.rIsi, rIsN, rNotN, DX.rIx, rFrz, rNotV, rAndV, rOrV, rIfE, rSl, rSlT', rSlL', rPt, rNoP, rCatT', rCatL', newL, rCatS, rInD', rIndex', rCall, rSq, rRg1, rRg2, rChain, rYes, rNewK, rNewT, Tg.d, tgsD, wipeD, startD, and_assoc, exists_and_left, exists_and_right, resD_int, resD_str, resD_bl, resD_non, resD_tup, resD_lst, resD_ktup, dat_int, dat_str, dat_bl, dat_non, dat_nil, eqv_int, eqv_str, eqv_nil, eqv_tnil, seqD_tup, seqD_lst, seqD_ktup, seqD_klst, resD_klst, seqL_lst, isN_non, isN_int, isN_str, isN_bl, isN_tup, isN_lst, isN_ref, Bool.not_eq_true', Bool.not_eq_true, decide_eq_false_iff_not, Nat.zero_le, List.map, List.length, List.replicate, List.cons_append, List.nil_append, List.getElem?_cons_zero, List.getElem?_cons_succ, List.set_cons_zero, List.set_cons_succ, Nat.sub_self, Nat.reduceAdd, Nat.reduceSub, Option.some.injEq, D.int.injEq, D.ref.injEq, D.bl.injEq, D.str.injEq, D.tup.injEq, D.lst.injEq, List.cons.injEq, and_true, true_and, exists_eq_left, exists_eq_left', exists_eq', exists_eq_right, exists_const, Bool.true_eq_false, Bool.false_eq_true, if_true, if_false, ite_true, ite_false, decide_eq_true_eq]
    refine take_in (by decide) (by decide) (s2.upd pS pg) fun n h3 n0 n1 s3 f3 => ⟨n, rfl, by omega, by omega, ?_⟩
    refine ⟨fun i => PM S g p top ws h2 (fun n => n = i), ⟨[], none, none, rfl, f3 p _ pS pg updD_same, rfl, ⟨rfl, fun k q e => by simp at e⟩, s3, fun a c n1 n2 e => f3 a c n1 n2 (FrA.new np a c e)⟩, ?_, ?_⟩
    · rintro i x ρ h4 hx ⟨hs, a, b, rfl, c4, l4, I4, s4, f4⟩
      obtain ⟨ix, rfl⟩ := rgD_get hx
      have i2 : i < 2 := by omega
      simp only [rSeq, rCut, rAnd, rOr, rNot, rB, rOp, rDG, rDG2, rDIn, rVar, rC, DX.rEqD, DX.rNeD, rLstF, rLstM, rNil, rCons, rTup, rDP, DX.rLP, rRepL', rRepr, rNeg, rEnum, rDictZip, DX.rSortedSet, rBM, rPop0, DX.rAppend, rIf, rAsg, gN, gT, gsC, gs0, rRet, rDrop, DX.rI, rNext, rCont, rBreak, rCB, DX.rLen, rTuple, rTupleN, rTIdx, rList, rAbs, rMax2, rMin2, rIntB, rStrI, DX.rIsi, rIsN, rNotN, DX.rIx, rFrz, rNotV, rAndV, rOrV, rIfE, rSl, rSlT', rSlL', rPt, rNoP, rCatT', rCatL', newL, rCatS, rInD', rIndex', rCall, rSq, rRg1, rRg2, rChain, rYes, rNewK, rNewT, Tg.d, tgsD, wipeD, startD, and_assoc, exists_and_left, exists_and_right, resD_int, resD_str, resD_bl, resD_non, resD_tup, resD_lst, resD_ktup, dat_int, dat_str, dat_bl, dat_non, dat_nil, eqv_int, eqv_str, eqv_nil, eqv_tnil, seqD_tup, seqD_lst, seqD_ktup, seqD_klst, resD_klst, seqL_lst, isN_non, isN_int, isN_str, isN_bl, isN_tup, isN_lst, isN_ref, Bool.not_eq_true', Bool.not_eq_true, decide_eq_false_iff_not, Nat.zero_le, List.map, List.length, List.replicate, List.cons_append, List.nil_append, List.getElem?_cons_zero, List.getElem?_cons_succ, List.set_cons_zero, List.set_cons_succ, Nat.sub_self, Nat.reduceAdd, Nat.reduceSub, Option.some.injEq, D.int.injEq, D.ref.injEq, D.bl.injEq, D.str.injEq, D.tup.injEq, D.lst.injEq, List.cons.injEq, and_true, true_and, exists_eq_left, exists_eq_left', exists_eq', exists_eq_right, exists_const, Bool.true_eq_false, Bool.false_eq_true, if_true, if_false, ite_true, ite_false, decide_eq_true_eq, Int.zero_add]
      refine take_in (by decide) (by decide) s4 fun m h5 m0 m1 s5 f5 => ?_
      obtain ⟨mn, rfl⟩ := Int.eq_ofNat_of_zero_le m0
      have c5 := f5 p _ pS pg c4
      obtain ⟨nm, en, ea⟩ := sL_at (ws := ws) (i := i) (by omega)
      simp only [rSeq, rCut, rAnd, rOr, rNot, rB, rOp, rDG, rDG2, rDIn, rVar, rC, DX.rEqD, DX.rNeD, rLstF, rLstM, rNil, rCons, rTup, rDP, DX.rLP, rRepL', rRepr, rNeg, rEnum, rDictZip, DX.rSortedSet, rBM, rPop0, DX.rAppend, rIf, rAsg, gN, gT, gsC, gs0, rRet, rDrop, DX.rI, rNext, rCont, rBreak, rCB, DX.rLen, rTuple, rTupleN, rTIdx, rList, rAbs, rMax2, rMin2, rIntB, rStrI, DX.rIsi, rIsN, rNotN, DX.rIx, rFrz, rNotV, rAndV, rOrV, rIfE, rSl, rSlT', rSlL', rPt, rNoP, rCatT', rCatL', newL, rCatS, rInD', rIndex', rCall, rSq, rRg1, rRg2, rChain, rYes, rNewK, rNewT, Tg.d, tgsD, wipeD, startD, and_assoc, exists_and_left, exists_and_right, resD_int, resD_str, resD_bl, resD_non, resD_tup, resD_lst, resD_ktup, dat_int, dat_str, dat_bl, dat_non, dat_nil, eqv_int, eqv_str, eqv_nil, eqv_tnil, seqD_tup, seqD_lst, seqD_ktup, seqD_klst, resD_klst, seqL_lst, isN_non, isN_int, isN_str, isN_bl, isN_tup, isN_lst, isN_ref, Bool.not_eq_true', Bool.not_eq_true, decide_eq_false_iff_not, Nat.zero_le, List.map, List.length, List.replicate, List.cons_append, List.nil_append, List.getElem?_cons_zero, List.getElem?_cons_succ, List.set_cons_zero, List.set_cons_succ, Nat.sub_self, Nat.reduceAdd, Nat.reduceSub, Option.some.injEq, D.int.injEq, D.ref.injEq, D.bl.injEq, D.str.injEq, D.tup.injEq, D.lst.injEq, List.cons.injEq, and_true, true_and, exists_eq_left, exists_eq_left', exists_eq', exists_eq_right, exists_const, Bool.true_eq_false, Bool.false_eq_true, if_true, if_false, ite_true, ite_false, decide_eq_true_eq]
      refine ⟨isLst_ref c5, _, ea, by decide, fun z nz => ?_⟩
      obtain ⟨zS, zg⟩ := s5.fresh nz
      have zp : z ≠ p := fun e => by rw [e, c5] at nz; cases nz
      refine ⟨_, updD_same, by omega, by omega, by simp only [List.length_cons, List.length_nil, Int.toNat_natCast, sizeLine_eq]; omega, ?_⟩
      rw [delD_upd nz]
      have xl : (List.replicate (mn : Int).toNat [D.int 0]).flatten.length = mn := by rw [flat_rep, Int.toNat_natCast]
      refine ⟨S, g, top, nm, _, aheadOf hs, rfl, t0, by rw [xl]; omega, I4.ahead (by omega), s5, fun d h6 ⟨q, names, e, qn, ql, qo⟩ s6 f6 => ?_⟩
      subst e
      have c6 := f6 p _ pS pg c5
      refine ⟨_, c6, by rw [List.length_map, l4, sizeLine_eq]; omega, _, ea, by decide, by decide, ?_, ?_⟩
      · unfold aheadD aheadOf
        rw [List.length_map, List.length_map, sizeLine_eq, l4]
        simp
        omega
      · refine ⟨hs ++ [q], some (D.int (i : Nat)), some (D.int (mn : Nat)), ?_, by rw [List.map_append]; exact updD_same, by rw [List.length_append, l4]; rfl, I4.add qo (by rw [l4, qn]; exact en), s6.upd pS pg, ((f4.trans f5).trans f6).upd np⟩
        have ed : aheadD (aheadOf (hs ++ [q])) = aheadD (aheadOf hs) ++ [D.tup [D.str nm, D.int (mn : Nat)]] := by
          unfold aheadD aheadOf
          rw [List.map_append, List.map_append, List.map_cons, List.map_cons, List.map_nil, List.map_nil, qn, ql, xl]
        rw [ed]
    · rintro ρ h4 ⟨hs, a, b, e, c4, l4, r⟩
      rw [rgD_len] at l4
      exact ⟨hs, a, b, e, c4, by omega, r⟩
  · rintro ρ h3 ⟨hs, a, b, rfl, c3, l3, I3, s3, f3⟩
    simp only [rSeq, rCut, rAnd, rOr, rNot, rB, rOp, rDG, rDG2, rDIn, rVar, rC, DX.rEqD, DX.rNeD, rLstF, rLstM, rNil, rCons, rTup, rDP, DX.rLP, rRepL', rRepr, rNeg, rEnum, rDictZip, DX.rSortedSet, rBM, rPop0, DX.rAppend, rIf, rAsg, gN, gT, gsC, gs0, rRet, rDrop, DX.rI, rNext, rCont, rBreak, rCB, DX.rLen, rTuple, rTupleN, rTIdx, rList, rAbs, rMax2, rMin2, rIntB, rStrI, DX.rIsi, rIsN, rNotN, DX.rIx, rFrz, rNotV, rAndV, rOrV, rIfE, rSl, rSlT', rSlL', rPt, rNoP, rCatT', rCatL', newL, rCatS, rInD', rIndex', rCall, rSq, rRg1, rRg2, rChain, rYes, rNewK, rNewT, Tg.d, tgsD, wipeD, startD, and_assoc, exists_and_left, exists_and_right, resD_int, resD_str, resD_bl, resD_non, resD_tup, resD_lst, resD_ktup, dat_int, dat_str, dat_bl, dat_non, dat_nil, eqv_int, eqv_str, eqv_nil, eqv_tnil, seqD_tup, seqD_lst, seqD_ktup, seqD_klst, resD_klst, seqL_lst, isN_non, isN_int, isN_str, isN_bl, isN_tup, isN_lst, isN_ref, Bool.not_eq_true', Bool.not_eq_true, decide_eq_false_iff_not, Nat.zero_le, List.map, List.length, List.replicate, List.cons_append, List.nil_append, List.getElem?_cons_zero, List.getElem?_cons_succ, List.set_cons_zero, List.set_cons_succ, Nat.sub_self, Nat.reduceAdd, Nat.reduceSub, Option.some.injEq, D.int.injEq, D.ref.injEq, D.bl.injEq, D.str.injEq, D.tup.injEq, D.lst.injEq, List.cons.injEq, and_true, true_and, exists_eq_left, exists_eq_left', exists_eq', exists_eq_right, exists_const, Bool.true_eq_false, Bool.false_eq_true, if_true, if_false, ite_true, ite_false, decide_eq_true_eq]
    obtain ⟨nm, en, ea⟩ := sL_at (ws := ws) (i := hs.length) (by omega)
    refine ⟨isLst_ref c3, _, seqD_ref c3, _, by rw [List.length_map]; exact ea, S, g, top, nm, [], aheadOf hs, rfl, t0, by decide, I3.ahead l3, s3, fun d h4 ⟨q, names, e, qn, ql, qo⟩ s4 f4 => ?_⟩
    subst e
    have c4 := f4 p _ pS pg c3
    refine ⟨_, c4, by rw [List.length_map, sizeLine_eq]; omega, _, seqD_ref updD_same, by decide, ?_⟩
    have I4 := I3.add qo (by rw [qn]; exact en)
    refine k _ _ ⟨top, hs ++ [q], by unfold progD; rw [List.map_append]; rfl, ?_⟩ (s4.upd pS pg) (((f02.trans f3).trans f4).upd np0)
    refine ⟨t0, by rw [List.length_append]; simp, by rw [List.length_append]; simp; omega, by rw [I4.nm]; exact ow.2.sublist (List.take_sublist _ _), I4.hp⟩
end K26

set_option maxRecDepth 100000
set_option maxHeartbeats 4000000
namespace K26
open PySem PySem.Spec PyProof.Rows L2 DX
theorem TabOk.look {h : DHp} {T : Addr} {f : String → Int} {xs : List String} (tb : TabOk h T f xs) {x : String} (hx : x ∈ xs) : lookD h T (.str x) = some (some (.int (f x))) := by
  obtain ⟨t, e, q⟩ := tb
  unfold lookD
  rw [e]
  exact congrArg some (q x hx)
theorem TabOk.sub {h : DHp} {T : Addr} {f : String → Int} {xs ys : List String} (tb : TabOk h T f xs) (s : ∀ x ∈ ys, x ∈ xs) : TabOk h T f ys := by
  obtain ⟨t, e, q⟩ := tb
  exact ⟨t, e, fun x hx => q x (s x hx)⟩
theorem opsW_ne {w : String} (h : w ∈ opsW) : w ≠ "number" ∧ w ≠ "at" := by
  simp only [opsW, List.mem_cons, List.not_mem_nil, or_false] at h
  rcases h with e | e | e | e | e <;> (subst e; decide)
theorem put_ok (n : Nat) (ds : List D) (h : DHp) (Q : DQ) (hl : ds.length = 2) (hs : spPut (n + 1) ds h Q (fun _ _ => False)) : rd_put (spPut n) (EN Q) (startD N_put ds) h := by
  obtain ⟨t, names, top, T, f, e, tn, tk, tb, k⟩ := hs
  subst e
  cases t with
  | num i =>
    simp only [rd_put, N_put, Tm.d, rSeq, rCut, rAnd, rOr, rNot, rB, rOp, rDG, rDG2, rDIn, rVar, rC, DX.rEqD, DX.rNeD, rLstF, rLstM, rNil, rCons, rTup, rDP, DX.rLP, rRepL', rRepr, rNeg, rEnum, rDictZip, DX.rSortedSet, rBM, rPop0, DX.rAppend, rIf, rAsg, gN, gT, gsC, gs0, rRet, rDrop, DX.rI, rNext, rCont, rBreak, rCB, DX.rLen, rTuple, rTupleN, rTIdx, rList, rAbs, rMax2, rMin2, rIntB, rStrI, DX.rIsi, rIsN, rNotN, DX.rIx, rFrz, rNotV, rAndV, rOrV, rIfE, rSl, rSlT', rSlL', rPt, rNoP, rCatT', rCatL', newL, rCatS, rInD', rIndex', rCall, rSq, rRg1, rRg2, rChain, rYes, rNewK, rNewT, Tg.d, tgsD, wipeD, startD, and_assoc, atI_0, atI_1, atI_2, atI_3, String.reduceEq, Nat.reduceLeDiff, exists_and_left, exists_and_right, resD_int, resD_str, resD_bl, resD_non, resD_tup, resD_lst, resD_ktup, dat_int, dat_str, dat_bl, dat_non, dat_nil, eqv_int, eqv_str, eqv_nil, eqv_tnil, seqD_tup, seqD_lst, seqD_ktup, seqD_klst, resD_klst, seqL_lst, isN_non, isN_int, isN_str, isN_bl, isN_tup, isN_lst, isN_ref, Bool.not_eq_true', Bool.not_eq_true, decide_eq_false_iff_not, Nat.zero_le, List.map, List.length, List.replicate, List.cons_append, List.nil_append, List.getElem?_cons_zero, List.getElem?_cons_succ, List.set_cons_zero, List.set_cons_succ, Nat.sub_self, Nat.reduceAdd, Nat.reduceSub, Option.some.injEq, D.int.injEq, D.ref.injEq, D.bl.injEq, D.str.injEq, D.tup.injEq, D.lst.injEq, List.cons.injEq, and_true, true_and, exists_eq_left, exists_eq_left', exists_eq', exists_eq_right, exists_const, Bool.true_eq_false, Bool.false_eq_true, if_true, if_false, ite_true, ite_false, decide_eq_true_eq]
    exact k
  | «at» x =>
    simp only [rd_put, N_put, Tm.d, rSeq, rCut, rAnd, rOr, rNot, rB, rOp, rDG, rDG2, rDIn, rVar, rC, DX.rEqD, DX.rNeD, rLstF, rLstM, rNil, rCons, rTup, rDP, DX.rLP, rRepL', rRepr, rNeg, rEnum, rDictZip, DX.rSortedSet, rBM, rPop0, DX.rAppend, rIf, rAsg, gN, gT, gsC, gs0, rRet, rDrop, DX.rI, rNext, rCont, rBreak, rCB, DX.rLen, rTuple, rTupleN, rTIdx, rList, rAbs, rMax2, rMin2, rIntB, rStrI, DX.rIsi, rIsN, rNotN, DX.rIx, rFrz, rNotV, rAndV, rOrV, rIfE, rSl, rSlT', rSlL', rPt, rNoP, rCatT', rCatL', newL, rCatS, rInD', rIndex', rCall, rSq, rRg1, rRg2, rChain, rYes, rNewK, rNewT, Tg.d, tgsD, wipeD, startD, and_assoc, atI_0, atI_1, atI_2, atI_3, String.reduceEq, Nat.reduceLeDiff, exists_and_left, exists_and_right, resD_int, resD_str, resD_bl, resD_non, resD_tup, resD_lst, resD_ktup, dat_int, dat_str, dat_bl, dat_non, dat_nil, eqv_int, eqv_str, eqv_nil, eqv_tnil, seqD_tup, seqD_lst, seqD_ktup, seqD_klst, resD_klst, seqL_lst, isN_non, isN_int, isN_str, isN_bl, isN_tup, isN_lst, isN_ref, Bool.not_eq_true', Bool.not_eq_true, decide_eq_false_iff_not, Nat.zero_le, List.map, List.length, List.replicate, List.cons_append, List.nil_append, List.getElem?_cons_zero, List.getElem?_cons_succ, List.set_cons_zero, List.set_cons_succ, Nat.sub_self, Nat.reduceAdd, Nat.reduceSub, Option.some.injEq, D.int.injEq, D.ref.injEq, D.bl.injEq, D.str.injEq, D.tup.injEq, D.lst.injEq, List.cons.injEq, and_true, true_and, exists_eq_left, exists_eq_left', exists_eq', exists_eq_right, exists_const, Bool.true_eq_false, Bool.false_eq_true, if_true, if_false, ite_true, ite_false, decide_eq_true_eq, tb.look (show x ∈ [x] from List.mem_singleton.mpr rfl)]
    exact k
  | op w a b =>
    obtain ⟨w1, w2⟩ := opsW_ne tk.1
    simp only [rd_put, N_put, Tm.d, rSeq, rCut, rAnd, rOr, rNot, rB, rOp, rDG, rDG2, rDIn, rVar, rC, DX.rEqD, DX.rNeD, rLstF, rLstM, rNil, rCons, rTup, rDP, DX.rLP, rRepL', rRepr, rNeg, rEnum, rDictZip, DX.rSortedSet, rBM, rPop0, DX.rAppend, rIf, rAsg, gN, gT, gsC, gs0, rRet, rDrop, DX.rI, rNext, rCont, rBreak, rCB, DX.rLen, rTuple, rTupleN, rTIdx, rList, rAbs, rMax2, rMin2, rIntB, rStrI, DX.rIsi, rIsN, rNotN, DX.rIx, rFrz, rNotV, rAndV, rOrV, rIfE, rSl, rSlT', rSlL', rPt, rNoP, rCatT', rCatL', newL, rCatS, rInD', rIndex', rCall, rSq, rRg1, rRg2, rChain, rYes, rNewK, rNewT, Tg.d, tgsD, wipeD, startD, and_assoc, atI_0, atI_1, atI_2, atI_3, String.reduceEq, Nat.reduceLeDiff, exists_and_left, exists_and_right, resD_int, resD_str, resD_bl, resD_non, resD_tup, resD_lst, resD_ktup, dat_int, dat_str, dat_bl, dat_non, dat_nil, eqv_int, eqv_str, eqv_nil, eqv_tnil, seqD_tup, seqD_lst, seqD_ktup, seqD_klst, resD_klst, seqL_lst, isN_non, isN_int, isN_str, isN_bl, isN_tup, isN_lst, isN_ref, Bool.not_eq_true', Bool.not_eq_true, decide_eq_false_iff_not, Nat.zero_le, List.map, List.length, List.replicate, List.cons_append, List.nil_append, List.getElem?_cons_zero, List.getElem?_cons_succ, List.set_cons_zero, List.set_cons_succ, Nat.sub_self, Nat.reduceAdd, Nat.reduceSub, Option.some.injEq, D.int.injEq, D.ref.injEq, D.bl.injEq, D.str.injEq, D.tup.injEq, D.lst.injEq, List.cons.injEq, and_true, true_and, exists_eq_left, exists_eq_left', exists_eq', exists_eq_right, exists_const, Bool.true_eq_false, Bool.false_eq_true, if_true, if_false, ite_true, ite_false, decide_eq_true_eq, w1, w2]
    have tn : max a.dep b.dep + 1 < n + 1 := tn
    refine ⟨a, names, top, T, f, rfl, by omega, tk.2.1, tb.sub fun x hx => List.mem_append_left _ hx, b, names, top, T, f, rfl, by omega, tk.2.2, tb.sub fun x hx => List.mem_append_right _ hx, ?_⟩
    exact k
theorem sL_app (a b : List String) : sL a ++ sL b = sL (a ++ b) := by unfold sL; rw [List.map_append]
theorem cells_len {names : List String} {top : Int} : ∀ (t : Tm), t.cells.length ≤ 2 ^ t.dep
  | .num _ => by simp [Tm.cells]
  | .at x => by simp [Tm.cells, Tm.dep]
  | .op w a b => by
    have h1 := cells_len (names := names) (top := top) a
    have h2 := cells_len (names := names) (top := top) b
    have e1 : 2 ^ a.dep ≤ 2 ^ max a.dep b.dep := Nat.pow_le_pow_right (by decide) (Nat.le_max_left _ _)
    have e2 : 2 ^ b.dep ≤ 2 ^ max a.dep b.dep := Nat.pow_le_pow_right (by decide) (Nat.le_max_right _ _)
    show (a.cells ++ b.cells).length ≤ 2 ^ (max a.dep b.dep + 1)
    rw [List.length_append, Nat.pow_succ]
    omega
theorem cells_ok (n : Nat) (n3 : n ≤ 3) (ds : List D) (h : DHp) (Q : DQ) (hl : ds.length = 1) (hs : spCells (n + 1) ds h Q (fun _ _ => False)) : rd_cells (spCells n) (EN Q) (startD N_cells ds) h := by
  obtain ⟨t, names, top, e, tn, tk, k⟩ := hs
  subst e
  cases t with
  | num i =>
    simp only [rd_cells, N_cells, Tm.d, rSeq, rCut, rAnd, rOr, rNot, rB, rOp, rDG, rDG2, rDIn, rVar, rC, DX.rEqD, DX.rNeD, rLstF, rLstM, rNil, rCons, rTup, rDP, DX.rLP, rRepL', rRepr, rNeg, rEnum, rDictZip, DX.rSortedSet, rBM, rPop0, DX.rAppend, rIf, rAsg, gN, gT, gsC, gs0, rRet, rDrop, DX.rI, rNext, rCont, rBreak, rCB, DX.rLen, rTuple, rTupleN, rTIdx, rList, rAbs, rMax2, rMin2, rIntB, rStrI, DX.rIsi, rIsN, rNotN, DX.rIx, rFrz, rNotV, rAndV, rOrV, rIfE, rSl, rSlT', rSlL', rPt, rNoP, rCatT', rCatL', newL, rCatS, rInD', rIndex', rCall, rSq, rRg1, rRg2, rChain, rYes, rNewK, rNewT, Tg.d, tgsD, wipeD, startD, and_assoc, atI_0, atI_1, atI_2, atI_3, String.reduceEq, Nat.reduceLeDiff, exists_and_left, exists_and_right, resD_int, resD_str, resD_bl, resD_non, resD_tup, resD_lst, resD_ktup, dat_int, dat_str, dat_bl, dat_non, dat_nil, eqv_int, eqv_str, eqv_nil, eqv_tnil, seqD_tup, seqD_lst, seqD_ktup, seqD_klst, resD_klst, seqL_lst, isN_non, isN_int, isN_str, isN_bl, isN_tup, isN_lst, isN_ref, Bool.not_eq_true', Bool.not_eq_true, decide_eq_false_iff_not, Nat.zero_le, List.map, List.length, List.replicate, List.cons_append, List.nil_append, List.getElem?_cons_zero, List.getElem?_cons_succ, List.set_cons_zero, List.set_cons_succ, Nat.sub_self, Nat.reduceAdd, Nat.reduceSub, Option.some.injEq, D.int.injEq, D.ref.injEq, D.bl.injEq, D.str.injEq, D.tup.injEq, D.lst.injEq, List.cons.injEq, and_true, true_and, exists_eq_left, exists_eq_left', exists_eq', exists_eq_right, exists_const, Bool.true_eq_false, Bool.false_eq_true, if_true, if_false, ite_true, ite_false, decide_eq_true_eq]
    exact k
  | «at» x =>
    simp only [rd_cells, N_cells, Tm.d, rSeq, rCut, rAnd, rOr, rNot, rB, rOp, rDG, rDG2, rDIn, rVar, rC, DX.rEqD, DX.rNeD, rLstF, rLstM, rNil, rCons, rTup, rDP, DX.rLP, rRepL', rRepr, rNeg, rEnum, rDictZip, DX.rSortedSet, rBM, rPop0, DX.rAppend, rIf, rAsg, gN, gT, gsC, gs0, rRet, rDrop, DX.rI, rNext, rCont, rBreak, rCB, DX.rLen, rTuple, rTupleN, rTIdx, rList, rAbs, rMax2, rMin2, rIntB, rStrI, DX.rIsi, rIsN, rNotN, DX.rIx, rFrz, rNotV, rAndV, rOrV, rIfE, rSl, rSlT', rSlL', rPt, rNoP, rCatT', rCatL', newL, rCatS, rInD', rIndex', rCall, rSq, rRg1, rRg2, rChain, rYes, rNewK, rNewT, Tg.d, tgsD, wipeD, startD, and_assoc, atI_0, atI_1, atI_2, atI_3, String.reduceEq, Nat.reduceLeDiff, exists_and_left, exists_and_right, resD_int, resD_str, resD_bl, resD_non, resD_tup, resD_lst, resD_ktup, dat_int, dat_str, dat_bl, dat_non, dat_nil, eqv_int, eqv_str, eqv_nil, eqv_tnil, seqD_tup, seqD_lst, seqD_ktup, seqD_klst, resD_klst, seqL_lst, isN_non, isN_int, isN_str, isN_bl, isN_tup, isN_lst, isN_ref, Bool.not_eq_true', Bool.not_eq_true, decide_eq_false_iff_not, Nat.zero_le, List.map, List.length, List.replicate, List.cons_append, List.nil_append, List.getElem?_cons_zero, List.getElem?_cons_succ, List.set_cons_zero, List.set_cons_succ, Nat.sub_self, Nat.reduceAdd, Nat.reduceSub, Option.some.injEq, D.int.injEq, D.ref.injEq, D.bl.injEq, D.str.injEq, D.tup.injEq, D.lst.injEq, List.cons.injEq, and_true, true_and, exists_eq_left, exists_eq_left', exists_eq', exists_eq_right, exists_const, Bool.true_eq_false, Bool.false_eq_true, if_true, if_false, ite_true, ite_false, decide_eq_true_eq]
    exact k
  | op w a b =>
    obtain ⟨w1, w2⟩ := opsW_ne tk.1
    simp only [rd_cells, N_cells, Tm.d, rSeq, rCut, rAnd, rOr, rNot, rB, rOp, rDG, rDG2, rDIn, rVar, rC, DX.rEqD, DX.rNeD, rLstF, rLstM, rNil, rCons, rTup, rDP, DX.rLP, rRepL', rRepr, rNeg, rEnum, rDictZip, DX.rSortedSet, rBM, rPop0, DX.rAppend, rIf, rAsg, gN, gT, gsC, gs0, rRet, rDrop, DX.rI, rNext, rCont, rBreak, rCB, DX.rLen, rTuple, rTupleN, rTIdx, rList, rAbs, rMax2, rMin2, rIntB, rStrI, DX.rIsi, rIsN, rNotN, DX.rIx, rFrz, rNotV, rAndV, rOrV, rIfE, rSl, rSlT', rSlL', rPt, rNoP, rCatT', rCatL', newL, rCatS, rInD', rIndex', rCall, rSq, rRg1, rRg2, rChain, rYes, rNewK, rNewT, Tg.d, tgsD, wipeD, startD, and_assoc, atI_0, atI_1, atI_2, atI_3, String.reduceEq, Nat.reduceLeDiff, exists_and_left, exists_and_right, resD_int, resD_str, resD_bl, resD_non, resD_tup, resD_lst, resD_ktup, dat_int, dat_str, dat_bl, dat_non, dat_nil, eqv_int, eqv_str, eqv_nil, eqv_tnil, seqD_tup, seqD_lst, seqD_ktup, seqD_klst, resD_klst, seqL_lst, isN_non, isN_int, isN_str, isN_bl, isN_tup, isN_lst, isN_ref, Bool.not_eq_true', Bool.not_eq_true, decide_eq_false_iff_not, Nat.zero_le, List.map, List.length, List.replicate, List.cons_append, List.nil_append, List.getElem?_cons_zero, List.getElem?_cons_succ, List.set_cons_zero, List.set_cons_succ, Nat.sub_self, Nat.reduceAdd, Nat.reduceSub, Option.some.injEq, D.int.injEq, D.ref.injEq, D.bl.injEq, D.str.injEq, D.tup.injEq, D.lst.injEq, List.cons.injEq, and_true, true_and, exists_eq_left, exists_eq_left', exists_eq', exists_eq_right, exists_const, Bool.true_eq_false, Bool.false_eq_true, if_true, if_false, ite_true, ite_false, decide_eq_true_eq, w1, w2]
    have tn : max a.dep b.dep + 1 < n + 1 := tn
    refine ⟨a, names, top, rfl, by omega, tk.2.1, b, names, top, rfl, by omega, tk.2.2, _, rfl, _, rfl, ?_, ?_⟩
    · have h1 := cells_len (names := names) (top := top) a
      have h2 := cells_len (names := names) (top := top) b
      have e1 : 2 ^ a.dep ≤ 2 ^ 3 := Nat.pow_le_pow_right (by decide) (by omega)
      have e2 : 2 ^ b.dep ≤ 2 ^ 3 := Nat.pow_le_pow_right (by decide) (by omega)
      unfold sL
      rw [List.length_map, List.length_map, sizeLine_eq]
      omega
    · rw [sL_app]; exact k
theorem row_on_ok (ds : List D) (h : DHp) (Q : DQ) (hl : ds.length = 3) (hs : sp_row_on ds h Q (fun _ _ => False)) : rd_row_on (EN Q) (startD N_row_on ds) h := by
  obtain ⟨r, names, top, many, A, T, f, path, e, pr, ok, tb, pl, k⟩ := hs
  subst e
  have len : (iL path).length + 1 ≤ sizeLine := by unfold iL; rw [List.length_map, sizeLine_eq]; omega
  have app : ∀ i : Int, iL path ++ [D.int i] = iL (path ++ [i]) := fun i => by unfold iL; rw [List.map_append]; rfl
  cases r with
  | call b nm as => cases pr
  | give t => cases pr
  | set x t =>
    simp only [rd_row_on, N_row_on, Rw.d, pD, rSeq, rCut, rAnd, rOr, rNot, rB, rOp, rDG, rDG2, rDIn, rVar, rC, DX.rEqD, DX.rNeD, rLstF, rLstM, rNil, rCons, rTup, rDP, DX.rLP, rRepL', rRepr, rNeg, rEnum, rDictZip, DX.rSortedSet, rBM, rPop0, DX.rAppend, rIf, rAsg, gN, gT, gsC, gs0, rRet, rDrop, DX.rI, rNext, rCont, rBreak, rCB, DX.rLen, rTuple, rTupleN, rTIdx, rList, rAbs, rMax2, rMin2, rIntB, rStrI, DX.rIsi, rIsN, rNotN, DX.rIx, rFrz, rNotV, rAndV, rOrV, rIfE, rSl, rSlT', rSlL', rPt, rNoP, rCatT', rCatL', newL, rCatS, rInD', rIndex', rCall, rSq, rRg1, rRg2, rChain, rYes, rNewK, rNewT, Tg.d, tgsD, wipeD, startD, and_assoc, atI_0, atI_1, atI_2, atI_3, String.reduceEq, Nat.reduceLeDiff, exists_and_left, exists_and_right, resD_int, resD_str, resD_bl, resD_non, resD_tup, resD_lst, resD_ktup, dat_int, dat_str, dat_bl, dat_non, dat_nil, eqv_int, eqv_str, eqv_nil, eqv_tnil, seqD_tup, seqD_lst, seqD_ktup, seqD_klst, resD_klst, seqL_lst, isN_non, isN_int, isN_str, isN_bl, isN_tup, isN_lst, isN_ref, Bool.not_eq_true', Bool.not_eq_true, decide_eq_false_iff_not, Nat.zero_le, List.map, List.length, List.replicate, List.cons_append, List.nil_append, List.getElem?_cons_zero, List.getElem?_cons_succ, List.set_cons_zero, List.set_cons_succ, Nat.sub_self, Nat.reduceAdd, Nat.reduceSub, Option.some.injEq, D.int.injEq, D.ref.injEq, D.bl.injEq, D.str.injEq, D.tup.injEq, D.lst.injEq, List.cons.injEq, and_true, true_and, exists_eq_left, exists_eq_left', exists_eq', exists_eq_right, exists_const, Bool.true_eq_false, Bool.false_eq_true, if_true, if_false, ite_true, ite_false, decide_eq_true_eq, tb.look (show x ∈ x :: t.cells from List.mem_cons_self)]
    exact ⟨t, names, top, T, f, rfl, by have := ok.2.2; omega, ok.2.1, tb.sub fun y hy => List.mem_cons_of_mem _ hy, k⟩
  | ask x =>
    simp only [rd_row_on, N_row_on, Rw.d, pD, rSeq, rCut, rAnd, rOr, rNot, rB, rOp, rDG, rDG2, rDIn, rVar, rC, DX.rEqD, DX.rNeD, rLstF, rLstM, rNil, rCons, rTup, rDP, DX.rLP, rRepL', rRepr, rNeg, rEnum, rDictZip, DX.rSortedSet, rBM, rPop0, DX.rAppend, rIf, rAsg, gN, gT, gsC, gs0, rRet, rDrop, DX.rI, rNext, rCont, rBreak, rCB, DX.rLen, rTuple, rTupleN, rTIdx, rList, rAbs, rMax2, rMin2, rIntB, rStrI, DX.rIsi, rIsN, rNotN, DX.rIx, rFrz, rNotV, rAndV, rOrV, rIfE, rSl, rSlT', rSlL', rPt, rNoP, rCatT', rCatL', newL, rCatS, rInD', rIndex', rCall, rSq, rRg1, rRg2, rChain, rYes, rNewK, rNewT, Tg.d, tgsD, wipeD, startD, and_assoc, atI_0, atI_1, atI_2, atI_3, String.reduceEq, Nat.reduceLeDiff, exists_and_left, exists_and_right, resD_int, resD_str, resD_bl, resD_non, resD_tup, resD_lst, resD_ktup, dat_int, dat_str, dat_bl, dat_non, dat_nil, eqv_int, eqv_str, eqv_nil, eqv_tnil, seqD_tup, seqD_lst, seqD_ktup, seqD_klst, resD_klst, seqL_lst, isN_non, isN_int, isN_str, isN_bl, isN_tup, isN_lst, isN_ref, Bool.not_eq_true', Bool.not_eq_true, decide_eq_false_iff_not, Nat.zero_le, List.map, List.length, List.replicate, List.cons_append, List.nil_append, List.getElem?_cons_zero, List.getElem?_cons_succ, List.set_cons_zero, List.set_cons_succ, Nat.sub_self, Nat.reduceAdd, Nat.reduceSub, Option.some.injEq, D.int.injEq, D.ref.injEq, D.bl.injEq, D.str.injEq, D.tup.injEq, D.lst.injEq, List.cons.injEq, and_true, true_and, exists_eq_left, exists_eq_left', exists_eq', exists_eq_right, exists_const, Bool.true_eq_false, Bool.false_eq_true, if_true, if_false, ite_true, ite_false, decide_eq_true_eq, tb.look (show x ∈ [x] from List.mem_singleton.mpr rfl)]
    exact k
  | tell t =>
    simp only [rd_row_on, N_row_on, Rw.d, pD, rSeq, rCut, rAnd, rOr, rNot, rB, rOp, rDG, rDG2, rDIn, rVar, rC, DX.rEqD, DX.rNeD, rLstF, rLstM, rNil, rCons, rTup, rDP, DX.rLP, rRepL', rRepr, rNeg, rEnum, rDictZip, DX.rSortedSet, rBM, rPop0, DX.rAppend, rIf, rAsg, gN, gT, gsC, gs0, rRet, rDrop, DX.rI, rNext, rCont, rBreak, rCB, DX.rLen, rTuple, rTupleN, rTIdx, rList, rAbs, rMax2, rMin2, rIntB, rStrI, DX.rIsi, rIsN, rNotN, DX.rIx, rFrz, rNotV, rAndV, rOrV, rIfE, rSl, rSlT', rSlL', rPt, rNoP, rCatT', rCatL', newL, rCatS, rInD', rIndex', rCall, rSq, rRg1, rRg2, rChain, rYes, rNewK, rNewT, Tg.d, tgsD, wipeD, startD, and_assoc, atI_0, atI_1, atI_2, atI_3, String.reduceEq, Nat.reduceLeDiff, exists_and_left, exists_and_right, resD_int, resD_str, resD_bl, resD_non, resD_tup, resD_lst, resD_ktup, dat_int, dat_str, dat_bl, dat_non, dat_nil, eqv_int, eqv_str, eqv_nil, eqv_tnil, seqD_tup, seqD_lst, seqD_ktup, seqD_klst, resD_klst, seqL_lst, isN_non, isN_int, isN_str, isN_bl, isN_tup, isN_lst, isN_ref, Bool.not_eq_true', Bool.not_eq_true, decide_eq_false_iff_not, Nat.zero_le, List.map, List.length, List.replicate, List.cons_append, List.nil_append, List.getElem?_cons_zero, List.getElem?_cons_succ, List.set_cons_zero, List.set_cons_succ, Nat.sub_self, Nat.reduceAdd, Nat.reduceSub, Option.some.injEq, D.int.injEq, D.ref.injEq, D.bl.injEq, D.str.injEq, D.tup.injEq, D.lst.injEq, List.cons.injEq, and_true, true_and, exists_eq_left, exists_eq_left', exists_eq', exists_eq_right, exists_const, Bool.true_eq_false, Bool.false_eq_true, if_true, if_false, ite_true, ite_false, decide_eq_true_eq]
    exact ⟨t, names, top, T, f, rfl, by have := ok.2; omega, ok.1, tb, k⟩
  | iff t i =>
    simp only [rd_row_on, N_row_on, Rw.d, pD, rSeq, rCut, rAnd, rOr, rNot, rB, rOp, rDG, rDG2, rDIn, rVar, rC, DX.rEqD, DX.rNeD, rLstF, rLstM, rNil, rCons, rTup, rDP, DX.rLP, rRepL', rRepr, rNeg, rEnum, rDictZip, DX.rSortedSet, rBM, rPop0, DX.rAppend, rIf, rAsg, gN, gT, gsC, gs0, rRet, rDrop, DX.rI, rNext, rCont, rBreak, rCB, DX.rLen, rTuple, rTupleN, rTIdx, rList, rAbs, rMax2, rMin2, rIntB, rStrI, DX.rIsi, rIsN, rNotN, DX.rIx, rFrz, rNotV, rAndV, rOrV, rIfE, rSl, rSlT', rSlL', rPt, rNoP, rCatT', rCatL', newL, rCatS, rInD', rIndex', rCall, rSq, rRg1, rRg2, rChain, rYes, rNewK, rNewT, Tg.d, tgsD, wipeD, startD, and_assoc, atI_0, atI_1, atI_2, atI_3, String.reduceEq, Nat.reduceLeDiff, exists_and_left, exists_and_right, resD_int, resD_str, resD_bl, resD_non, resD_tup, resD_lst, resD_ktup, dat_int, dat_str, dat_bl, dat_non, dat_nil, eqv_int, eqv_str, eqv_nil, eqv_tnil, seqD_tup, seqD_lst, seqD_ktup, seqD_klst, resD_klst, seqL_lst, isN_non, isN_int, isN_str, isN_bl, isN_tup, isN_lst, isN_ref, Bool.not_eq_true', Bool.not_eq_true, decide_eq_false_iff_not, Nat.zero_le, List.map, List.length, List.replicate, List.cons_append, List.nil_append, List.getElem?_cons_zero, List.getElem?_cons_succ, List.set_cons_zero, List.set_cons_succ, Nat.sub_self, Nat.reduceAdd, Nat.reduceSub, Option.some.injEq, D.int.injEq, D.ref.injEq, D.bl.injEq, D.str.injEq, D.tup.injEq, D.lst.injEq, List.cons.injEq, and_true, true_and, exists_eq_left, exists_eq_left', exists_eq', exists_eq_right, exists_const, Bool.true_eq_false, Bool.false_eq_true, if_true, if_false, ite_true, ite_false, decide_eq_true_eq]
    refine ⟨t, names, top, T, f, rfl, by have := ok.1.2; omega, ok.1.1, tb, len, ?_⟩
    rw [app]; exact k
  | go i =>
    simp only [rd_row_on, N_row_on, Rw.d, pD, rSeq, rCut, rAnd, rOr, rNot, rB, rOp, rDG, rDG2, rDIn, rVar, rC, DX.rEqD, DX.rNeD, rLstF, rLstM, rNil, rCons, rTup, rDP, DX.rLP, rRepL', rRepr, rNeg, rEnum, rDictZip, DX.rSortedSet, rBM, rPop0, DX.rAppend, rIf, rAsg, gN, gT, gsC, gs0, rRet, rDrop, DX.rI, rNext, rCont, rBreak, rCB, DX.rLen, rTuple, rTupleN, rTIdx, rList, rAbs, rMax2, rMin2, rIntB, rStrI, DX.rIsi, rIsN, rNotN, DX.rIx, rFrz, rNotV, rAndV, rOrV, rIfE, rSl, rSlT', rSlL', rPt, rNoP, rCatT', rCatL', newL, rCatS, rInD', rIndex', rCall, rSq, rRg1, rRg2, rChain, rYes, rNewK, rNewT, Tg.d, tgsD, wipeD, startD, and_assoc, atI_0, atI_1, atI_2, atI_3, String.reduceEq, Nat.reduceLeDiff, exists_and_left, exists_and_right, resD_int, resD_str, resD_bl, resD_non, resD_tup, resD_lst, resD_ktup, dat_int, dat_str, dat_bl, dat_non, dat_nil, eqv_int, eqv_str, eqv_nil, eqv_tnil, seqD_tup, seqD_lst, seqD_ktup, seqD_klst, resD_klst, seqL_lst, isN_non, isN_int, isN_str, isN_bl, isN_tup, isN_lst, isN_ref, Bool.not_eq_true', Bool.not_eq_true, decide_eq_false_iff_not, Nat.zero_le, List.map, List.length, List.replicate, List.cons_append, List.nil_append, List.getElem?_cons_zero, List.getElem?_cons_succ, List.set_cons_zero, List.set_cons_succ, Nat.sub_self, Nat.reduceAdd, Nat.reduceSub, Option.some.injEq, D.int.injEq, D.ref.injEq, D.bl.injEq, D.str.injEq, D.tup.injEq, D.lst.injEq, List.cons.injEq, and_true, true_and, exists_eq_left, exists_eq_left', exists_eq', exists_eq_right, exists_const, Bool.true_eq_false, Bool.false_eq_true, if_true, if_false, ite_true, ite_false, decide_eq_true_eq]
    refine ⟨len, ?_⟩
    rw [app]; exact k
end K26

set_option maxRecDepth 100000
set_option maxHeartbeats 4000000
namespace K26
open PySem PySem.Spec PyProof.Rows L2 DX
def tgt : Rw → List String
  | .set x _ => [x]
  | .ask x => [x]
  | .call b _ _ => b.toList
  | _ => []
def tms : Rw → List Tm
  | .set _ t => [t]
  | .tell t => [t]
  | .iff t _ => [t]
  | .give t => [t]
  | .call _ _ as => as
  | _ => []
theorem used_eq (r : Rw) : r.used = tgt r ++ (tms r).flatMap Tm.cells := by
  cases r <;> simp [Rw.used, tgt, tms]
def isT : D → Option D
  | .tup ds => some (.tup ds)
  | _ => none
def kinds : D → Prop
  | .non => True | .str _ => True | .int _ => True | .tup _ => True
  | _ => False
/-- the state within the loop over rows -/
def NM (p : Hlp) (h0 : DHp) (xs : List String) (P : Option D → Option D → Option D → Option D → Prop) (ρ : DSt) (h : DHp) : Prop :=
  ∃ (q : Addr) (a b c e : Option D), ρ = [some p.d, some (.ref q), a, b, c, e] ∧ P a b c e ∧ h q = some (.lst (sL xs)) ∧ h0 q = none ∧ FrA h0 h
theorem tms_ok {r : Rw} {names : List String} {top : Int} {many : Nat} {A : List (String × Nat)} (ok : r.ok names top many A) : (tms r).length ≤ 3 ∧ (tgt r).length ≤ 1 ∧ (∀ t ∈ tms r, t.ok names top ∧ t.dep < 3) ∧ r.used.length ≤ 7 := by
  have c1 : ∀ t : Tm, t.dep ≤ 2 → t.cells.length ≤ 4 := fun t h => Nat.le_trans (cells_len (names := names) (top := top) t) (Nat.pow_le_pow_right (by decide) h)
  have c2 : ∀ t : Tm, t.dep ≤ 1 → t.cells.length ≤ 2 := fun t h => Nat.le_trans (cells_len (names := names) (top := top) t) (Nat.pow_le_pow_right (by decide) h)
  cases r with
  | ask x => simp [tms, tgt, Rw.used]
  | go i => simp [tms, tgt, Rw.used]
  | tell t => have := c1 t ok.2; have := ok.2; exact ⟨by simp [tms], by simp [tgt], fun y hy => by rw [List.mem_singleton.mp hy]; exact ⟨ok.1, by omega⟩, by simp [Rw.used]; omega⟩
  | iff t i => have := c1 t ok.1.2; have := ok.1.2; exact ⟨by simp [tms], by simp [tgt], fun y hy => by rw [List.mem_singleton.mp hy]; exact ⟨ok.1.1, by omega⟩, by simp [Rw.used]; omega⟩
  | give t => have := c2 t ok.2; have := ok.2; exact ⟨by simp [tms], by simp [tgt], fun y hy => by rw [List.mem_singleton.mp hy]; exact ⟨ok.1, by omega⟩, by simp [Rw.used]; omega⟩
  | set x t => have := c1 t ok.2.2; have := ok.2.2; exact ⟨by simp [tms], by simp [tgt], fun y hy => by rw [List.mem_singleton.mp hy]; exact ⟨ok.2.1, by omega⟩, by simp [Rw.used]; omega⟩
  | call b n as =>
    obtain ⟨o1, o2, o3, o4⟩ := ok
    refine ⟨o3, by cases b <;> simp [tgt], fun t ht => ⟨(o4 t ht).1, by have := (o4 t ht).2; omega⟩, ?_⟩
    have l : (as.flatMap Tm.cells).length ≤ 2 * as.length := by
      clear o2 o3
      induction as with
      | nil => simp
      | cons a as ih =>
        have := ih fun t ht => o4 t (List.mem_cons_of_mem _ ht)
        have := c2 a (o4 a List.mem_cons_self).2
        simp only [List.flatMap_cons, List.length_append, List.length_cons]
        omega
    have lb : b.toList.length ≤ 1 := by cases b <;> simp
    simp only [Rw.used, List.length_append]
    omega
def tagOf : Rw → String
  | .ask _ => "ask" | .tell _ => "tell" | .iff _ _ => "if" | .go _ => "go" | .give _ => "give" | .set _ _ => "set" | .call _ _ _ => "call"
def parts : Rw → List D
  | .ask x => [.str x]
  | .tell t => [t.d]
  | .iff t i => [t.d, .int i]
  | .go i => [.int i]
  | .give t => [t.d]
  | .set x t => [.str x, t.d]
  | .call b n as => [oS b, .str n, .tup (as.map Tm.d)]
theorem row_d (r : Rw) : r.d = .tup (.str (tagOf r) :: parts r) := by cases r <;> rfl
theorem tm_tup (t : Tm) : ∃ ds, t.d = .tup ds := by cases t <;> exact ⟨_, rfl⟩
theorem isT_tm (t : Tm) : isT t.d = some t.d := by
  obtain ⟨ds, e⟩ := tm_tup t
  rw [e]; rfl
def tparts : Rw → List D
  | .call _ _ as => [.tup (as.map Tm.d)]
  | r => (tms r).map Tm.d
theorem parts_f (r : Rw) : (parts r).filterMap isT = tparts r := by
  cases r with
  | ask x => rfl
  | tell t => exact List.filterMap_cons_some (isT_tm t)
  | iff t i => exact List.filterMap_cons_some (isT_tm t)
  | go i => rfl
  | give t => exact List.filterMap_cons_some (isT_tm t)
  | set x t => exact List.filterMap_cons_some (isT_tm t)
  | call b n as => cases b <;> rfl
theorem parts_k (r : Rw) : ∀ d ∈ parts r, (∃ x, d = .str x) ∨ (∃ i, d = .int i) ∨ d = .non ∨ ∃ ds, d = .tup ds := by
  intro d hd
  cases r with
  | ask x => simp only [parts, List.mem_cons, List.not_mem_nil, or_false] at hd; exact .inl ⟨_, hd⟩
  | tell t => simp only [parts, List.mem_cons, List.not_mem_nil, or_false] at hd; rw [hd]; exact .inr (.inr (.inr (tm_tup t)))
  | iff t i =>
    simp only [parts, List.mem_cons, List.not_mem_nil, or_false] at hd
    rcases hd with e | e
    · rw [e]; exact .inr (.inr (.inr (tm_tup t)))
    · exact .inr (.inl ⟨_, e⟩)
  | go i => simp only [parts, List.mem_cons, List.not_mem_nil, or_false] at hd; exact .inr (.inl ⟨_, hd⟩)
  | give t => simp only [parts, List.mem_cons, List.not_mem_nil, or_false] at hd; rw [hd]; exact .inr (.inr (.inr (tm_tup t)))
  | set x t =>
    simp only [parts, List.mem_cons, List.not_mem_nil, or_false] at hd
    rcases hd with e | e
    · exact .inl ⟨_, e⟩
    · rw [e]; exact .inr (.inr (.inr (tm_tup t)))
  | call b n as =>
    simp only [parts, List.mem_cons, List.not_mem_nil, or_false] at hd
    rcases hd with e | e | e
    · rw [e]; cases b
      · exact .inr (.inr (.inl rfl))
      · exact .inl ⟨_, rfl⟩
    · exact .inl ⟨_, e⟩
    · exact .inr (.inr (.inr ⟨_, e⟩))
theorem names_ok (ds : List D) (h : DHp) (Q : DQ) (hl : ds.length = 1) (hs : sp_names ds h Q (fun _ _ => False)) : rd_names (EN Q) (startD N_names ds) h := by
  obtain ⟨p, names, top, A, e, ok, k⟩ := hs
  subst e
  have rowOk : ∀ r ∈ p.rows, r.ok names top p.rows.length A := fun r hr => by
    obtain ⟨i, hi⟩ := List.getElem?_of_mem hr
    exact (ok.row i r hi).1
  have usedL : ∀ i, ((p.rows.take i).flatMap Rw.used).length ≤ 7 * (p.rows.take i).length := fun i => by
    have : ∀ l : List Rw, (∀ r ∈ l, r ∈ p.rows) → (l.flatMap Rw.used).length ≤ 7 * l.length := fun l => by
      induction l with
      | nil => intro _; simp
      | cons r l ih =>
        intro hr
        have h1 := ih fun x hx => hr x (List.mem_cons_of_mem _ hx)
        have h2 := (tms_ok (rowOk r (hr r List.mem_cons_self))).2.2.2
        simp only [List.flatMap_cons, List.length_append, List.length_cons]
        omega
    exact this _ fun r hr => List.mem_of_mem_take hr
  simp only [rd_names, N_names, Hlp.d, rSeq, rCut, rAnd, rOr, rNot, rB, rOp, rDG, rDG2, rDIn, rVar, rC, DX.rEqD, DX.rNeD, rLstF, rLstM, rNil, rCons, rTup, rDP, DX.rLP, rRepL', rRepr, rNeg, rEnum, rDictZip, DX.rSortedSet, rBM, rPop0, DX.rAppend, rIf, rAsg, gN, gT, gsC, gs0, rRet, rDrop, DX.rI, rNext, rCont, rBreak, rCB, DX.rLen, rTuple, rTupleN, rTIdx, rList, rAbs, rMax2, rMin2, rIntB, rStrI, DX.rIsi, rIsN, rNotN, DX.rIx, rFrz, rNotV, rAndV, rOrV, rIfE, rSl, rSlT', rSlL', rPt, rNoP, rCatT', rCatL', newL, rCatS, rInD', rIndex', rCall, rSq, rRg1, rRg2, rChain, rYes, rNewK, rNewT, Tg.d, tgsD, wipeD, startD, and_assoc, atI_0, atI_1, atI_2, atI_3, String.reduceEq, Nat.reduceLeDiff, exists_and_left, exists_and_right, resD_int, resD_str, resD_bl, resD_non, resD_tup, resD_lst, resD_ktup, dat_int, dat_str, dat_bl, dat_non, dat_nil, eqv_int, eqv_str, eqv_nil, eqv_tnil, seqD_tup, seqD_lst, seqD_ktup, seqD_klst, resD_klst, seqL_lst, isN_non, isN_int, isN_str, isN_bl, isN_tup, isN_lst, isN_ref, Bool.not_eq_true', Bool.not_eq_true, decide_eq_false_iff_not, Nat.zero_le, List.map, List.length, List.replicate, List.cons_append, List.nil_append, List.getElem?_cons_zero, List.getElem?_cons_succ, List.set_cons_zero, List.set_cons_succ, Nat.sub_self, Nat.reduceAdd, Nat.reduceSub, Option.some.injEq, D.int.injEq, D.ref.injEq, D.bl.injEq, D.str.injEq, D.tup.injEq, D.lst.injEq, List.cons.injEq, and_true, true_and, exists_eq_left, exists_eq_left', exists_eq', exists_eq_right, exists_const, Bool.true_eq_false, Bool.false_eq_true, if_true, if_false, ite_true, ite_false, decide_eq_true_eq]
  intro q0 nq0
  refine ⟨NM p h p.used (fun _ _ _ _ => True), ?_, ?_⟩
  · simp only [rFor, rSeq, rCut, rAnd, rOr, rNot, rB, rOp, rDG, rDG2, rDIn, rVar, rC, DX.rEqD, DX.rNeD, rLstF, rLstM, rNil, rCons, rTup, rDP, DX.rLP, rRepL', rRepr, rNeg, rEnum, rDictZip, DX.rSortedSet, rBM, rPop0, DX.rAppend, rIf, rAsg, gN, gT, gsC, gs0, rRet, rDrop, DX.rI, rNext, rCont, rBreak, rCB, DX.rLen, rTuple, rTupleN, rTIdx, rList, rAbs, rMax2, rMin2, rIntB, rStrI, DX.rIsi, rIsN, rNotN, DX.rIx, rFrz, rNotV, rAndV, rOrV, rIfE, rSl, rSlT', rSlL', rPt, rNoP, rCatT', rCatL', newL, rCatS, rInD', rIndex', rCall, rSq, rRg1, rRg2, rChain, rYes, rNewK, rNewT, Tg.d, tgsD, wipeD, startD, and_assoc, atI_0, atI_1, atI_2, atI_3, String.reduceEq, Nat.reduceLeDiff, exists_and_left, exists_and_right, resD_int, resD_str, resD_bl, resD_non, resD_tup, resD_lst, resD_ktup, dat_int, dat_str, dat_bl, dat_non, dat_nil, eqv_int, eqv_str, eqv_nil, eqv_tnil, seqD_tup, seqD_lst, seqD_ktup, seqD_klst, resD_klst, seqL_lst, isN_non, isN_int, isN_str, isN_bl, isN_tup, isN_lst, isN_ref, Bool.not_eq_true', Bool.not_eq_true, decide_eq_false_iff_not, Nat.zero_le, List.map, List.length, List.replicate, List.cons_append, List.nil_append, List.getElem?_cons_zero, List.getElem?_cons_succ, List.set_cons_zero, List.set_cons_succ, Nat.sub_self, Nat.reduceAdd, Nat.reduceSub, Option.some.injEq, D.int.injEq, D.ref.injEq, D.bl.injEq, D.str.injEq, D.tup.injEq, D.lst.injEq, List.cons.injEq, and_true, true_and, exists_eq_left, exists_eq_left', exists_eq', exists_eq_right, exists_const, Bool.true_eq_false, Bool.false_eq_true, if_true, if_false, ite_true, ite_false, decide_eq_true_eq]
    refine ⟨fun i => NM p h (p.ps ++ (p.rows.take i).flatMap Rw.used) (fun _ _ _ _ => True), ⟨q0, none, none, none, none, rfl, trivial, by rw [List.take_zero, List.flatMap_nil, List.append_nil]; exact updD_same, nq0, FrA.refl.upd nq0⟩, ?_, ?_⟩
    · rintro i x ρ h1 hx ⟨q, a, b, c, e, rfl, _, cq, nq, f1⟩
      rw [List.getElem?_map] at hx
      obtain ⟨r, hr, rfl⟩ := Option.map_eq_some_iff.mp hx
      have ro := rowOk r (List.mem_of_getElem? hr)
      obtain ⟨t3, g1, tok, u7⟩ := tms_ok ro
      have ri : i < p.rows.length := (List.getElem?_eq_some_iff.mp hr).1
      have r7 := ok.r7
      have ps3 := ok.ps
      have xl : (p.ps ++ (p.rows.take i).flatMap Rw.used).length ≤ 52 := by
        have := usedL i
        rw [List.length_take] at this
        rw [List.length_append]
        omega
      generalize hxs : p.ps ++ (p.rows.take i).flatMap Rw.used = xs at cq xl
      have nextx : p.ps ++ (p.rows.take (i + 1)).flatMap Rw.used = xs ++ tgt r ++ (tms r).flatMap Tm.cells := by
        rw [List.take_add_one, hr, List.flatMap_append, ← List.append_assoc, hxs, List.append_assoc, ← used_eq]
        simp
      generalize hP : (fun i => NM p h (p.ps ++ List.flatMap Rw.used (List.take i p.rows)) fun x x_1 x_2 x_3 => True) = P
      have hP1 : P (i + 1) = NM p h (xs ++ tgt r ++ (tms r).flatMap Tm.cells) fun x x_1 x_2 x_3 => True := by rw [← hP, ← nextx]
      rw [row_d]
      simp only [rSeq, rCut, rAnd, rOr, rNot, rB, rOp, rDG, rDG2, rDIn, rVar, rC, DX.rEqD, DX.rNeD, rLstF, rLstM, rNil, rCons, rTup, rDP, DX.rLP, rRepL', rRepr, rNeg, rEnum, rDictZip, DX.rSortedSet, rBM, rPop0, DX.rAppend, rIf, rAsg, gN, gT, gsC, gs0, rRet, rDrop, DX.rI, rNext, rCont, rBreak, rCB, DX.rLen, rTuple, rTupleN, rTIdx, rList, rAbs, rMax2, rMin2, rIntB, rStrI, DX.rIsi, rIsN, rNotN, DX.rIx, rFrz, rNotV, rAndV, rOrV, rIfE, rSl, rSlT', rSlL', rPt, rNoP, rCatT', rCatL', newL, rCatS, rInD', rIndex', rCall, rSq, rRg1, rRg2, rChain, rYes, rNewK, rNewT, Tg.d, tgsD, wipeD, startD, and_assoc, atI_0, atI_1, atI_2, atI_3, String.reduceEq, Nat.reduceLeDiff, exists_and_left, exists_and_right, resD_int, resD_str, resD_bl, resD_non, resD_tup, resD_lst, resD_ktup, dat_int, dat_str, dat_bl, dat_non, dat_nil, eqv_int, eqv_str, eqv_nil, eqv_tnil, seqD_tup, seqD_lst, seqD_ktup, seqD_klst, resD_klst, seqL_lst, isN_non, isN_int, isN_str, isN_bl, isN_tup, isN_lst, isN_ref, Bool.not_eq_true', Bool.not_eq_true, decide_eq_false_iff_not, Nat.zero_le, List.map, List.length, List.replicate, List.cons_append, List.nil_append, List.getElem?_cons_zero, List.getElem?_cons_succ, List.set_cons_zero, List.set_cons_succ, Nat.sub_self, Nat.reduceAdd, Nat.reduceSub, Option.some.injEq, D.int.injEq, D.ref.injEq, D.bl.injEq, D.str.injEq, D.tup.injEq, D.lst.injEq, List.cons.injEq, and_true, true_and, exists_eq_left, exists_eq_left', exists_eq', exists_eq_right, exists_const, Bool.true_eq_false, Bool.false_eq_true, if_true, if_false, ite_true, ite_false, decide_eq_true_eq]
      refine ⟨rfl, NM p h (xs ++ tgt r) (fun a _ _ _ => a = some (.tup (.str (tagOf r) :: parts r))), ?_, ?_⟩
      · have same : tgt r = [] → NM p h (xs ++ tgt r) (fun a _ _ _ => a = some (.tup (.str (tagOf r) :: parts r))) [some p.d, some (.ref q), some (.tup (.str (tagOf r) :: parts r)), b, c, e] h1 := fun z => ⟨q, _, b, c, e, rfl, rfl, by rw [z, List.append_nil]; exact cq, nq, f1⟩
        have app : ∀ y, tgt r = [y] → NM p h (xs ++ tgt r) (fun a _ _ _ => a = some (.tup (.str (tagOf r) :: parts r))) [some p.d, some (.ref q), some (.tup (.str (tagOf r) :: parts r)), b, c, e] (updD h1 q (.lst (sL xs ++ [D.str y]))) := fun y z => ⟨q, _, b, c, e, rfl, rfl, by rw [z, ← sL_app]; exact updD_same, nq, f1.upd nq⟩
        have len : (sL xs).length < sizeLine := by unfold sL; rw [List.length_map, sizeLine_eq]; omega
        have il := isLst_ref cq
        cases r with
        | ask x => exact ⟨_, atI_1, il, _, atI_1, _, cq, len, app x rfl⟩
        | tell t => exact same rfl
        | iff t i => exact same rfl
        | go i => exact same rfl
        | give t => exact same rfl
        | set x t => exact ⟨_, atI_1, il, _, atI_1, _, cq, len, app x rfl⟩
        | call b' n as =>
          cases b' with
          | none => exact ⟨_, atI_1, same rfl⟩
          | some x => exact ⟨_, atI_1, il, _, atI_1, _, cq, len, app x rfl⟩
      · rintro ρ h2 ⟨q2, a2, b2, c2, e2, rfl, ea, cq2, nq2, f2⟩
        subst ea
        refine lc_pure (parts r) (fun _ => True) isT (fun R rr => ?_) (by cases r <;> simp [parts]) (fun _ _ _ => trivial) (fun j d C acc P1 P0 hd hC k1 k0 => ?_) ?_
        · simp only [rSeq, rCut, rAnd, rOr, rNot, rB, rOp, rDG, rDG2, rDIn, rVar, rC, DX.rEqD, DX.rNeD, rLstF, rLstM, rNil, rCons, rTup, rDP, DX.rLP, rRepL', rRepr, rNeg, rEnum, rDictZip, DX.rSortedSet, rBM, rPop0, DX.rAppend, rIf, rAsg, gN, gT, gsC, gs0, rRet, rDrop, DX.rI, rNext, rCont, rBreak, rCB, DX.rLen, rTuple, rTupleN, rTIdx, rList, rAbs, rMax2, rMin2, rIntB, rStrI, DX.rIsi, rIsN, rNotN, DX.rIx, rFrz, rNotV, rAndV, rOrV, rIfE, rSl, rSlT', rSlL', rPt, rNoP, rCatT', rCatL', newL, rCatS, rInD', rIndex', rCall, rSq, rRg1, rRg2, rChain, rYes, rNewK, rNewT, Tg.d, tgsD, wipeD, startD, and_assoc, atI_0, atI_1, atI_2, atI_3, String.reduceEq, Nat.reduceLeDiff, exists_and_left, exists_and_right, resD_int, resD_str, resD_bl, resD_non, resD_tup, resD_lst, resD_ktup, dat_int, dat_str, dat_bl, dat_non, dat_nil, eqv_int, eqv_str, eqv_nil, eqv_tnil, seqD_tup, seqD_lst, seqD_ktup, seqD_klst, resD_klst, seqL_lst, isN_non, isN_int, isN_str, isN_bl, isN_tup, isN_lst, isN_ref, Bool.not_eq_true', Bool.not_eq_true, decide_eq_false_iff_not, Nat.zero_le, List.map, List.length, List.replicate, List.cons_append, List.nil_append, List.getElem?_cons_zero, List.getElem?_cons_succ, List.set_cons_zero, List.set_cons_succ, Nat.sub_self, Nat.reduceAdd, Nat.reduceSub, Option.some.injEq, D.int.injEq, D.ref.injEq, D.bl.injEq, D.str.injEq, D.tup.injEq, D.lst.injEq, List.cons.injEq, and_true, true_and, exists_eq_left, exists_eq_left', exists_eq', exists_eq_right, exists_const, Bool.true_eq_false, Bool.false_eq_true, if_true, if_false, ite_true, ite_false, decide_eq_true_eq]
          have e1 : DX.cutD (D.str (tagOf r) :: parts r) (some 1) none = parts r := cut_from _ 1
          rw [e1]; exact rr
        · have kd := parts_k r d (List.mem_of_getElem? hd)
          simp only [rSeq, rCut, rAnd, rOr, rNot, rB, rOp, rDG, rDG2, rDIn, rVar, rC, DX.rEqD, DX.rNeD, rLstF, rLstM, rNil, rCons, rTup, rDP, DX.rLP, rRepL', rRepr, rNeg, rEnum, rDictZip, DX.rSortedSet, rBM, rPop0, DX.rAppend, rIf, rAsg, gN, gT, gsC, gs0, rRet, rDrop, DX.rI, rNext, rCont, rBreak, rCB, DX.rLen, rTuple, rTupleN, rTIdx, rList, rAbs, rMax2, rMin2, rIntB, rStrI, DX.rIsi, rIsN, rNotN, DX.rIx, rFrz, rNotV, rAndV, rOrV, rIfE, rSl, rSlT', rSlL', rPt, rNoP, rCatT', rCatL', newL, rCatS, rInD', rIndex', rCall, rSq, rRg1, rRg2, rChain, rYes, rNewK, rNewT, Tg.d, tgsD, wipeD, startD, and_assoc, atI_0, atI_1, atI_2, atI_3, String.reduceEq, Nat.reduceLeDiff, exists_and_left, exists_and_right, resD_int, resD_str, resD_bl, resD_non, resD_tup, resD_lst, resD_ktup, dat_int, dat_str, dat_bl, dat_non, dat_nil, eqv_int, eqv_str, eqv_nil, eqv_tnil, seqD_tup, seqD_lst, seqD_ktup, seqD_klst, resD_klst, seqL_lst, isN_non, isN_int, isN_str, isN_bl, isN_tup, isN_lst, isN_ref, Bool.not_eq_true', Bool.not_eq_true, decide_eq_false_iff_not, Nat.zero_le, List.map, List.length, List.replicate, List.cons_append, List.nil_append, List.getElem?_cons_zero, List.getElem?_cons_succ, List.set_cons_zero, List.set_cons_succ, Nat.sub_self, Nat.reduceAdd, Nat.reduceSub, Option.some.injEq, D.int.injEq, D.ref.injEq, D.bl.injEq, D.str.injEq, D.tup.injEq, D.lst.injEq, List.cons.injEq, and_true, true_and, exists_eq_left, exists_eq_left', exists_eq', exists_eq_right, exists_const, Bool.true_eq_false, Bool.false_eq_true, if_true, if_false, ite_true, ite_false, decide_eq_true_eq]
          rcases kd with ⟨x, rfl⟩ | ⟨x, rfl⟩ | rfl | ⟨x, rfl⟩
          · exact ⟨_, _, rfl, rfl, by decide, k0 rfl⟩
          · exact ⟨_, _, rfl, rfl, by decide, k0 rfl⟩
          · exact ⟨_, _, rfl, rfl, by decide, k0 rfl⟩
          · exact ⟨_, _, rfl, rfl, by decide, k1 _ rfl⟩
        · rw [parts_f]
          simp only [newL, rSeq, rCut, rAnd, rOr, rNot, rB, rOp, rDG, rDG2, rDIn, rVar, rC, DX.rEqD, DX.rNeD, rLstF, rLstM, rNil, rCons, rTup, rDP, DX.rLP, rRepL', rRepr, rNeg, rEnum, rDictZip, DX.rSortedSet, rBM, rPop0, DX.rAppend, rIf, rAsg, gN, gT, gsC, gs0, rRet, rDrop, DX.rI, rNext, rCont, rBreak, rCB, DX.rLen, rTuple, rTupleN, rTIdx, rList, rAbs, rMax2, rMin2, rIntB, rStrI, DX.rIsi, rIsN, rNotN, DX.rIx, rFrz, rNotV, rAndV, rOrV, rIfE, rSl, rSlT', rSlL', rPt, rNoP, rCatT', rCatL', newL, rCatS, rInD', rIndex', rCall, rSq, rRg1, rRg2, rChain, rYes, rNewK, rNewT, Tg.d, tgsD, wipeD, startD, and_assoc, atI_0, atI_1, atI_2, atI_3, String.reduceEq, Nat.reduceLeDiff, exists_and_left, exists_and_right, resD_int, resD_str, resD_bl, resD_non, resD_tup, resD_lst, resD_ktup, dat_int, dat_str, dat_bl, dat_non, dat_nil, eqv_int, eqv_str, eqv_nil, eqv_tnil, seqD_tup, seqD_lst, seqD_ktup, seqD_klst, resD_klst, seqL_lst, isN_non, isN_int, isN_str, isN_bl, isN_tup, isN_lst, isN_ref, Bool.not_eq_true', Bool.not_eq_true, decide_eq_false_iff_not, Nat.zero_le, List.map, List.length, List.replicate, List.cons_append, List.nil_append, List.getElem?_cons_zero, List.getElem?_cons_succ, List.set_cons_zero, List.set_cons_succ, Nat.sub_self, Nat.reduceAdd, Nat.reduceSub, Option.some.injEq, D.int.injEq, D.ref.injEq, D.bl.injEq, D.str.injEq, D.tup.injEq, D.lst.injEq, List.cons.injEq, and_true, true_and, exists_eq_left, exists_eq_left', exists_eq', exists_eq_right, exists_const, Bool.true_eq_false, Bool.false_eq_true, if_true, if_false, ite_true, ite_false, decide_eq_true_eq]
          refine ⟨NM p h (xs ++ tgt r) (fun _ b _ _ => b = some (.lst ((tms r).map Tm.d))), ?_, ?_⟩
          · cases r with
            | call b' n as =>
              rw [if_pos (show tagOf (Rw.call b' n as) = "call" from rfl)]
              refine ⟨_, atI_3, _, rfl, fun z nz => ⟨_, updD_same, ?_⟩⟩
              rw [delD_upd nz]
              exact ⟨q2, _, _, c2, e2, rfl, rfl, cq2, nq2, f2⟩
            | ask x => exact ⟨q2, _, _, c2, e2, rfl, rfl, cq2, nq2, f2⟩
            | tell t => exact ⟨q2, _, _, c2, e2, rfl, rfl, cq2, nq2, f2⟩
            | iff t i => exact ⟨q2, _, _, c2, e2, rfl, rfl, cq2, nq2, f2⟩
            | go i => exact ⟨q2, _, _, c2, e2, rfl, rfl, cq2, nq2, f2⟩
            | give t => exact ⟨q2, _, _, c2, e2, rfl, rfl, cq2, nq2, f2⟩
            | set x t => exact ⟨q2, _, _, c2, e2, rfl, rfl, cq2, nq2, f2⟩
          · rintro ρ h3 ⟨q3, a3, b3, c3, e3, rfl, ea, cq3, nq3, f3⟩
            subst ea
            simp only [rSeq, rCut, rAnd, rOr, rNot, rB, rOp, rDG, rDG2, rDIn, rVar, rC, DX.rEqD, DX.rNeD, rLstF, rLstM, rNil, rCons, rTup, rDP, DX.rLP, rRepL', rRepr, rNeg, rEnum, rDictZip, DX.rSortedSet, rBM, rPop0, DX.rAppend, rIf, rAsg, gN, gT, gsC, gs0, rRet, rDrop, DX.rI, rNext, rCont, rBreak, rCB, DX.rLen, rTuple, rTupleN, rTIdx, rList, rAbs, rMax2, rMin2, rIntB, rStrI, DX.rIsi, rIsN, rNotN, DX.rIx, rFrz, rNotV, rAndV, rOrV, rIfE, rSl, rSlT', rSlL', rPt, rNoP, rCatT', rCatL', newL, rCatS, rInD', rIndex', rCall, rSq, rRg1, rRg2, rChain, rYes, rNewK, rNewT, Tg.d, tgsD, wipeD, startD, and_assoc, atI_0, atI_1, atI_2, atI_3, String.reduceEq, Nat.reduceLeDiff, exists_and_left, exists_and_right, resD_int, resD_str, resD_bl, resD_non, resD_tup, resD_lst, resD_ktup, dat_int, dat_str, dat_bl, dat_non, dat_nil, eqv_int, eqv_str, eqv_nil, eqv_tnil, seqD_tup, seqD_lst, seqD_ktup, seqD_klst, resD_klst, seqL_lst, isN_non, isN_int, isN_str, isN_bl, isN_tup, isN_lst, isN_ref, Bool.not_eq_true', Bool.not_eq_true, decide_eq_false_iff_not, Nat.zero_le, List.map, List.length, List.replicate, List.cons_append, List.nil_append, List.getElem?_cons_zero, List.getElem?_cons_succ, List.set_cons_zero, List.set_cons_succ, Nat.sub_self, Nat.reduceAdd, Nat.reduceSub, Option.some.injEq, D.int.injEq, D.ref.injEq, D.bl.injEq, D.str.injEq, D.tup.injEq, D.lst.injEq, List.cons.injEq, and_true, true_and, exists_eq_left, exists_eq_left', exists_eq', exists_eq_right, exists_const, Bool.true_eq_false, Bool.false_eq_true, if_true, if_false, ite_true, ite_false, decide_eq_true_eq]
            refine ⟨fun j => NM p h (xs ++ tgt r ++ ((tms r).take j).flatMap Tm.cells) (fun _ b _ _ => b = some (.lst ((tms r).map Tm.d))), ⟨q3, a3, _, c3, e3, rfl, rfl, by rw [List.take_zero, List.flatMap_nil, List.append_nil]; exact cq3, nq3, f3⟩, ?_, ?_⟩
            · rintro j x ρ h4 hj ⟨q4, a4, b4, c4, e4, rfl, eb, cq4, nq4, f4⟩
              subst eb
              rw [List.getElem?_map] at hj
              obtain ⟨t, ht, rfl⟩ := Option.map_eq_some_iff.mp hj
              have tm := List.mem_of_getElem? ht
              have cl := cells_len (names := names) (top := top) t
              have c8 : 2 ^ t.dep ≤ 2 ^ 3 := Nat.pow_le_pow_right (by decide) (by have := (tok t tm).2; omega)
              have cu : (((tms r).take j).flatMap Tm.cells).length ≤ 24 := by
                have : ∀ l : List Tm, (∀ y ∈ l, y ∈ tms r) → (l.flatMap Tm.cells).length ≤ 8 * l.length := fun l => by
                  induction l with
                  | nil => intro _; simp
                  | cons y l ih =>
                    intro hy
                    have h1 := ih fun z hz => hy z (List.mem_cons_of_mem _ hz)
                    have h2 := cells_len (names := names) (top := top) y
                    have h3 : 2 ^ y.dep ≤ 2 ^ 3 := Nat.pow_le_pow_right (by decide) (by have := (tok y (hy y List.mem_cons_self)).2; omega)
                    simp only [List.flatMap_cons, List.length_append, List.length_cons]
                    omega
                have q := this ((tms r).take j) fun y hy => List.mem_of_mem_take hy
                rw [List.length_take] at q
                omega
              simp only [rSeq, rCut, rAnd, rOr, rNot, rB, rOp, rDG, rDG2, rDIn, rVar, rC, DX.rEqD, DX.rNeD, rLstF, rLstM, rNil, rCons, rTup, rDP, DX.rLP, rRepL', rRepr, rNeg, rEnum, rDictZip, DX.rSortedSet, rBM, rPop0, DX.rAppend, rIf, rAsg, gN, gT, gsC, gs0, rRet, rDrop, DX.rI, rNext, rCont, rBreak, rCB, DX.rLen, rTuple, rTupleN, rTIdx, rList, rAbs, rMax2, rMin2, rIntB, rStrI, DX.rIsi, rIsN, rNotN, DX.rIx, rFrz, rNotV, rAndV, rOrV, rIfE, rSl, rSlT', rSlL', rPt, rNoP, rCatT', rCatL', newL, rCatS, rInD', rIndex', rCall, rSq, rRg1, rRg2, rChain, rYes, rNewK, rNewT, Tg.d, tgsD, wipeD, startD, and_assoc, atI_0, atI_1, atI_2, atI_3, String.reduceEq, Nat.reduceLeDiff, exists_and_left, exists_and_right, resD_int, resD_str, resD_bl, resD_non, resD_tup, resD_lst, resD_ktup, dat_int, dat_str, dat_bl, dat_non, dat_nil, eqv_int, eqv_str, eqv_nil, eqv_tnil, seqD_tup, seqD_lst, seqD_ktup, seqD_klst, resD_klst, seqL_lst, isN_non, isN_int, isN_str, isN_bl, isN_tup, isN_lst, isN_ref, Bool.not_eq_true', Bool.not_eq_true, decide_eq_false_iff_not, Nat.zero_le, List.map, List.length, List.replicate, List.cons_append, List.nil_append, List.getElem?_cons_zero, List.getElem?_cons_succ, List.set_cons_zero, List.set_cons_succ, Nat.sub_self, Nat.reduceAdd, Nat.reduceSub, Option.some.injEq, D.int.injEq, D.ref.injEq, D.bl.injEq, D.str.injEq, D.tup.injEq, D.lst.injEq, List.cons.injEq, and_true, true_and, exists_eq_left, exists_eq_left', exists_eq', exists_eq_right, exists_const, Bool.true_eq_false, Bool.false_eq_true, if_true, if_false, ite_true, ite_false, decide_eq_true_eq]
              refine ⟨t, names, top, rfl, (tok t tm).2, (tok t tm).1, _, seqL_ref cq4, _, rfl, ?_, fun z nz => ?_⟩
              · simp only [sL, List.length_map, List.length_append, sizeLine_eq]
                omega
              · have nz0 : h z = none := by
                  cases qz : h z with
                  | none => rfl
                  | some cz => rw [f4 z cz qz] at nz; cases nz
                refine ⟨z, _, _, _, _, rfl, rfl, ?_, nz0, f4.upd nz0⟩
                rw [List.take_add_one, ht, List.flatMap_append, ← List.append_assoc, updD_same, sL_app]
                simp
            · rintro ρ h4 ⟨q4, a4, b4, c4, e4, rfl, eb, cq4, nq4, f4⟩
              subst eb
              rw [List.length_map, List.take_length] at cq4
              rw [hP1]
              exact ⟨q4, a4, _, c4, e4, rfl, trivial, cq4, nq4, f4⟩
    · rintro ρ h3 ⟨q3, a3, b3, c3, e3, rfl, ea, cq3, nq3, f3⟩
      refine ⟨q3, a3, b3, c3, e3, rfl, trivial, ?_, nq3, f3⟩
      rw [List.length_map, List.take_length] at cq3
      exact cq3
  · rintro ρ h1 ⟨q, a, b, c, e, rfl, _, cq, nq, f1⟩
    simp only [rSeq, rCut, rAnd, rOr, rNot, rB, rOp, rDG, rDG2, rDIn, rVar, rC, DX.rEqD, DX.rNeD, rLstF, rLstM, rNil, rCons, rTup, rDP, DX.rLP, rRepL', rRepr, rNeg, rEnum, rDictZip, DX.rSortedSet, rBM, rPop0, DX.rAppend, rIf, rAsg, gN, gT, gsC, gs0, rRet, rDrop, DX.rI, rNext, rCont, rBreak, rCB, DX.rLen, rTuple, rTupleN, rTIdx, rList, rAbs, rMax2, rMin2, rIntB, rStrI, DX.rIsi, rIsN, rNotN, DX.rIx, rFrz, rNotV, rAndV, rOrV, rIfE, rSl, rSlT', rSlL', rPt, rNoP, rCatT', rCatL', newL, rCatS, rInD', rIndex', rCall, rSq, rRg1, rRg2, rChain, rYes, rNewK, rNewT, Tg.d, tgsD, wipeD, startD, and_assoc, atI_0, atI_1, atI_2, atI_3, String.reduceEq, Nat.reduceLeDiff, exists_and_left, exists_and_right, resD_int, resD_str, resD_bl, resD_non, resD_tup, resD_lst, resD_ktup, dat_int, dat_str, dat_bl, dat_non, dat_nil, eqv_int, eqv_str, eqv_nil, eqv_tnil, seqD_tup, seqD_lst, seqD_ktup, seqD_klst, resD_klst, seqL_lst, isN_non, isN_int, isN_str, isN_bl, isN_tup, isN_lst, isN_ref, Bool.not_eq_true', Bool.not_eq_true, decide_eq_false_iff_not, Nat.zero_le, List.map, List.length, List.replicate, List.cons_append, List.nil_append, List.getElem?_cons_zero, List.getElem?_cons_succ, List.set_cons_zero, List.set_cons_succ, Nat.sub_self, Nat.reduceAdd, Nat.reduceSub, Option.some.injEq, D.int.injEq, D.ref.injEq, D.bl.injEq, D.str.injEq, D.tup.injEq, D.lst.injEq, List.cons.injEq, and_true, true_and, exists_eq_left, exists_eq_left', exists_eq', exists_eq_right, exists_const, Bool.true_eq_false, Bool.false_eq_true, if_true, if_false, ite_true, ite_false, decide_eq_true_eq]
    refine ⟨p.used, seqL_ref cq, ?_, fun ns nd asc hm => k ns h1 ⟨nd, asc, hm⟩ f1⟩
    have := usedL p.rows.length
    have r7 := ok.r7
    have ps3 := ok.ps
    rw [List.take_length] at this
    show (p.ps ++ p.rows.flatMap Rw.used).length < 64
    rw [List.length_append]
    omega
end K26

set_option maxRecDepth 100000
set_option maxHeartbeats 4000000
namespace K26
open PySem PySem.Spec PyProof.Rows L2 DX
theorem seqD_frA {h h' : DHp} {x : D} {ds : List D} (f : FrA h h') (e : seqD h x = some ds) : seqD h' x = some ds := by
  cases x with
  | ref a => exact seqD_ref (f a _ (rdL_of e))
  | _ => exact e
def fSl (ws : List (Option Int)) : D → Option D
  | .int s => some (oI ((ws[s.toNat]?).getD none))
  | _ => none
theorem sl_all (ws : List (Option Int)) : ∀ sl : List Int, (iL sl).filterMap (fSl ws) = sl.map fun s => oI ((ws[s.toNat]?).getD none)
  | [] => rfl
  | s :: sl => by
    unfold iL
    rw [List.map_cons, List.filterMap_cons_some (show fSl ws (D.int s) = some (oI ((ws[s.toNat]?).getD none)) from rfl), List.map_cons]
    exact congrArg _ (sl_all ws sl)
theorem ws_at {ws : List (Option Int)} {s : Int} (h0 : 0 ≤ s) (h1 : s < ws.length) : atI (ws.map oI) s = some (oI ((ws[s.toNat]?).getD none)) := by
  refine atI_of h0 ?_
  rw [List.getElem?_map, List.getElem?_eq_getElem (by omega : s.toNat < ws.length)]
  rfl
def fFr (ws : List (Option Int)) : D → Option D
  | .tup [.int n, .int p, .tup sl] => some (.tup [.int n, .int p, .tup (sl.filterMap (fSl ws))])
  | _ => none
theorem fr_all (ws : List (Option Int)) : ∀ fs : List Fm, (fs.map fmD).filterMap (fFr ws) = fs.map (frD ws)
  | [] => rfl
  | x :: fs => by
    have e : fFr ws (fmD x) = some (frD ws x) := by
      show some (D.tup [D.int x.1, D.int x.2.1, D.tup ((iL x.2.2).filterMap (fSl ws))]) = _
      rw [sl_all]; rfl
    rw [List.map_cons, List.filterMap_cons_some e, List.map_cons, fr_all ws fs]
theorem mom_next {labs : List Lab} {shs : List Sh} {i : Nat} {s : Sh} (e : shs[i]? = some s) : momD labs (shs.take (i + 1)) = momD labs (shs.take i) ++ momD labs [s] := by
  unfold momD
  rw [List.take_add_one, e, List.filterMap_append]; rfl
theorem mom_len (labs : List Lab) (shs : List Sh) : (momD labs shs).length ≤ shs.length := by unfold momD; exact List.length_filterMap_le _ _
/-- the state of the loop over the showings -/
def TM (labs : List Lab) (x : D) (q0 : Addr) (h0 : DHp) (ds : List D) (ρ : DSt) (h : DHp) : Prop :=
  ∃ a b c d e f i j k : Option D, ρ = [some (.tup (labs.map labD)), some x, some (.ref q0), a, b, c, d, e, f, i, j, k] ∧ h q0 = some (.lst ds) ∧ FrA h0 h
def TF (labs : List Lab) (x : D) (q0 q7 : Addr) (h0 : DHp) (s : Sh) (ds es : List D) (ρ : DSt) (h : DHp) : Prop :=
  ∃ f i j k : Option D, ρ = [some (.tup (labs.map labD)), some x, some (.ref q0), some (.int (s.row : Nat)), some (.tup (s.ws.map oI)), some (.int s.cnt), some (.tup (iL s.said)), some (.ref q7), f, i, j, k] ∧ h q0 = some (.lst ds) ∧ FrA h0 h ∧ h q7 = some (.lst es) ∧ q7 ≠ q0 ∧ h0 q7 = none
theorem told_by_ok (ds : List D) (h : DHp) (Q : DQ) (hl : ds.length = 2) (hs : sp_told_by ds h Q (fun _ _ => False)) : rd_told_by (EN Q) (startD N_told_by ds) h := by
  obtain ⟨labs, shs, top, fr, x, e, ex, lo, ll, sl, so, k⟩ := hs
  subst e
  simp only [rd_told_by, N_told_by, rSeq, rCut, rAnd, rOr, rNot, rB, rOp, rDG, rDG2, rDIn, rVar, rC, DX.rEqD, DX.rNeD, rLstF, rLstM, rNil, rCons, rTup, rDP, DX.rLP, rRepL', rRepr, rNeg, rEnum, rDictZip, DX.rSortedSet, rBM, rPop0, DX.rAppend, rIf, rAsg, gN, gT, gsC, gs0, rRet, rDrop, DX.rI, rNext, rCont, rBreak, rCB, DX.rLen, rTuple, rTupleN, rTIdx, rList, rAbs, rMax2, rMin2, rIntB, rStrI, DX.rIsi, rIsN, rNotN, DX.rIx, rFrz, rNotV, rAndV, rOrV, rIfE, rSl, rSlT', rSlL', rPt, rNoP, rCatT', rCatL', newL, rCatS, rInD', rIndex', rCall, rSq, rRg1, rRg2, rChain, rYes, rNewK, rNewT, Tg.d, tgsD, wipeD, startD, and_assoc, atI_0, atI_1, atI_2, atI_3, String.reduceEq, Nat.reduceLeDiff, exists_and_left, exists_and_right, resD_int, resD_str, resD_bl, resD_non, resD_tup, resD_lst, resD_ktup, dat_int, dat_str, dat_bl, dat_non, dat_nil, eqv_int, eqv_str, eqv_nil, eqv_tnil, seqD_tup, seqD_lst, seqD_ktup, seqD_klst, resD_klst, seqL_lst, isN_non, isN_int, isN_str, isN_bl, isN_tup, isN_lst, isN_ref, Bool.not_eq_true', Bool.not_eq_true, decide_eq_false_iff_not, Nat.zero_le, List.map, List.length, List.replicate, List.cons_append, List.nil_append, List.getElem?_cons_zero, List.getElem?_cons_succ, List.set_cons_zero, List.set_cons_succ, Nat.sub_self, Nat.reduceAdd, Nat.reduceSub, Option.some.injEq, D.int.injEq, D.ref.injEq, D.bl.injEq, D.str.injEq, D.tup.injEq, D.lst.injEq, List.cons.injEq, and_true, true_and, exists_eq_left, exists_eq_left', exists_eq', exists_eq_right, exists_const, Bool.true_eq_false, Bool.false_eq_true, if_true, if_false, ite_true, ite_false, decide_eq_true_eq]
  intro q0 nq0
  refine ⟨TM labs x q0 h (momD labs shs), ?_, ?_⟩
  · simp only [rFor, rSeq, rCut, rAnd, rOr, rNot, rB, rOp, rDG, rDG2, rDIn, rVar, rC, DX.rEqD, DX.rNeD, rLstF, rLstM, rNil, rCons, rTup, rDP, DX.rLP, rRepL', rRepr, rNeg, rEnum, rDictZip, DX.rSortedSet, rBM, rPop0, DX.rAppend, rIf, rAsg, gN, gT, gsC, gs0, rRet, rDrop, DX.rI, rNext, rCont, rBreak, rCB, DX.rLen, rTuple, rTupleN, rTIdx, rList, rAbs, rMax2, rMin2, rIntB, rStrI, DX.rIsi, rIsN, rNotN, DX.rIx, rFrz, rNotV, rAndV, rOrV, rIfE, rSl, rSlT', rSlL', rPt, rNoP, rCatT', rCatL', newL, rCatS, rInD', rIndex', rCall, rSq, rRg1, rRg2, rChain, rYes, rNewK, rNewT, Tg.d, tgsD, wipeD, startD, and_assoc, atI_0, atI_1, atI_2, atI_3, String.reduceEq, Nat.reduceLeDiff, exists_and_left, exists_and_right, resD_int, resD_str, resD_bl, resD_non, resD_tup, resD_lst, resD_ktup, dat_int, dat_str, dat_bl, dat_non, dat_nil, eqv_int, eqv_str, eqv_nil, eqv_tnil, seqD_tup, seqD_lst, seqD_ktup, seqD_klst, resD_klst, seqL_lst, isN_non, isN_int, isN_str, isN_bl, isN_tup, isN_lst, isN_ref, Bool.not_eq_true', Bool.not_eq_true, decide_eq_false_iff_not, Nat.zero_le, List.map, List.length, List.replicate, List.cons_append, List.nil_append, List.getElem?_cons_zero, List.getElem?_cons_succ, List.set_cons_zero, List.set_cons_succ, Nat.sub_self, Nat.reduceAdd, Nat.reduceSub, Option.some.injEq, D.int.injEq, D.ref.injEq, D.bl.injEq, D.str.injEq, D.tup.injEq, D.lst.injEq, List.cons.injEq, and_true, true_and, exists_eq_left, exists_eq_left', exists_eq', exists_eq_right, exists_const, Bool.true_eq_false, Bool.false_eq_true, if_true, if_false, ite_true, ite_false, decide_eq_true_eq]
    refine ⟨_, seqD_frA (FrA.new nq0) ex, fun i => TM labs x q0 h (momD labs (shs.take i)), ⟨_, _, _, _, _, _, _, _, _, rfl, updD_same, FrA.refl.upd nq0⟩, ?_, ?_⟩
    · rintro i y ρ h1 hy ⟨a, b, c, d, e, f, i1, j1, k1, rfl, cq, f1⟩
      rw [List.getElem?_map] at hy
      obtain ⟨s, es, rfl⟩ := Option.map_eq_some_iff.mp hy
      have sok := so s (List.mem_of_getElem? es)
      refine ⟨seqD_frA f1 ex, ?_⟩
      simp only [Sh.d, rSeq, rCut, rAnd, rOr, rNot, rB, rOp, rDG, rDG2, rDIn, rVar, rC, DX.rEqD, DX.rNeD, rLstF, rLstM, rNil, rCons, rTup, rDP, DX.rLP, rRepL', rRepr, rNeg, rEnum, rDictZip, DX.rSortedSet, rBM, rPop0, DX.rAppend, rIf, rAsg, gN, gT, gsC, gs0, rRet, rDrop, DX.rI, rNext, rCont, rBreak, rCB, DX.rLen, rTuple, rTupleN, rTIdx, rList, rAbs, rMax2, rMin2, rIntB, rStrI, DX.rIsi, rIsN, rNotN, DX.rIx, rFrz, rNotV, rAndV, rOrV, rIfE, rSl, rSlT', rSlL', rPt, rNoP, rCatT', rCatL', newL, rCatS, rInD', rIndex', rCall, rSq, rRg1, rRg2, rChain, rYes, rNewK, rNewT, Tg.d, tgsD, wipeD, startD, and_assoc, atI_0, atI_1, atI_2, atI_3, String.reduceEq, Nat.reduceLeDiff, exists_and_left, exists_and_right, resD_int, resD_str, resD_bl, resD_non, resD_tup, resD_lst, resD_ktup, dat_int, dat_str, dat_bl, dat_non, dat_nil, eqv_int, eqv_str, eqv_nil, eqv_tnil, seqD_tup, seqD_lst, seqD_ktup, seqD_klst, resD_klst, seqL_lst, isN_non, isN_int, isN_str, isN_bl, isN_tup, isN_lst, isN_ref, Bool.not_eq_true', Bool.not_eq_true, decide_eq_false_iff_not, Nat.zero_le, List.map, List.length, List.replicate, List.cons_append, List.nil_append, List.getElem?_cons_zero, List.getElem?_cons_succ, List.set_cons_zero, List.set_cons_succ, Nat.sub_self, Nat.reduceAdd, Nat.reduceSub, Option.some.injEq, D.int.injEq, D.ref.injEq, D.bl.injEq, D.str.injEq, D.tup.injEq, D.lst.injEq, List.cons.injEq, and_true, true_and, exists_eq_left, exists_eq_left', exists_eq', exists_eq_right, exists_const, Bool.true_eq_false, Bool.false_eq_true, if_true, if_false, ite_true, ite_false, decide_eq_true_eq]
      have hlab : labs[s.row]? = some (labs[s.row]'sok.row) := List.getElem?_eq_getElem sok.row
      generalize labs[s.row]'sok.row = lab at hlab
      have la : atI (labs.map labD) (s.row : Nat) = some (labD lab) := atI_nat (by rw [List.getElem?_map, hlab]; rfl)
      have lok := lo lab (List.mem_of_getElem? hlab)
      have nx := mom_next (labs := labs) es
      have m1 : momD labs [s] = (match lab with | none => [] | some fs => [.tup [.tup (fs.map (frD s.ws)), .int s.cnt, .tup (iL s.said)]]) := by
        unfold momD
        cases lab <;> simp [hlab]
      refine ⟨_, la, ?_⟩
      cases lab with
      | none =>
        rw [if_neg (by simp [labD, D.isN])]
        refine ⟨_, _, _, _, _, _, _, _, _, rfl, ?_, f1⟩
        rw [nx, m1]
        simp only [List.append_nil]
        exact cq
      | some fs =>
        obtain ⟨f3, fok⟩ := lok fs rfl
        rw [if_pos (by simp [labD, D.isN])]
        intro q7 nq7
        have q70 : q7 ≠ q0 := fun z => by rw [z, cq] at nq7; cases nq7
        have nq7h : h q7 = none := by
          cases z : h q7 with
          | none => rfl
          | some c => rw [f1 q7 c z] at nq7; cases nq7
        refine ⟨TF labs x q0 q7 h s (momD labs (shs.take i)) (fs.map (frD s.ws)), ⟨_, la, _, rfl, ?_⟩, ?_⟩
        · refine ⟨fun j => TF labs x q0 q7 h s (momD labs (shs.take i)) ((fs.take j).map (frD s.ws)), ⟨_, _, _, _, rfl, by rw [updD_ne q70.symm]; exact cq, f1.upd nq7h, updD_same, q70, nq7h⟩, ?_, ?_⟩
          · rintro j z ρ h2 hz ⟨f', i', j', k', rfl, cq2, f2, c7, n70, n7h⟩
            rw [List.getElem?_map] at hz
            obtain ⟨x1, ex1, rfl⟩ := Option.map_eq_some_iff.mp hz
            obtain ⟨o1, o2, o3, o4, o5, o6⟩ := fok x1 (List.mem_of_getElem? ex1)
            simp only [fmD, rSeq, rCut, rAnd, rOr, rNot, rB, rOp, rDG, rDG2, rDIn, rVar, rC, DX.rEqD, DX.rNeD, rLstF, rLstM, rNil, rCons, rTup, rDP, DX.rLP, rRepL', rRepr, rNeg, rEnum, rDictZip, DX.rSortedSet, rBM, rPop0, DX.rAppend, rIf, rAsg, gN, gT, gsC, gs0, rRet, rDrop, DX.rI, rNext, rCont, rBreak, rCB, DX.rLen, rTuple, rTupleN, rTIdx, rList, rAbs, rMax2, rMin2, rIntB, rStrI, DX.rIsi, rIsN, rNotN, DX.rIx, rFrz, rNotV, rAndV, rOrV, rIfE, rSl, rSlT', rSlL', rPt, rNoP, rCatT', rCatL', newL, rCatS, rInD', rIndex', rCall, rSq, rRg1, rRg2, rChain, rYes, rNewK, rNewT, Tg.d, tgsD, wipeD, startD, and_assoc, atI_0, atI_1, atI_2, atI_3, String.reduceEq, Nat.reduceLeDiff, exists_and_left, exists_and_right, resD_int, resD_str, resD_bl, resD_non, resD_tup, resD_lst, resD_ktup, dat_int, dat_str, dat_bl, dat_non, dat_nil, eqv_int, eqv_str, eqv_nil, eqv_tnil, seqD_tup, seqD_lst, seqD_ktup, seqD_klst, resD_klst, seqL_lst, isN_non, isN_int, isN_str, isN_bl, isN_tup, isN_lst, isN_ref, Bool.not_eq_true', Bool.not_eq_true, decide_eq_false_iff_not, Nat.zero_le, List.map, List.length, List.replicate, List.cons_append, List.nil_append, List.getElem?_cons_zero, List.getElem?_cons_succ, List.set_cons_zero, List.set_cons_succ, Nat.sub_self, Nat.reduceAdd, Nat.reduceSub, Option.some.injEq, D.int.injEq, D.ref.injEq, D.bl.injEq, D.str.injEq, D.tup.injEq, D.lst.injEq, List.cons.injEq, and_true, true_and, exists_eq_left, exists_eq_left', exists_eq', exists_eq_right, exists_const, Bool.true_eq_false, Bool.false_eq_true, if_true, if_false, ite_true, ite_false, decide_eq_true_eq]
            refine ⟨rfl, isLst_ref c7, ?_⟩
            refine lc_pure (iL x1.2.2) (fun _ => True) (fSl s.ws) (fun R rr => ?_) (by simp [iL]; omega) (fun _ _ _ => trivial) (fun m d C acc P1 P0 hd hC k1 k0 => ?_) ?_
            · simp only [rSeq, rCut, rAnd, rOr, rNot, rB, rOp, rDG, rDG2, rDIn, rVar, rC, DX.rEqD, DX.rNeD, rLstF, rLstM, rNil, rCons, rTup, rDP, DX.rLP, rRepL', rRepr, rNeg, rEnum, rDictZip, DX.rSortedSet, rBM, rPop0, DX.rAppend, rIf, rAsg, gN, gT, gsC, gs0, rRet, rDrop, DX.rI, rNext, rCont, rBreak, rCB, DX.rLen, rTuple, rTupleN, rTIdx, rList, rAbs, rMax2, rMin2, rIntB, rStrI, DX.rIsi, rIsN, rNotN, DX.rIx, rFrz, rNotV, rAndV, rOrV, rIfE, rSl, rSlT', rSlL', rPt, rNoP, rCatT', rCatL', newL, rCatS, rInD', rIndex', rCall, rSq, rRg1, rRg2, rChain, rYes, rNewK, rNewT, Tg.d, tgsD, wipeD, startD, and_assoc, atI_0, atI_1, atI_2, atI_3, String.reduceEq, Nat.reduceLeDiff, exists_and_left, exists_and_right, resD_int, resD_str, resD_bl, resD_non, resD_tup, resD_lst, resD_ktup, dat_int, dat_str, dat_bl, dat_non, dat_nil, eqv_int, eqv_str, eqv_nil, eqv_tnil, seqD_tup, seqD_lst, seqD_ktup, seqD_klst, resD_klst, seqL_lst, isN_non, isN_int, isN_str, isN_bl, isN_tup, isN_lst, isN_ref, Bool.not_eq_true', Bool.not_eq_true, decide_eq_false_iff_not, Nat.zero_le, List.map, List.length, List.replicate, List.cons_append, List.nil_append, List.getElem?_cons_zero, List.getElem?_cons_succ, List.set_cons_zero, List.set_cons_succ, Nat.sub_self, Nat.reduceAdd, Nat.reduceSub, Option.some.injEq, D.int.injEq, D.ref.injEq, D.bl.injEq, D.str.injEq, D.tup.injEq, D.lst.injEq, List.cons.injEq, and_true, true_and, exists_eq_left, exists_eq_left', exists_eq', exists_eq_right, exists_const, Bool.true_eq_false, Bool.false_eq_true, if_true, if_false, ite_true, ite_false, decide_eq_true_eq]
              exact rr
            · obtain ⟨sv, hsv, rfl⟩ := List.mem_map.mp (List.mem_of_getElem? hd)
              simp only [rSeq, rCut, rAnd, rOr, rNot, rB, rOp, rDG, rDG2, rDIn, rVar, rC, DX.rEqD, DX.rNeD, rLstF, rLstM, rNil, rCons, rTup, rDP, DX.rLP, rRepL', rRepr, rNeg, rEnum, rDictZip, DX.rSortedSet, rBM, rPop0, DX.rAppend, rIf, rAsg, gN, gT, gsC, gs0, rRet, rDrop, DX.rI, rNext, rCont, rBreak, rCB, DX.rLen, rTuple, rTupleN, rTIdx, rList, rAbs, rMax2, rMin2, rIntB, rStrI, DX.rIsi, rIsN, rNotN, DX.rIx, rFrz, rNotV, rAndV, rOrV, rIfE, rSl, rSlT', rSlL', rPt, rNoP, rCatT', rCatL', newL, rCatS, rInD', rIndex', rCall, rSq, rRg1, rRg2, rChain, rYes, rNewK, rNewT, Tg.d, tgsD, wipeD, startD, and_assoc, atI_0, atI_1, atI_2, atI_3, String.reduceEq, Nat.reduceLeDiff, exists_and_left, exists_and_right, resD_int, resD_str, resD_bl, resD_non, resD_tup, resD_lst, resD_ktup, dat_int, dat_str, dat_bl, dat_non, dat_nil, eqv_int, eqv_str, eqv_nil, eqv_tnil, seqD_tup, seqD_lst, seqD_ktup, seqD_klst, resD_klst, seqL_lst, isN_non, isN_int, isN_str, isN_bl, isN_tup, isN_lst, isN_ref, Bool.not_eq_true', Bool.not_eq_true, decide_eq_false_iff_not, Nat.zero_le, List.map, List.length, List.replicate, List.cons_append, List.nil_append, List.getElem?_cons_zero, List.getElem?_cons_succ, List.set_cons_zero, List.set_cons_succ, Nat.sub_self, Nat.reduceAdd, Nat.reduceSub, Option.some.injEq, D.int.injEq, D.ref.injEq, D.bl.injEq, D.str.injEq, D.tup.injEq, D.lst.injEq, List.cons.injEq, and_true, true_and, exists_eq_left, exists_eq_left', exists_eq', exists_eq_right, exists_const, Bool.true_eq_false, Bool.false_eq_true, if_true, if_false, ite_true, ite_false, decide_eq_true_eq]
              have := o6 sv hsv
              exact ⟨_, ws_at this.1 (by have := sok.ws; omega), k1 _ rfl⟩
            · rw [sl_all]
              simp only [newL, rSeq, rCut, rAnd, rOr, rNot, rB, rOp, rDG, rDG2, rDIn, rVar, rC, DX.rEqD, DX.rNeD, rLstF, rLstM, rNil, rCons, rTup, rDP, DX.rLP, rRepL', rRepr, rNeg, rEnum, rDictZip, DX.rSortedSet, rBM, rPop0, DX.rAppend, rIf, rAsg, gN, gT, gsC, gs0, rRet, rDrop, DX.rI, rNext, rCont, rBreak, rCB, DX.rLen, rTuple, rTupleN, rTIdx, rList, rAbs, rMax2, rMin2, rIntB, rStrI, DX.rIsi, rIsN, rNotN, DX.rIx, rFrz, rNotV, rAndV, rOrV, rIfE, rSl, rSlT', rSlL', rPt, rNoP, rCatT', rCatL', newL, rCatS, rInD', rIndex', rCall, rSq, rRg1, rRg2, rChain, rYes, rNewK, rNewT, Tg.d, tgsD, wipeD, startD, and_assoc, atI_0, atI_1, atI_2, atI_3, String.reduceEq, Nat.reduceLeDiff, exists_and_left, exists_and_right, resD_int, resD_str, resD_bl, resD_non, resD_tup, resD_lst, resD_ktup, dat_int, dat_str, dat_bl, dat_non, dat_nil, eqv_int, eqv_str, eqv_nil, eqv_tnil, seqD_tup, seqD_lst, seqD_ktup, seqD_klst, resD_klst, seqL_lst, isN_non, isN_int, isN_str, isN_bl, isN_tup, isN_lst, isN_ref, Bool.not_eq_true', Bool.not_eq_true, decide_eq_false_iff_not, Nat.zero_le, List.map, List.length, List.replicate, List.cons_append, List.nil_append, List.getElem?_cons_zero, List.getElem?_cons_succ, List.set_cons_zero, List.set_cons_succ, Nat.sub_self, Nat.reduceAdd, Nat.reduceSub, Option.some.injEq, D.int.injEq, D.ref.injEq, D.bl.injEq, D.str.injEq, D.tup.injEq, D.lst.injEq, List.cons.injEq, and_true, true_and, exists_eq_left, exists_eq_left', exists_eq', exists_eq_right, exists_const, Bool.true_eq_false, Bool.false_eq_true, if_true, if_false, ite_true, ite_false, decide_eq_true_eq]
              refine ⟨_, c7, by rw [List.length_map, sizeLine_eq, List.length_take]; omega, ?_⟩
              refine ⟨_, _, _, _, rfl, by rw [updD_ne n70.symm]; exact cq2, f2.upd n7h, ?_, n70, n7h⟩
              rw [List.take_add_one, ex1, List.map_append]
              exact updD_same
          · rintro ρ h2 ⟨f', i', j', k', rfl, cq2, f2, c7, n70, n7h⟩
            rw [List.length_map, List.take_length] at c7
            exact ⟨rfl, _, _, _, _, rfl, cq2, f2, c7, n70, n7h⟩
        · rintro ρ h2 ⟨f', i', j', k', rfl, cq2, f2, c7, n70, n7h⟩
          simp only [rSeq, rCut, rAnd, rOr, rNot, rB, rOp, rDG, rDG2, rDIn, rVar, rC, DX.rEqD, DX.rNeD, rLstF, rLstM, rNil, rCons, rTup, rDP, DX.rLP, rRepL', rRepr, rNeg, rEnum, rDictZip, DX.rSortedSet, rBM, rPop0, DX.rAppend, rIf, rAsg, gN, gT, gsC, gs0, rRet, rDrop, DX.rI, rNext, rCont, rBreak, rCB, DX.rLen, rTuple, rTupleN, rTIdx, rList, rAbs, rMax2, rMin2, rIntB, rStrI, DX.rIsi, rIsN, rNotN, DX.rIx, rFrz, rNotV, rAndV, rOrV, rIfE, rSl, rSlT', rSlL', rPt, rNoP, rCatT', rCatL', newL, rCatS, rInD', rIndex', rCall, rSq, rRg1, rRg2, rChain, rYes, rNewK, rNewT, Tg.d, tgsD, wipeD, startD, and_assoc, atI_0, atI_1, atI_2, atI_3, String.reduceEq, Nat.reduceLeDiff, exists_and_left, exists_and_right, resD_int, resD_str, resD_bl, resD_non, resD_tup, resD_lst, resD_ktup, dat_int, dat_str, dat_bl, dat_non, dat_nil, eqv_int, eqv_str, eqv_nil, eqv_tnil, seqD_tup, seqD_lst, seqD_ktup, seqD_klst, resD_klst, seqL_lst, isN_non, isN_int, isN_str, isN_bl, isN_tup, isN_lst, isN_ref, Bool.not_eq_true', Bool.not_eq_true, decide_eq_false_iff_not, Nat.zero_le, List.map, List.length, List.replicate, List.cons_append, List.nil_append, List.getElem?_cons_zero, List.getElem?_cons_succ, List.set_cons_zero, List.set_cons_succ, Nat.sub_self, Nat.reduceAdd, Nat.reduceSub, Option.some.injEq, D.int.injEq, D.ref.injEq, D.bl.injEq, D.str.injEq, D.tup.injEq, D.lst.injEq, List.cons.injEq, and_true, true_and, exists_eq_left, exists_eq_left', exists_eq', exists_eq_right, exists_const, Bool.true_eq_false, Bool.false_eq_true, if_true, if_false, ite_true, ite_false, decide_eq_true_eq]
          have ml := mom_len labs (shs.take i)
          rw [List.length_take] at ml
          refine ⟨isLst_ref cq2, _, seqD_ref c7, _, cq2, by rw [sizeLine_eq]; omega, ?_⟩
          refine ⟨_, _, _, _, _, _, _, _, _, rfl, ?_, f2.upd nq0⟩
          rw [nx, m1]
          exact updD_same
    · rintro ρ h1 ⟨a, b, c, d, e, f, i1, j1, k1, rfl, cq, f1⟩
      rw [List.length_map, List.take_length] at cq
      exact ⟨seqD_frA f1 ex, _, _, _, _, _, _, _, _, _, rfl, cq, f1⟩
  · rintro ρ h1 ⟨a, b, c, d, e, f, i1, j1, k1, rfl, cq, f1⟩
    simp only [rSeq, rCut, rAnd, rOr, rNot, rB, rOp, rDG, rDG2, rDIn, rVar, rC, DX.rEqD, DX.rNeD, rLstF, rLstM, rNil, rCons, rTup, rDP, DX.rLP, rRepL', rRepr, rNeg, rEnum, rDictZip, DX.rSortedSet, rBM, rPop0, DX.rAppend, rIf, rAsg, gN, gT, gsC, gs0, rRet, rDrop, DX.rI, rNext, rCont, rBreak, rCB, DX.rLen, rTuple, rTupleN, rTIdx, rList, rAbs, rMax2, rMin2, rIntB, rStrI, DX.rIsi, rIsN, rNotN, DX.rIx, rFrz, rNotV, rAndV, rOrV, rIfE, rSl, rSlT', rSlL', rPt, rNoP, rCatT', rCatL', newL, rCatS, rInD', rIndex', rCall, rSq, rRg1, rRg2, rChain, rYes, rNewK, rNewT, Tg.d, tgsD, wipeD, startD, and_assoc, atI_0, atI_1, atI_2, atI_3, String.reduceEq, Nat.reduceLeDiff, exists_and_left, exists_and_right, resD_int, resD_str, resD_bl, resD_non, resD_tup, resD_lst, resD_ktup, dat_int, dat_str, dat_bl, dat_non, dat_nil, eqv_int, eqv_str, eqv_nil, eqv_tnil, seqD_tup, seqD_lst, seqD_ktup, seqD_klst, resD_klst, seqL_lst, isN_non, isN_int, isN_str, isN_bl, isN_tup, isN_lst, isN_ref, Bool.not_eq_true', Bool.not_eq_true, decide_eq_false_iff_not, Nat.zero_le, List.map, List.length, List.replicate, List.cons_append, List.nil_append, List.getElem?_cons_zero, List.getElem?_cons_succ, List.set_cons_zero, List.set_cons_succ, Nat.sub_self, Nat.reduceAdd, Nat.reduceSub, Option.some.injEq, D.int.injEq, D.ref.injEq, D.bl.injEq, D.str.injEq, D.tup.injEq, D.lst.injEq, List.cons.injEq, and_true, true_and, exists_eq_left, exists_eq_left', exists_eq', exists_eq_right, exists_const, Bool.true_eq_false, Bool.false_eq_true, if_true, if_false, ite_true, ite_false, decide_eq_true_eq]
    exact k q0 h1 nq0 cq f1
theorem moments_ok (ds : List D) (h : DHp) (Q : DQ) (hl : ds.length = 2) (hs : sp_p_moments_of ds h Q (fun _ _ => False)) : rd_p_moments_of (EN Q) (startD N_p_moments_of ds) h := by
  obtain ⟨labs, shs, top, fr, x, e, ex, lo, ll, sl, so, k⟩ := hs
  subst e
  simp only [rd_p_moments_of, N_p_moments_of, rSeq, rCut, rAnd, rOr, rNot, rB, rOp, rDG, rDG2, rDIn, rVar, rC, DX.rEqD, DX.rNeD, rLstF, rLstM, rNil, rCons, rTup, rDP, DX.rLP, rRepL', rRepr, rNeg, rEnum, rDictZip, DX.rSortedSet, rBM, rPop0, DX.rAppend, rIf, rAsg, gN, gT, gsC, gs0, rRet, rDrop, DX.rI, rNext, rCont, rBreak, rCB, DX.rLen, rTuple, rTupleN, rTIdx, rList, rAbs, rMax2, rMin2, rIntB, rStrI, DX.rIsi, rIsN, rNotN, DX.rIx, rFrz, rNotV, rAndV, rOrV, rIfE, rSl, rSlT', rSlL', rPt, rNoP, rCatT', rCatL', newL, rCatS, rInD', rIndex', rCall, rSq, rRg1, rRg2, rChain, rYes, rNewK, rNewT, Tg.d, tgsD, wipeD, startD, and_assoc, atI_0, atI_1, atI_2, atI_3, String.reduceEq, Nat.reduceLeDiff, exists_and_left, exists_and_right, resD_int, resD_str, resD_bl, resD_non, resD_tup, resD_lst, resD_ktup, dat_int, dat_str, dat_bl, dat_non, dat_nil, eqv_int, eqv_str, eqv_nil, eqv_tnil, seqD_tup, seqD_lst, seqD_ktup, seqD_klst, resD_klst, seqL_lst, isN_non, isN_int, isN_str, isN_bl, isN_tup, isN_lst, isN_ref, Bool.not_eq_true', Bool.not_eq_true, decide_eq_false_iff_not, Nat.zero_le, List.map, List.length, List.replicate, List.cons_append, List.nil_append, List.getElem?_cons_zero, List.getElem?_cons_succ, List.set_cons_zero, List.set_cons_succ, Nat.sub_self, Nat.reduceAdd, Nat.reduceSub, Option.some.injEq, D.int.injEq, D.ref.injEq, D.bl.injEq, D.str.injEq, D.tup.injEq, D.lst.injEq, List.cons.injEq, and_true, true_and, exists_eq_left, exists_eq_left', exists_eq', exists_eq_right, exists_const, Bool.true_eq_false, Bool.false_eq_true, if_true, if_false, ite_true, ite_false, decide_eq_true_eq]
  intro q0 nq0
  refine ⟨TM labs x q0 h (momD labs shs), ?_, ?_⟩
  · simp only [rFor, rSeq, rCut, rAnd, rOr, rNot, rB, rOp, rDG, rDG2, rDIn, rVar, rC, DX.rEqD, DX.rNeD, rLstF, rLstM, rNil, rCons, rTup, rDP, DX.rLP, rRepL', rRepr, rNeg, rEnum, rDictZip, DX.rSortedSet, rBM, rPop0, DX.rAppend, rIf, rAsg, gN, gT, gsC, gs0, rRet, rDrop, DX.rI, rNext, rCont, rBreak, rCB, DX.rLen, rTuple, rTupleN, rTIdx, rList, rAbs, rMax2, rMin2, rIntB, rStrI, DX.rIsi, rIsN, rNotN, DX.rIx, rFrz, rNotV, rAndV, rOrV, rIfE, rSl, rSlT', rSlL', rPt, rNoP, rCatT', rCatL', newL, rCatS, rInD', rIndex', rCall, rSq, rRg1, rRg2, rChain, rYes, rNewK, rNewT, Tg.d, tgsD, wipeD, startD, and_assoc, atI_0, atI_1, atI_2, atI_3, String.reduceEq, Nat.reduceLeDiff, exists_and_left, exists_and_right, resD_int, resD_str, resD_bl, resD_non, resD_tup, resD_lst, resD_ktup, dat_int, dat_str, dat_bl, dat_non, dat_nil, eqv_int, eqv_str, eqv_nil, eqv_tnil, seqD_tup, seqD_lst, seqD_ktup, seqD_klst, resD_klst, seqL_lst, isN_non, isN_int, isN_str, isN_bl, isN_tup, isN_lst, isN_ref, Bool.not_eq_true', Bool.not_eq_true, decide_eq_false_iff_not, Nat.zero_le, List.map, List.length, List.replicate, List.cons_append, List.nil_append, List.getElem?_cons_zero, List.getElem?_cons_succ, List.set_cons_zero, List.set_cons_succ, Nat.sub_self, Nat.reduceAdd, Nat.reduceSub, Option.some.injEq, D.int.injEq, D.ref.injEq, D.bl.injEq, D.str.injEq, D.tup.injEq, D.lst.injEq, List.cons.injEq, and_true, true_and, exists_eq_left, exists_eq_left', exists_eq', exists_eq_right, exists_const, Bool.true_eq_false, Bool.false_eq_true, if_true, if_false, ite_true, ite_false, decide_eq_true_eq]
    refine ⟨_, seqD_frA (FrA.new nq0) ex, fun i => TM labs x q0 h (momD labs (shs.take i)), ⟨_, _, _, _, _, _, _, _, _, rfl, updD_same, FrA.refl.upd nq0⟩, ?_, ?_⟩
    · rintro i y ρ h1 hy ⟨a, b, c, d, e, f, i1, j1, k1, rfl, cq, f1⟩
      rw [List.getElem?_map] at hy
      obtain ⟨s, es, rfl⟩ := Option.map_eq_some_iff.mp hy
      have sok := so s (List.mem_of_getElem? es)
      refine ⟨seqD_frA f1 ex, ?_⟩
      simp only [Sh.d, rSeq, rCut, rAnd, rOr, rNot, rB, rOp, rDG, rDG2, rDIn, rVar, rC, DX.rEqD, DX.rNeD, rLstF, rLstM, rNil, rCons, rTup, rDP, DX.rLP, rRepL', rRepr, rNeg, rEnum, rDictZip, DX.rSortedSet, rBM, rPop0, DX.rAppend, rIf, rAsg, gN, gT, gsC, gs0, rRet, rDrop, DX.rI, rNext, rCont, rBreak, rCB, DX.rLen, rTuple, rTupleN, rTIdx, rList, rAbs, rMax2, rMin2, rIntB, rStrI, DX.rIsi, rIsN, rNotN, DX.rIx, rFrz, rNotV, rAndV, rOrV, rIfE, rSl, rSlT', rSlL', rPt, rNoP, rCatT', rCatL', newL, rCatS, rInD', rIndex', rCall, rSq, rRg1, rRg2, rChain, rYes, rNewK, rNewT, Tg.d, tgsD, wipeD, startD, and_assoc, atI_0, atI_1, atI_2, atI_3, String.reduceEq, Nat.reduceLeDiff, exists_and_left, exists_and_right, resD_int, resD_str, resD_bl, resD_non, resD_tup, resD_lst, resD_ktup, dat_int, dat_str, dat_bl, dat_non, dat_nil, eqv_int, eqv_str, eqv_nil, eqv_tnil, seqD_tup, seqD_lst, seqD_ktup, seqD_klst, resD_klst, seqL_lst, isN_non, isN_int, isN_str, isN_bl, isN_tup, isN_lst, isN_ref, Bool.not_eq_true', Bool.not_eq_true, decide_eq_false_iff_not, Nat.zero_le, List.map, List.length, List.replicate, List.cons_append, List.nil_append, List.getElem?_cons_zero, List.getElem?_cons_succ, List.set_cons_zero, List.set_cons_succ, Nat.sub_self, Nat.reduceAdd, Nat.reduceSub, Option.some.injEq, D.int.injEq, D.ref.injEq, D.bl.injEq, D.str.injEq, D.tup.injEq, D.lst.injEq, List.cons.injEq, and_true, true_and, exists_eq_left, exists_eq_left', exists_eq', exists_eq_right, exists_const, Bool.true_eq_false, Bool.false_eq_true, if_true, if_false, ite_true, ite_false, decide_eq_true_eq]
      have hlab : labs[s.row]? = some (labs[s.row]'sok.row) := List.getElem?_eq_getElem sok.row
      generalize labs[s.row]'sok.row = lab at hlab
      have la : atI (labs.map labD) (s.row : Nat) = some (labD lab) := atI_nat (by rw [List.getElem?_map, hlab]; rfl)
      have lok := lo lab (List.mem_of_getElem? hlab)
      have nx := mom_next (labs := labs) es
      have m1 : momD labs [s] = (match lab with | none => [] | some fs => [.tup [.tup (fs.map (frD s.ws)), .int s.cnt, .tup (iL s.said)]]) := by
        unfold momD
        cases lab <;> simp [hlab]
      refine ⟨_, la, ?_⟩
      cases lab with
      | none =>
        rw [if_neg (by simp [labD, D.isN])]
        refine ⟨_, _, _, _, _, _, _, _, _, rfl, ?_, f1⟩
        rw [nx, m1]
        simp only [List.append_nil]
        exact cq
      | some fs =>
        obtain ⟨f3, fok⟩ := lok fs rfl
        rw [if_pos (by simp [labD, D.isN])]
        refine lc_pure (fs.map fmD) (fun h => seqD h (labD (some fs)) = some (fs.map fmD)) (fFr s.ws) (fun R rr => ?_) (by rw [List.length_map]; omega) (fun _ _ _ => rfl) (fun m d C acc P1 P0 hd hC k1 k0 => ?_) ?_
        · simp only [rSeq, rCut, rAnd, rOr, rNot, rB, rOp, rDG, rDG2, rDIn, rVar, rC, DX.rEqD, DX.rNeD, rLstF, rLstM, rNil, rCons, rTup, rDP, DX.rLP, rRepL', rRepr, rNeg, rEnum, rDictZip, DX.rSortedSet, rBM, rPop0, DX.rAppend, rIf, rAsg, gN, gT, gsC, gs0, rRet, rDrop, DX.rI, rNext, rCont, rBreak, rCB, DX.rLen, rTuple, rTupleN, rTIdx, rList, rAbs, rMax2, rMin2, rIntB, rStrI, DX.rIsi, rIsN, rNotN, DX.rIx, rFrz, rNotV, rAndV, rOrV, rIfE, rSl, rSlT', rSlL', rPt, rNoP, rCatT', rCatL', newL, rCatS, rInD', rIndex', rCall, rSq, rRg1, rRg2, rChain, rYes, rNewK, rNewT, Tg.d, tgsD, wipeD, startD, and_assoc, atI_0, atI_1, atI_2, atI_3, String.reduceEq, Nat.reduceLeDiff, exists_and_left, exists_and_right, resD_int, resD_str, resD_bl, resD_non, resD_tup, resD_lst, resD_ktup, dat_int, dat_str, dat_bl, dat_non, dat_nil, eqv_int, eqv_str, eqv_nil, eqv_tnil, seqD_tup, seqD_lst, seqD_ktup, seqD_klst, resD_klst, seqL_lst, isN_non, isN_int, isN_str, isN_bl, isN_tup, isN_lst, isN_ref, Bool.not_eq_true', Bool.not_eq_true, decide_eq_false_iff_not, Nat.zero_le, List.map, List.length, List.replicate, List.cons_append, List.nil_append, List.getElem?_cons_zero, List.getElem?_cons_succ, List.set_cons_zero, List.set_cons_succ, Nat.sub_self, Nat.reduceAdd, Nat.reduceSub, Option.some.injEq, D.int.injEq, D.ref.injEq, D.bl.injEq, D.str.injEq, D.tup.injEq, D.lst.injEq, List.cons.injEq, and_true, true_and, exists_eq_left, exists_eq_left', exists_eq', exists_eq_right, exists_const, Bool.true_eq_false, Bool.false_eq_true, if_true, if_false, ite_true, ite_false, decide_eq_true_eq]
          exact ⟨_, la, _, rfl, rr⟩
        · rw [List.getElem?_map] at hd
          obtain ⟨x1, ex1, rfl⟩ := Option.map_eq_some_iff.mp hd
          obtain ⟨o1, o2, o3, o4, o5, o6⟩ := fok x1 (List.mem_of_getElem? ex1)
          simp only [fmD, rSeq, rCut, rAnd, rOr, rNot, rB, rOp, rDG, rDG2, rDIn, rVar, rC, DX.rEqD, DX.rNeD, rLstF, rLstM, rNil, rCons, rTup, rDP, DX.rLP, rRepL', rRepr, rNeg, rEnum, rDictZip, DX.rSortedSet, rBM, rPop0, DX.rAppend, rIf, rAsg, gN, gT, gsC, gs0, rRet, rDrop, DX.rI, rNext, rCont, rBreak, rCB, DX.rLen, rTuple, rTupleN, rTIdx, rList, rAbs, rMax2, rMin2, rIntB, rStrI, DX.rIsi, rIsN, rNotN, DX.rIx, rFrz, rNotV, rAndV, rOrV, rIfE, rSl, rSlT', rSlL', rPt, rNoP, rCatT', rCatL', newL, rCatS, rInD', rIndex', rCall, rSq, rRg1, rRg2, rChain, rYes, rNewK, rNewT, Tg.d, tgsD, wipeD, startD, and_assoc, atI_0, atI_1, atI_2, atI_3, String.reduceEq, Nat.reduceLeDiff, exists_and_left, exists_and_right, resD_int, resD_str, resD_bl, resD_non, resD_tup, resD_lst, resD_ktup, dat_int, dat_str, dat_bl, dat_non, dat_nil, eqv_int, eqv_str, eqv_nil, eqv_tnil, seqD_tup, seqD_lst, seqD_ktup, seqD_klst, resD_klst, seqL_lst, isN_non, isN_int, isN_str, isN_bl, isN_tup, isN_lst, isN_ref, Bool.not_eq_true', Bool.not_eq_true, decide_eq_false_iff_not, Nat.zero_le, List.map, List.length, List.replicate, List.cons_append, List.nil_append, List.getElem?_cons_zero, List.getElem?_cons_succ, List.set_cons_zero, List.set_cons_succ, Nat.sub_self, Nat.reduceAdd, Nat.reduceSub, Option.some.injEq, D.int.injEq, D.ref.injEq, D.bl.injEq, D.str.injEq, D.tup.injEq, D.lst.injEq, List.cons.injEq, and_true, true_and, exists_eq_left, exists_eq_left', exists_eq', exists_eq_right, exists_const, Bool.true_eq_false, Bool.false_eq_true, if_true, if_false, ite_true, ite_false, decide_eq_true_eq]
          refine lc_pure (iL x1.2.2) (fun _ => True) (fSl s.ws) (fun R rr => ?_) (by simp [iL]; omega) (fun _ _ _ => trivial) (fun m d C' acc' P1' P0' hd' hC' k1' k0' => ?_) ?_
          · simp only [rSeq, rCut, rAnd, rOr, rNot, rB, rOp, rDG, rDG2, rDIn, rVar, rC, DX.rEqD, DX.rNeD, rLstF, rLstM, rNil, rCons, rTup, rDP, DX.rLP, rRepL', rRepr, rNeg, rEnum, rDictZip, DX.rSortedSet, rBM, rPop0, DX.rAppend, rIf, rAsg, gN, gT, gsC, gs0, rRet, rDrop, DX.rI, rNext, rCont, rBreak, rCB, DX.rLen, rTuple, rTupleN, rTIdx, rList, rAbs, rMax2, rMin2, rIntB, rStrI, DX.rIsi, rIsN, rNotN, DX.rIx, rFrz, rNotV, rAndV, rOrV, rIfE, rSl, rSlT', rSlL', rPt, rNoP, rCatT', rCatL', newL, rCatS, rInD', rIndex', rCall, rSq, rRg1, rRg2, rChain, rYes, rNewK, rNewT, Tg.d, tgsD, wipeD, startD, and_assoc, atI_0, atI_1, atI_2, atI_3, String.reduceEq, Nat.reduceLeDiff, exists_and_left, exists_and_right, resD_int, resD_str, resD_bl, resD_non, resD_tup, resD_lst, resD_ktup, dat_int, dat_str, dat_bl, dat_non, dat_nil, eqv_int, eqv_str, eqv_nil, eqv_tnil, seqD_tup, seqD_lst, seqD_ktup, seqD_klst, resD_klst, seqL_lst, isN_non, isN_int, isN_str, isN_bl, isN_tup, isN_lst, isN_ref, Bool.not_eq_true', Bool.not_eq_true, decide_eq_false_iff_not, Nat.zero_le, List.map, List.length, List.replicate, List.cons_append, List.nil_append, List.getElem?_cons_zero, List.getElem?_cons_succ, List.set_cons_zero, List.set_cons_succ, Nat.sub_self, Nat.reduceAdd, Nat.reduceSub, Option.some.injEq, D.int.injEq, D.ref.injEq, D.bl.injEq, D.str.injEq, D.tup.injEq, D.lst.injEq, List.cons.injEq, and_true, true_and, exists_eq_left, exists_eq_left', exists_eq', exists_eq_right, exists_const, Bool.true_eq_false, Bool.false_eq_true, if_true, if_false, ite_true, ite_false, decide_eq_true_eq]
            exact rr
          · obtain ⟨sv, hsv, rfl⟩ := List.mem_map.mp (List.mem_of_getElem? hd')
            simp only [rSeq, rCut, rAnd, rOr, rNot, rB, rOp, rDG, rDG2, rDIn, rVar, rC, DX.rEqD, DX.rNeD, rLstF, rLstM, rNil, rCons, rTup, rDP, DX.rLP, rRepL', rRepr, rNeg, rEnum, rDictZip, DX.rSortedSet, rBM, rPop0, DX.rAppend, rIf, rAsg, gN, gT, gsC, gs0, rRet, rDrop, DX.rI, rNext, rCont, rBreak, rCB, DX.rLen, rTuple, rTupleN, rTIdx, rList, rAbs, rMax2, rMin2, rIntB, rStrI, DX.rIsi, rIsN, rNotN, DX.rIx, rFrz, rNotV, rAndV, rOrV, rIfE, rSl, rSlT', rSlL', rPt, rNoP, rCatT', rCatL', newL, rCatS, rInD', rIndex', rCall, rSq, rRg1, rRg2, rChain, rYes, rNewK, rNewT, Tg.d, tgsD, wipeD, startD, and_assoc, atI_0, atI_1, atI_2, atI_3, String.reduceEq, Nat.reduceLeDiff, exists_and_left, exists_and_right, resD_int, resD_str, resD_bl, resD_non, resD_tup, resD_lst, resD_ktup, dat_int, dat_str, dat_bl, dat_non, dat_nil, eqv_int, eqv_str, eqv_nil, eqv_tnil, seqD_tup, seqD_lst, seqD_ktup, seqD_klst, resD_klst, seqL_lst, isN_non, isN_int, isN_str, isN_bl, isN_tup, isN_lst, isN_ref, Bool.not_eq_true', Bool.not_eq_true, decide_eq_false_iff_not, Nat.zero_le, List.map, List.length, List.replicate, List.cons_append, List.nil_append, List.getElem?_cons_zero, List.getElem?_cons_succ, List.set_cons_zero, List.set_cons_succ, Nat.sub_self, Nat.reduceAdd, Nat.reduceSub, Option.some.injEq, D.int.injEq, D.ref.injEq, D.bl.injEq, D.str.injEq, D.tup.injEq, D.lst.injEq, List.cons.injEq, and_true, true_and, exists_eq_left, exists_eq_left', exists_eq', exists_eq_right, exists_const, Bool.true_eq_false, Bool.false_eq_true, if_true, if_false, ite_true, ite_false, decide_eq_true_eq]
            have := o6 sv hsv
            exact ⟨_, ws_at this.1 (by have := sok.ws; omega), k1' _ rfl⟩
          · simp only [newL, rSeq, rCut, rAnd, rOr, rNot, rB, rOp, rDG, rDG2, rDIn, rVar, rC, DX.rEqD, DX.rNeD, rLstF, rLstM, rNil, rCons, rTup, rDP, DX.rLP, rRepL', rRepr, rNeg, rEnum, rDictZip, DX.rSortedSet, rBM, rPop0, DX.rAppend, rIf, rAsg, gN, gT, gsC, gs0, rRet, rDrop, DX.rI, rNext, rCont, rBreak, rCB, DX.rLen, rTuple, rTupleN, rTIdx, rList, rAbs, rMax2, rMin2, rIntB, rStrI, DX.rIsi, rIsN, rNotN, DX.rIx, rFrz, rNotV, rAndV, rOrV, rIfE, rSl, rSlT', rSlL', rPt, rNoP, rCatT', rCatL', newL, rCatS, rInD', rIndex', rCall, rSq, rRg1, rRg2, rChain, rYes, rNewK, rNewT, Tg.d, tgsD, wipeD, startD, and_assoc, atI_0, atI_1, atI_2, atI_3, String.reduceEq, Nat.reduceLeDiff, exists_and_left, exists_and_right, resD_int, resD_str, resD_bl, resD_non, resD_tup, resD_lst, resD_ktup, dat_int, dat_str, dat_bl, dat_non, dat_nil, eqv_int, eqv_str, eqv_nil, eqv_tnil, seqD_tup, seqD_lst, seqD_ktup, seqD_klst, resD_klst, seqL_lst, isN_non, isN_int, isN_str, isN_bl, isN_tup, isN_lst, isN_ref, Bool.not_eq_true', Bool.not_eq_true, decide_eq_false_iff_not, Nat.zero_le, List.map, List.length, List.replicate, List.cons_append, List.nil_append, List.getElem?_cons_zero, List.getElem?_cons_succ, List.set_cons_zero, List.set_cons_succ, Nat.sub_self, Nat.reduceAdd, Nat.reduceSub, Option.some.injEq, D.int.injEq, D.ref.injEq, D.bl.injEq, D.str.injEq, D.tup.injEq, D.lst.injEq, List.cons.injEq, and_true, true_and, exists_eq_left, exists_eq_left', exists_eq', exists_eq_right, exists_const, Bool.true_eq_false, Bool.false_eq_true, if_true, if_false, ite_true, ite_false, decide_eq_true_eq]
            exact k1 _ rfl
        · rw [fr_all]
          simp only [newL, rSeq, rCut, rAnd, rOr, rNot, rB, rOp, rDG, rDG2, rDIn, rVar, rC, DX.rEqD, DX.rNeD, rLstF, rLstM, rNil, rCons, rTup, rDP, DX.rLP, rRepL', rRepr, rNeg, rEnum, rDictZip, DX.rSortedSet, rBM, rPop0, DX.rAppend, rIf, rAsg, gN, gT, gsC, gs0, rRet, rDrop, DX.rI, rNext, rCont, rBreak, rCB, DX.rLen, rTuple, rTupleN, rTIdx, rList, rAbs, rMax2, rMin2, rIntB, rStrI, DX.rIsi, rIsN, rNotN, DX.rIx, rFrz, rNotV, rAndV, rOrV, rIfE, rSl, rSlT', rSlL', rPt, rNoP, rCatT', rCatL', newL, rCatS, rInD', rIndex', rCall, rSq, rRg1, rRg2, rChain, rYes, rNewK, rNewT, Tg.d, tgsD, wipeD, startD, and_assoc, atI_0, atI_1, atI_2, atI_3, String.reduceEq, Nat.reduceLeDiff, exists_and_left, exists_and_right, resD_int, resD_str, resD_bl, resD_non, resD_tup, resD_lst, resD_ktup, dat_int, dat_str, dat_bl, dat_non, dat_nil, eqv_int, eqv_str, eqv_nil, eqv_tnil, seqD_tup, seqD_lst, seqD_ktup, seqD_klst, resD_klst, seqL_lst, isN_non, isN_int, isN_str, isN_bl, isN_tup, isN_lst, isN_ref, Bool.not_eq_true', Bool.not_eq_true, decide_eq_false_iff_not, Nat.zero_le, List.map, List.length, List.replicate, List.cons_append, List.nil_append, List.getElem?_cons_zero, List.getElem?_cons_succ, List.set_cons_zero, List.set_cons_succ, Nat.sub_self, Nat.reduceAdd, Nat.reduceSub, Option.some.injEq, D.int.injEq, D.ref.injEq, D.bl.injEq, D.str.injEq, D.tup.injEq, D.lst.injEq, List.cons.injEq, and_true, true_and, exists_eq_left, exists_eq_left', exists_eq', exists_eq_right, exists_const, Bool.true_eq_false, Bool.false_eq_true, if_true, if_false, ite_true, ite_false, decide_eq_true_eq]
          have ml := mom_len labs (shs.take i)
          rw [List.length_take] at ml
          refine ⟨isLst_ref cq, _, cq, by rw [sizeLine_eq]; omega, ?_⟩
          refine ⟨_, _, _, _, _, _, _, _, _, rfl, ?_, f1.upd nq0⟩
          rw [nx, m1]
          exact updD_same
    · rintro ρ h1 ⟨a, b, c, d, e, f, i1, j1, k1, rfl, cq, f1⟩
      rw [List.length_map, List.take_length] at cq
      exact ⟨seqD_frA f1 ex, _, _, _, _, _, _, _, _, _, rfl, cq, f1⟩
  · rintro ρ h1 ⟨a, b, c, d, e, f, i1, j1, k1, rfl, cq, f1⟩
    simp only [rSeq, rCut, rAnd, rOr, rNot, rB, rOp, rDG, rDG2, rDIn, rVar, rC, DX.rEqD, DX.rNeD, rLstF, rLstM, rNil, rCons, rTup, rDP, DX.rLP, rRepL', rRepr, rNeg, rEnum, rDictZip, DX.rSortedSet, rBM, rPop0, DX.rAppend, rIf, rAsg, gN, gT, gsC, gs0, rRet, rDrop, DX.rI, rNext, rCont, rBreak, rCB, DX.rLen, rTuple, rTupleN, rTIdx, rList, rAbs, rMax2, rMin2, rIntB, rStrI, DX.rIsi, rIsN, rNotN, DX.rIx, rFrz, rNotV, rAndV, rOrV, rIfE, rSl, rSlT', rSlL', rPt, rNoP, rCatT', rCatL', newL, rCatS, rInD', rIndex', rCall, rSq, rRg1, rRg2, rChain, rYes, rNewK, rNewT, Tg.d, tgsD, wipeD, startD, and_assoc, atI_0, atI_1, atI_2, atI_3, String.reduceEq, Nat.reduceLeDiff, exists_and_left, exists_and_right, resD_int, resD_str, resD_bl, resD_non, resD_tup, resD_lst, resD_ktup, dat_int, dat_str, dat_bl, dat_non, dat_nil, eqv_int, eqv_str, eqv_nil, eqv_tnil, seqD_tup, seqD_lst, seqD_ktup, seqD_klst, resD_klst, seqL_lst, isN_non, isN_int, isN_str, isN_bl, isN_tup, isN_lst, isN_ref, Bool.not_eq_true', Bool.not_eq_true, decide_eq_false_iff_not, Nat.zero_le, List.map, List.length, List.replicate, List.cons_append, List.nil_append, List.getElem?_cons_zero, List.getElem?_cons_succ, List.set_cons_zero, List.set_cons_succ, Nat.sub_self, Nat.reduceAdd, Nat.reduceSub, Option.some.injEq, D.int.injEq, D.ref.injEq, D.bl.injEq, D.str.injEq, D.tup.injEq, D.lst.injEq, List.cons.injEq, and_true, true_and, exists_eq_left, exists_eq_left', exists_eq', exists_eq_right, exists_const, Bool.true_eq_false, Bool.false_eq_true, if_true, if_false, ite_true, ite_false, decide_eq_true_eq]
    exact k q0 h1 nq0 cq f1
theorem lc_ri {ri : DI} {t : Tg} {tt : DT} {re : DE} {vs : List Nat} {fz : Bool} {ρ : DSt} {h : DHp} {Q : DQ} (q : ri ρ h fun items keep h1 => rLc (fun _ h' R => R items keep h') t tt re vs fz ρ h1 Q) : rLc ri t tt re vs fz ρ h Q := q
def SM (S g : Addr) (flat : D) (q0 : Addr) (h0 : DHp) (top fr : Int) (labs : List Lab) (n : Nat) (ρ : DSt) (h : DHp) : Prop :=
  ∃ (shs : List Sh) (a b c d e : Option D), ρ = [some (.ref S), some flat, some (.ref q0), a, b, c, d, e] ∧ h q0 = some (.lst (shs.map Sh.d)) ∧ shs.length ≤ n ∧ (∀ s ∈ shs, s.ok top fr labs) ∧ St h S g ∧ Fr S g h0 h
def SW (S g : Addr) (flat : D) (q0 q4 : Addr) (h0 : DHp) (top fr : Int) (labs : List Lab) (n m : Nat) (ρ : DSt) (h : DHp) : Prop :=
  ∃ (shs : List Sh) (ws : List (Option Int)) (a c d e : Option D), ρ = [some (.ref S), some flat, some (.ref q0), a, some (.ref q4), c, d, e] ∧ h q0 = some (.lst (shs.map Sh.d)) ∧ shs.length ≤ n ∧ (∀ s ∈ shs, s.ok top fr labs) ∧ St h S g ∧ Fr S g h0 h ∧
    h q4 = some (.lst (ws.map oI)) ∧ q4 ≠ q0 ∧ h0 q4 = none ∧ ws.length = m ∧ ∀ i, some i ∈ ws → 0 ≤ i ∧ i ≤ top
theorem showings_ok (ds : List D) (h : DHp) (Q : DQ) (hl : ds.length = 2) (hs : sp_showings ds h Q (fun _ _ => False)) : rd_showings (EN Q) (startD N_showings ds) h := by
  obtain ⟨S, g, top, fr, rows, labs, e, fo, st, k⟩ := hs
  subst e
  have t0 := fo.tp
  have f1' := fo.f1
  have f2' := fo.f2
  have r1 := fo.r1
  have r2 := fo.r2
  simp only [rd_showings, N_showings, rSeq, rCut, rAnd, rOr, rNot, rB, rOp, rDG, rDG2, rDIn, rVar, rC, DX.rEqD, DX.rNeD, rLstF, rLstM, rNil, rCons, rTup, rDP, DX.rLP, rRepL', rRepr, rNeg, rEnum, rDictZip, DX.rSortedSet, rBM, rPop0, DX.rAppend, rIf, rAsg, gN, gT, gsC, gs0, rRet, rDrop, DX.rI, rNext, rCont, rBreak, rCB, DX.rLen, rTuple, rTupleN, rTIdx, rList, rAbs, rMax2, rMin2, rIntB, rStrI, DX.rIsi, rIsN, rNotN, DX.rIx, rFrz, rNotV, rAndV, rOrV, rIfE, rSl, rSlT', rSlL', rPt, rNoP, rCatT', rCatL', newL, rCatS, rInD', rIndex', rCall, rSq, rRg1, rRg2, rChain, rYes, rNewK, rNewT, Tg.d, tgsD, wipeD, startD, and_assoc, atI_0, atI_1, atI_2, atI_3, String.reduceEq, Nat.reduceLeDiff, exists_and_left, exists_and_right, resD_int, resD_str, resD_bl, resD_non, resD_tup, resD_lst, resD_ktup, dat_int, dat_str, dat_bl, dat_non, dat_nil, eqv_int, eqv_str, eqv_nil, eqv_tnil, seqD_tup, seqD_lst, seqD_ktup, seqD_klst, resD_klst, seqL_lst, isN_non, isN_int, isN_str, isN_bl, isN_tup, isN_lst, isN_ref, Bool.not_eq_true', Bool.not_eq_true, decide_eq_false_iff_not, Nat.zero_le, List.map, List.length, List.replicate, List.cons_append, List.nil_append, List.getElem?_cons_zero, List.getElem?_cons_succ, List.set_cons_zero, List.set_cons_succ, Nat.sub_self, Nat.reduceAdd, Nat.reduceSub, Option.some.injEq, D.int.injEq, D.ref.injEq, D.bl.injEq, D.str.injEq, D.tup.injEq, D.lst.injEq, List.cons.injEq, and_true, true_and, exists_eq_left, exists_eq_left', exists_eq', exists_eq_right, exists_const, Bool.true_eq_false, Bool.false_eq_true, if_true, if_false, ite_true, ite_false, decide_eq_true_eq]
  intro q0 nq0
  obtain ⟨qS, qg⟩ := st.fresh nq0
  refine ⟨SM S g (.tup [.int top, .int fr, .tup rows]) q0 h top fr labs 14, ?_, ?_⟩
  · simp only [rFor, rSeq, rCut, rAnd, rOr, rNot, rB, rOp, rDG, rDG2, rDIn, rVar, rC, DX.rEqD, DX.rNeD, rLstF, rLstM, rNil, rCons, rTup, rDP, DX.rLP, rRepL', rRepr, rNeg, rEnum, rDictZip, DX.rSortedSet, rBM, rPop0, DX.rAppend, rIf, rAsg, gN, gT, gsC, gs0, rRet, rDrop, DX.rI, rNext, rCont, rBreak, rCB, DX.rLen, rTuple, rTupleN, rTIdx, rList, rAbs, rMax2, rMin2, rIntB, rStrI, DX.rIsi, rIsN, rNotN, DX.rIx, rFrz, rNotV, rAndV, rOrV, rIfE, rSl, rSlT', rSlL', rPt, rNoP, rCatT', rCatL', newL, rCatS, rInD', rIndex', rCall, rSq, rRg1, rRg2, rChain, rYes, rNewK, rNewT, Tg.d, tgsD, wipeD, startD, and_assoc, atI_0, atI_1, atI_2, atI_3, String.reduceEq, Nat.reduceLeDiff, exists_and_left, exists_and_right, resD_int, resD_str, resD_bl, resD_non, resD_tup, resD_lst, resD_ktup, dat_int, dat_str, dat_bl, dat_non, dat_nil, eqv_int, eqv_str, eqv_nil, eqv_tnil, seqD_tup, seqD_lst, seqD_ktup, seqD_klst, resD_klst, seqL_lst, isN_non, isN_int, isN_str, isN_bl, isN_tup, isN_lst, isN_ref, Bool.not_eq_true', Bool.not_eq_true, decide_eq_false_iff_not, Nat.zero_le, List.map, List.length, List.replicate, List.cons_append, List.nil_append, List.getElem?_cons_zero, List.getElem?_cons_succ, List.set_cons_zero, List.set_cons_succ, Nat.sub_self, Nat.reduceAdd, Nat.reduceSub, Option.some.injEq, D.int.injEq, D.ref.injEq, D.bl.injEq, D.str.injEq, D.tup.injEq, D.lst.injEq, List.cons.injEq, and_true, true_and, exists_eq_left, exists_eq_left', exists_eq', exists_eq_right, exists_const, Bool.true_eq_false, Bool.false_eq_true, if_true, if_false, ite_true, ite_false, decide_eq_true_eq]
    refine take_in (by decide) (by decide) (st.upd qS qg) fun n h1 n0 n1 s1 f1 => ⟨n, rfl, by omega, by omega, ?_⟩
    refine ⟨SM S g (.tup [.int top, .int fr, .tup rows]) q0 h top fr labs, ⟨[], none, none, none, none, none, rfl, f1 q0 _ qS qg updD_same, Nat.le_refl _, fun s hs => by simp at hs, s1, fun a c n1 n2 e => f1 a c n1 n2 (FrA.new nq0 a c e)⟩, ?_, ?_⟩
    · rintro i x ρ h2 hx ⟨shs, a, b, c, d, e, rfl, c2, l2, ok2, s2, f2⟩
      obtain ⟨ix, rfl⟩ := rgD_get hx
      simp only [rSeq, rCut, rAnd, rOr, rNot, rB, rOp, rDG, rDG2, rDIn, rVar, rC, DX.rEqD, DX.rNeD, rLstF, rLstM, rNil, rCons, rTup, rDP, DX.rLP, rRepL', rRepr, rNeg, rEnum, rDictZip, DX.rSortedSet, rBM, rPop0, DX.rAppend, rIf, rAsg, gN, gT, gsC, gs0, rRet, rDrop, DX.rI, rNext, rCont, rBreak, rCB, DX.rLen, rTuple, rTupleN, rTIdx, rList, rAbs, rMax2, rMin2, rIntB, rStrI, DX.rIsi, rIsN, rNotN, DX.rIx, rFrz, rNotV, rAndV, rOrV, rIfE, rSl, rSlT', rSlL', rPt, rNoP, rCatT', rCatL', newL, rCatS, rInD', rIndex', rCall, rSq, rRg1, rRg2, rChain, rYes, rNewK, rNewT, Tg.d, tgsD, wipeD, startD, and_assoc, atI_0, atI_1, atI_2, atI_3, String.reduceEq, Nat.reduceLeDiff, exists_and_left, exists_and_right, resD_int, resD_str, resD_bl, resD_non, resD_tup, resD_lst, resD_ktup, dat_int, dat_str, dat_bl, dat_non, dat_nil, eqv_int, eqv_str, eqv_nil, eqv_tnil, seqD_tup, seqD_lst, seqD_ktup, seqD_klst, resD_klst, seqL_lst, isN_non, isN_int, isN_str, isN_bl, isN_tup, isN_lst, isN_ref, Bool.not_eq_true', Bool.not_eq_true, decide_eq_false_iff_not, Nat.zero_le, List.map, List.length, List.replicate, List.cons_append, List.nil_append, List.getElem?_cons_zero, List.getElem?_cons_succ, List.set_cons_zero, List.set_cons_succ, Nat.sub_self, Nat.reduceAdd, Nat.reduceSub, Option.some.injEq, D.int.injEq, D.ref.injEq, D.bl.injEq, D.str.injEq, D.tup.injEq, D.lst.injEq, List.cons.injEq, and_true, true_and, exists_eq_left, exists_eq_left', exists_eq', exists_eq_right, exists_const, Bool.true_eq_false, Bool.false_eq_true, if_true, if_false, ite_true, ite_false, decide_eq_true_eq]
      intro q4 nq4
      obtain ⟨q4S, q4g⟩ := s2.fresh nq4
      have q40 : q4 ≠ q0 := fun z => by rw [z, c2] at nq4; cases nq4
      have nq4h := fresh_of s2 f2 nq4
      obtain ⟨fn, rfl⟩ := Int.eq_ofNat_of_zero_le (show 0 ≤ fr by omega)
      refine ⟨by omega, by omega, SW S g (.tup [.int top, .int (fn : Nat), .tup rows]) q0 q4 h top (fn : Nat) labs i fn, ?_, ?_⟩
      · refine ⟨SW S g (.tup [.int top, .int (fn : Nat), .tup rows]) q0 q4 h top (fn : Nat) labs i, ⟨shs, [], _, _, _, _, rfl, by rw [updD_ne q40.symm]; exact c2, l2, ok2, s2.upd q4S q4g, f2.upd nq4h, updD_same, q40, nq4h, rfl, fun i hi => by simp at hi⟩, ?_, ?_⟩
        · rintro j y ρ h3 hy ⟨shs3, ws, a3, c3', d3, e3, rfl, c3, l3, ok3, s3, f3, w3, n3, nn3, lw, wn⟩
          simp only [rSeq, rCut, rAnd, rOr, rNot, rB, rOp, rDG, rDG2, rDIn, rVar, rC, DX.rEqD, DX.rNeD, rLstF, rLstM, rNil, rCons, rTup, rDP, DX.rLP, rRepL', rRepr, rNeg, rEnum, rDictZip, DX.rSortedSet, rBM, rPop0, DX.rAppend, rIf, rAsg, gN, gT, gsC, gs0, rRet, rDrop, DX.rI, rNext, rCont, rBreak, rCB, DX.rLen, rTuple, rTupleN, rTIdx, rList, rAbs, rMax2, rMin2, rIntB, rStrI, DX.rIsi, rIsN, rNotN, DX.rIx, rFrz, rNotV, rAndV, rOrV, rIfE, rSl, rSlT', rSlL', rPt, rNoP, rCatT', rCatL', newL, rCatS, rInD', rIndex', rCall, rSq, rRg1, rRg2, rChain, rYes, rNewK, rNewT, Tg.d, tgsD, wipeD, startD, and_assoc, atI_0, atI_1, atI_2, atI_3, String.reduceEq, Nat.reduceLeDiff, exists_and_left, exists_and_right, resD_int, resD_str, resD_bl, resD_non, resD_tup, resD_lst, resD_ktup, dat_int, dat_str, dat_bl, dat_non, dat_nil, eqv_int, eqv_str, eqv_nil, eqv_tnil, seqD_tup, seqD_lst, seqD_ktup, seqD_klst, resD_klst, seqL_lst, isN_non, isN_int, isN_str, isN_bl, isN_tup, isN_lst, isN_ref, Bool.not_eq_true', Bool.not_eq_true, decide_eq_false_iff_not, Nat.zero_le, List.map, List.length, List.replicate, List.cons_append, List.nil_append, List.getElem?_cons_zero, List.getElem?_cons_succ, List.set_cons_zero, List.set_cons_succ, Nat.sub_self, Nat.reduceAdd, Nat.reduceSub, Option.some.injEq, D.int.injEq, D.ref.injEq, D.bl.injEq, D.str.injEq, D.tup.injEq, D.lst.injEq, List.cons.injEq, and_true, true_and, exists_eq_left, exists_eq_left', exists_eq', exists_eq_right, exists_const, Bool.true_eq_false, Bool.false_eq_true, if_true, if_false, ite_true, ite_false, decide_eq_true_eq]
          obtain ⟨jx, _⟩ := rgD_get hy
          refine num_in t0 s3 fun z h4 z0 z1 s4 f4 => ?_
          have w4 := f4 q4 _ q4S q4g w3
          have c4 := f4 q0 _ qS qg c3
          refine ⟨isLst_ref w4, pick_in (by simp) (by show 3 ≤ 1000; omega) s4 fun v h5 hv s5 f5 => ?_⟩
          have w5 := f5 q4 _ q4S q4g w4
          have c5 := f5 q0 _ qS qg c4
          have hv' : ∃ o : Option Int, v = oI o ∧ ∀ i, o = some i → 0 ≤ i ∧ i ≤ top := by
            simp only [List.mem_cons, List.not_mem_nil, or_false] at hv
            rcases hv with e | e | e
            · exact ⟨none, e, fun i hi => by cases hi⟩
            · exact ⟨some z, e, fun i hi => by cases hi; exact ⟨z0, z1⟩⟩
            · exact ⟨some z, e, fun i hi => by cases hi; exact ⟨z0, z1⟩⟩
          obtain ⟨o, rfl, ho⟩ := hv'
          refine ⟨_, w5, by rw [List.length_map, lw, sizeLine_eq]; omega, ?_⟩
          refine ⟨shs3, ws ++ [o], _, _, _, _, rfl, by rw [updD_ne n3.symm]; exact c5, l3, ok3, s5.upd q4S q4g, ((f3.trans f4).trans f5).upd nn3, by rw [List.map_append]; exact updD_same, n3, nn3, by rw [List.length_append, lw]; rfl, fun i hi => ?_⟩
          rcases List.mem_append.mp hi with q | q
          · exact wn i q
          · exact ho i (List.mem_singleton.mp q).symm
        · intro ρ h3 q
          rw [rgD_len, Int.toNat_natCast] at q
          exact q
      · rintro ρ h3 ⟨shs3, ws, a3, c3', d3, e3, rfl, c3, l3, ok3, s3, f3, w3, n3, nn3, lw, wn⟩
        simp only [rSeq, rCut, rAnd, rOr, rNot, rB, rOp, rDG, rDG2, rDIn, rVar, rC, DX.rEqD, DX.rNeD, rLstF, rLstM, rNil, rCons, rTup, rDP, DX.rLP, rRepL', rRepr, rNeg, rEnum, rDictZip, DX.rSortedSet, rBM, rPop0, DX.rAppend, rIf, rAsg, gN, gT, gsC, gs0, rRet, rDrop, DX.rI, rNext, rCont, rBreak, rCB, DX.rLen, rTuple, rTupleN, rTIdx, rList, rAbs, rMax2, rMin2, rIntB, rStrI, DX.rIsi, rIsN, rNotN, DX.rIx, rFrz, rNotV, rAndV, rOrV, rIfE, rSl, rSlT', rSlL', rPt, rNoP, rCatT', rCatL', newL, rCatS, rInD', rIndex', rCall, rSq, rRg1, rRg2, rChain, rYes, rNewK, rNewT, Tg.d, tgsD, wipeD, startD, and_assoc, atI_0, atI_1, atI_2, atI_3, String.reduceEq, Nat.reduceLeDiff, exists_and_left, exists_and_right, resD_int, resD_str, resD_bl, resD_non, resD_tup, resD_lst, resD_ktup, dat_int, dat_str, dat_bl, dat_non, dat_nil, eqv_int, eqv_str, eqv_nil, eqv_tnil, seqD_tup, seqD_lst, seqD_ktup, seqD_klst, resD_klst, seqL_lst, isN_non, isN_int, isN_str, isN_bl, isN_tup, isN_lst, isN_ref, Bool.not_eq_true', Bool.not_eq_true, decide_eq_false_iff_not, Nat.zero_le, List.map, List.length, List.replicate, List.cons_append, List.nil_append, List.getElem?_cons_zero, List.getElem?_cons_succ, List.set_cons_zero, List.set_cons_succ, Nat.sub_self, Nat.reduceAdd, Nat.reduceSub, Option.some.injEq, D.int.injEq, D.ref.injEq, D.bl.injEq, D.str.injEq, D.tup.injEq, D.lst.injEq, List.cons.injEq, and_true, true_and, exists_eq_left, exists_eq_left', exists_eq', exists_eq_right, exists_const, Bool.true_eq_false, Bool.false_eq_true, if_true, if_false, ite_true, ite_false, decide_eq_true_eq]
        refine lc_ri ?_
        simp only [rSeq, rCut, rAnd, rOr, rNot, rB, rOp, rDG, rDG2, rDIn, rVar, rC, DX.rEqD, DX.rNeD, rLstF, rLstM, rNil, rCons, rTup, rDP, DX.rLP, rRepL', rRepr, rNeg, rEnum, rDictZip, DX.rSortedSet, rBM, rPop0, DX.rAppend, rIf, rAsg, gN, gT, gsC, gs0, rRet, rDrop, DX.rI, rNext, rCont, rBreak, rCB, DX.rLen, rTuple, rTupleN, rTIdx, rList, rAbs, rMax2, rMin2, rIntB, rStrI, DX.rIsi, rIsN, rNotN, DX.rIx, rFrz, rNotV, rAndV, rOrV, rIfE, rSl, rSlT', rSlL', rPt, rNoP, rCatT', rCatL', newL, rCatS, rInD', rIndex', rCall, rSq, rRg1, rRg2, rChain, rYes, rNewK, rNewT, Tg.d, tgsD, wipeD, startD, and_assoc, atI_0, atI_1, atI_2, atI_3, String.reduceEq, Nat.reduceLeDiff, exists_and_left, exists_and_right, resD_int, resD_str, resD_bl, resD_non, resD_tup, resD_lst, resD_ktup, dat_int, dat_str, dat_bl, dat_non, dat_nil, eqv_int, eqv_str, eqv_nil, eqv_tnil, seqD_tup, seqD_lst, seqD_ktup, seqD_klst, resD_klst, seqL_lst, isN_non, isN_int, isN_str, isN_bl, isN_tup, isN_lst, isN_ref, Bool.not_eq_true', Bool.not_eq_true, decide_eq_false_iff_not, Nat.zero_le, List.map, List.length, List.replicate, List.cons_append, List.nil_append, List.getElem?_cons_zero, List.getElem?_cons_succ, List.set_cons_zero, List.set_cons_succ, Nat.sub_self, Nat.reduceAdd, Nat.reduceSub, Option.some.injEq, D.int.injEq, D.ref.injEq, D.bl.injEq, D.str.injEq, D.tup.injEq, D.lst.injEq, List.cons.injEq, and_true, true_and, exists_eq_left, exists_eq_left', exists_eq', exists_eq_right, exists_const, Bool.true_eq_false, Bool.false_eq_true, if_true, if_false, ite_true, ite_false, decide_eq_true_eq]
        refine take_in (by decide) (by decide) s3 fun u h4 u0 u1 s4 f4 => ⟨u, rfl, by omega, by omega, ?_⟩
        refine lc_draw (S := S) (g := g) (rgD 0 u.toNat) (fun _ => True) (fun _ d => ∃ z : Int, d = .int z ∧ 0 ≤ z ∧ z ≤ top) s4 (fun R r => r) (by rw [rgD_len]; omega) (fun _ _ => trivial) (fun j y C acc h' P1 hy hC cC s' f' k1 => ?_) fun ds h5 l5 r5 s5 f5 => ?_
        · simp only [rSeq, rCut, rAnd, rOr, rNot, rB, rOp, rDG, rDG2, rDIn, rVar, rC, DX.rEqD, DX.rNeD, rLstF, rLstM, rNil, rCons, rTup, rDP, DX.rLP, rRepL', rRepr, rNeg, rEnum, rDictZip, DX.rSortedSet, rBM, rPop0, DX.rAppend, rIf, rAsg, gN, gT, gsC, gs0, rRet, rDrop, DX.rI, rNext, rCont, rBreak, rCB, DX.rLen, rTuple, rTupleN, rTIdx, rList, rAbs, rMax2, rMin2, rIntB, rStrI, DX.rIsi, rIsN, rNotN, DX.rIx, rFrz, rNotV, rAndV, rOrV, rIfE, rSl, rSlT', rSlL', rPt, rNoP, rCatT', rCatL', newL, rCatS, rInD', rIndex', rCall, rSq, rRg1, rRg2, rChain, rYes, rNewK, rNewT, Tg.d, tgsD, wipeD, startD, and_assoc, atI_0, atI_1, atI_2, atI_3, String.reduceEq, Nat.reduceLeDiff, exists_and_left, exists_and_right, resD_int, resD_str, resD_bl, resD_non, resD_tup, resD_lst, resD_ktup, dat_int, dat_str, dat_bl, dat_non, dat_nil, eqv_int, eqv_str, eqv_nil, eqv_tnil, seqD_tup, seqD_lst, seqD_ktup, seqD_klst, resD_klst, seqL_lst, isN_non, isN_int, isN_str, isN_bl, isN_tup, isN_lst, isN_ref, Bool.not_eq_true', Bool.not_eq_true, decide_eq_false_iff_not, Nat.zero_le, List.map, List.length, List.replicate, List.cons_append, List.nil_append, List.getElem?_cons_zero, List.getElem?_cons_succ, List.set_cons_zero, List.set_cons_succ, Nat.sub_self, Nat.reduceAdd, Nat.reduceSub, Option.some.injEq, D.int.injEq, D.ref.injEq, D.bl.injEq, D.str.injEq, D.tup.injEq, D.lst.injEq, List.cons.injEq, and_true, true_and, exists_eq_left, exists_eq_left', exists_eq', exists_eq_right, exists_const, Bool.true_eq_false, Bool.false_eq_true, if_true, if_false, ite_true, ite_false, decide_eq_true_eq]
          exact num_in t0 s' fun z h6 z0 z1 s6 f6 => k1 _ h6 ⟨z, rfl, z0, z1⟩ s6 f6
        · rw [if_pos rfl]
          obtain ⟨said, rfl, gs⟩ := each_d r5
          rw [List.length_map, rgD_len] at l5
          have f35 := f4.trans f5
          have c5 := f35 q0 _ qS qg c3
          have w5 := f35 q4 _ q4S q4g w3
          simp only [rSeq, rCut, rAnd, rOr, rNot, rB, rOp, rDG, rDG2, rDIn, rVar, rC, DX.rEqD, DX.rNeD, rLstF, rLstM, rNil, rCons, rTup, rDP, DX.rLP, rRepL', rRepr, rNeg, rEnum, rDictZip, DX.rSortedSet, rBM, rPop0, DX.rAppend, rIf, rAsg, gN, gT, gsC, gs0, rRet, rDrop, DX.rI, rNext, rCont, rBreak, rCB, DX.rLen, rTuple, rTupleN, rTIdx, rList, rAbs, rMax2, rMin2, rIntB, rStrI, DX.rIsi, rIsN, rNotN, DX.rIx, rFrz, rNotV, rAndV, rOrV, rIfE, rSl, rSlT', rSlL', rPt, rNoP, rCatT', rCatL', newL, rCatS, rInD', rIndex', rCall, rSq, rRg1, rRg2, rChain, rYes, rNewK, rNewT, Tg.d, tgsD, wipeD, startD, and_assoc, atI_0, atI_1, atI_2, atI_3, String.reduceEq, Nat.reduceLeDiff, exists_and_left, exists_and_right, resD_int, resD_str, resD_bl, resD_non, resD_tup, resD_lst, resD_ktup, dat_int, dat_str, dat_bl, dat_non, dat_nil, eqv_int, eqv_str, eqv_nil, eqv_tnil, seqD_tup, seqD_lst, seqD_ktup, seqD_klst, resD_klst, seqL_lst, isN_non, isN_int, isN_str, isN_bl, isN_tup, isN_lst, isN_ref, Bool.not_eq_true', Bool.not_eq_true, decide_eq_false_iff_not, Nat.zero_le, List.map, List.length, List.replicate, List.cons_append, List.nil_append, List.getElem?_cons_zero, List.getElem?_cons_succ, List.set_cons_zero, List.set_cons_succ, Nat.sub_self, Nat.reduceAdd, Nat.reduceSub, Option.some.injEq, D.int.injEq, D.ref.injEq, D.bl.injEq, D.str.injEq, D.tup.injEq, D.lst.injEq, List.cons.injEq, and_true, true_and, exists_eq_left, exists_eq_left', exists_eq', exists_eq_right, exists_const, Bool.true_eq_false, Bool.false_eq_true, if_true, if_false, ite_true, ite_false, decide_eq_true_eq]
          refine ⟨isLst_ref c5, take_in (by omega) (by omega) s5 fun rw' h6 v0 v1 s6 f6 => ?_⟩
          have w6 := f6 q4 _ q4S q4g w5
          refine ⟨_, seqD_ref w6, take_in (by decide) (by decide) s6 fun cn h7 y0 y1 s7 f7 => ?_⟩
          have c7 := f7 q0 _ qS qg (f6 q0 _ qS qg c5)
          refine ⟨_, c7, by rw [List.length_map, sizeLine_eq]; omega, ?_⟩
          obtain ⟨rn, rfl⟩ := Int.eq_ofNat_of_zero_le v0
          refine ⟨shs3 ++ [⟨rn, ws, cn, said⟩], _, _, _, _, _, rfl, ?_, by rw [List.length_append]; simp; omega, fun s hs => ?_, s7.upd qS qg, (((f3.trans f35).trans f6).trans f7).upd nq0⟩
          · rw [List.map_append]; exact updD_same
          · rcases List.mem_append.mp hs with q | q
            · exact ok3 s q
            · rw [List.mem_singleton.mp q]
              exact ⟨by have := fo.len; show rn < labs.length; omega, by show (ws.length : Int) = _; omega, wn, y0, y1, by show said.length < 3; omega, gs⟩
    · rintro ρ h2 ⟨shs, a, b, c, d, e, rfl, c2, l2, r⟩
      rw [rgD_len] at l2
      exact ⟨shs, a, b, c, d, e, rfl, c2, by omega, r⟩
  · rintro ρ h2 ⟨shs, a, b, c, d, e, rfl, c2, l2, ok2, s2, f2⟩
    simp only [rSeq, rCut, rAnd, rOr, rNot, rB, rOp, rDG, rDG2, rDIn, rVar, rC, DX.rEqD, DX.rNeD, rLstF, rLstM, rNil, rCons, rTup, rDP, DX.rLP, rRepL', rRepr, rNeg, rEnum, rDictZip, DX.rSortedSet, rBM, rPop0, DX.rAppend, rIf, rAsg, gN, gT, gsC, gs0, rRet, rDrop, DX.rI, rNext, rCont, rBreak, rCB, DX.rLen, rTuple, rTupleN, rTIdx, rList, rAbs, rMax2, rMin2, rIntB, rStrI, DX.rIsi, rIsN, rNotN, DX.rIx, rFrz, rNotV, rAndV, rOrV, rIfE, rSl, rSlT', rSlL', rPt, rNoP, rCatT', rCatL', newL, rCatS, rInD', rIndex', rCall, rSq, rRg1, rRg2, rChain, rYes, rNewK, rNewT, Tg.d, tgsD, wipeD, startD, and_assoc, atI_0, atI_1, atI_2, atI_3, String.reduceEq, Nat.reduceLeDiff, exists_and_left, exists_and_right, resD_int, resD_str, resD_bl, resD_non, resD_tup, resD_lst, resD_ktup, dat_int, dat_str, dat_bl, dat_non, dat_nil, eqv_int, eqv_str, eqv_nil, eqv_tnil, seqD_tup, seqD_lst, seqD_ktup, seqD_klst, resD_klst, seqL_lst, isN_non, isN_int, isN_str, isN_bl, isN_tup, isN_lst, isN_ref, Bool.not_eq_true', Bool.not_eq_true, decide_eq_false_iff_not, Nat.zero_le, List.map, List.length, List.replicate, List.cons_append, List.nil_append, List.getElem?_cons_zero, List.getElem?_cons_succ, List.set_cons_zero, List.set_cons_succ, Nat.sub_self, Nat.reduceAdd, Nat.reduceSub, Option.some.injEq, D.int.injEq, D.ref.injEq, D.bl.injEq, D.str.injEq, D.tup.injEq, D.lst.injEq, List.cons.injEq, and_true, true_and, exists_eq_left, exists_eq_left', exists_eq', exists_eq_right, exists_const, Bool.true_eq_false, Bool.false_eq_true, if_true, if_false, ite_true, ite_false, decide_eq_true_eq]
    exact k shs q0 h2 nq0 c2 (by omega) ok2 qS qg s2 f2
end K26

set_option maxRecDepth 100000
set_option maxHeartbeats 4000000
namespace K26
open PySem PySem.Spec PyProof.Rows L2 DX
/-! ### the laying's state -/
structure LayJ (h : DHp) (Z r l b : Addr) (rows ls : List D) (kvs : PK) (f : Int) : Prop where
  cz : h Z = some (layC r l b f)
  cr : h r = some (.lst rows)
  cl : h l = some (.lst ls)
  cb : h b = some (.dT kvs)
  rl : r ≠ l
section
variable {h h' h2 : DHp} {Z r l b r' l' : Addr} {rows ls rows' ls' : List D} {kvs kvs' : PK} {f f' : Int} {T : List Int → Prop} {M : Nat} {labs : List Lab}
theorem LayI.j (I : LayI h Z r l b T M rows labs kvs f) : LayJ h Z r l b rows (labs.map labD) kvs f := ⟨I.cz, I.cr, I.cl, I.cb, I.rl⟩
theorem LayJ.rZ (J : LayJ h Z r l b rows ls kvs f) : r ≠ Z := fun z => by
  have e := J.cr
  rw [z, J.cz] at e; cases e
theorem LayJ.lZ (J : LayJ h Z r l b rows ls kvs f) : l ≠ Z := fun z => by
  have e := J.cl
  rw [z, J.cz] at e; cases e
theorem LayJ.bZ (J : LayJ h Z r l b rows ls kvs f) : b ≠ Z := fun z => by
  have e := J.cb
  rw [z, J.cz] at e; cases e
theorem LayJ.br (J : LayJ h Z r l b rows ls kvs f) : b ≠ r := fun z => by
  have e := J.cb
  rw [z, J.cr] at e; cases e
theorem LayJ.bl (J : LayJ h Z r l b rows ls kvs f) : b ≠ l := fun z => by
  have e := J.cb
  rw [z, J.cl] at e; cases e
theorem LayJ.lrows (J : LayJ h Z r l b rows ls kvs f) : lookD h Z (.str "rows") = some (some (.ref r)) := by unfold lookD; rw [J.cz]; rfl
theorem LayJ.llabs (J : LayJ h Z r l b rows ls kvs f) : lookD h Z (.str "labels") = some (some (.ref l)) := by unfold lookD; rw [J.cz]; rfl
theorem LayJ.lbeg (J : LayJ h Z r l b rows ls kvs f) : lookD h Z (.str "begins") = some (some (.ref b)) := by unfold lookD; rw [J.cz]; rfl
theorem LayJ.lfree (J : LayJ h Z r l b rows ls kvs f) : lookD h Z (.str "free") = some (some (.int f)) := by unfold lookD; rw [J.cz]; rfl
theorem LayJ.srows (J : LayJ h Z r l b rows ls kvs f) (p : Addr) : storeD h Z (.str "rows") (.ref p) = some (layC p l b f) := by unfold storeD; rw [J.cz]; rfl
theorem LayJ.slabs (J : LayJ h Z r l b rows ls kvs f) (p : Addr) : storeD h Z (.str "labels") (.ref p) = some (layC r p b f) := by unfold storeD; rw [J.cz]; rfl
theorem LayJ.sfree (J : LayJ h Z r l b rows ls kvs f) (z : Int) : storeD h Z (.str "free") (.int z) = some (layC r l b z) := by unfold storeD; rw [J.cz]; rfl
theorem LayJ.size (J : LayJ h Z r l b rows ls kvs f) : sizeC h Z < sizeLine := by unfold sizeC; rw [J.cz]; show 4 < sizeLine; decide
theorem keys_iL : ∀ p : List Int, keysD (iL p) = some (pk p)
  | [] => rfl
  | i :: p => by
    unfold iL pk at *
    rw [List.map_cons, List.map_cons]
    show (match keyD (D.int i), keysD (List.map D.int p) with | some k, some ks => some (k :: ks) | _, _ => none) = _
    rw [show keysD (List.map D.int p) = some (List.map Sum.inl p) from keys_iL p]
    rfl
theorem LayJ.sbeg (J : LayJ h Z r l b rows ls kvs f) (p : List Int) (v : Int) : storeD h b (pD p) (.int v) = some (.dT (putT kvs (pk p) (.int v))) := by
  unfold storeD; rw [J.cb]
  show (keysD (iL p)).map _ = _
  rw [keys_iL]; rfl
theorem LayJ.lkey (J : LayJ h Z r l b rows ls kvs f) (p : List Int) : lookD h b (pD p) = some (getT kvs (pk p)) := by
  unfold lookD; rw [J.cb]
  show (keysD (iL p)).map _ = _
  rw [keys_iL]; rfl
theorem LayJ.sizeb (J : LayJ h Z r l b rows ls kvs f) : sizeC h b = kvs.length := by unfold sizeC; rw [J.cb]
theorem LayJ.own (J : LayJ h Z r l b rows ls kvs f) (a : Addr) : own h Z a ↔ (a = Z ∨ a = r ∨ a = l ∨ a = b) := by
  constructor
  · rintro (z | ⟨r', l', b', f', e, z⟩)
    · exact .inl z
    · rw [J.cz] at e
      cases e
      exact .inr z
  · rintro (z | z)
    · exact .inl z
    · exact .inr ⟨r, l, b, f, J.cz, z⟩
theorem FrL.refl : FrL Z h h := ⟨fun _ _ _ e => e, fun _ e => .inl e⟩
theorem FrL.trans (p : FrL Z h h') (q : FrL Z h' h2) : FrL Z h h2 := by
  refine ⟨fun a c n e => ?_, fun a o => ?_⟩
  · have e1 := p.keep a c n e
    refine q.keep a c (fun z => ?_) e1
    rcases p.own a z with z | z
    · exact n z
    · rw [z] at e; cases e
  · rcases q.own a o with z | z
    · exact p.own a z
    · cases e : h a with
      | none => exact .inr rfl
      | some c =>
        by_cases n : K26.own h Z a
        · exact .inl n
        · rw [p.keep a c n e] at z; cases z
theorem FrL.mk' (J : LayJ h Z r l b rows ls kvs f) (J' : LayJ h' Z r' l' b rows' ls' kvs' f') (hk : ∀ a c, a ≠ Z → a ≠ r → a ≠ l → a ≠ b → h a = some c → h' a = some c) (hr : r' = r ∨ h r' = none) (hl : l' = l ∨ h l' = none) : FrL Z h h' := by
  refine ⟨fun a c n e => ?_, fun a o => ?_⟩
  · rw [J.own] at n
    exact hk a c (fun z => n (.inl z)) (fun z => n (.inr (.inl z))) (fun z => n (.inr (.inr (.inl z)))) (fun z => n (.inr (.inr (.inr z)))) e
  · rw [J'.own] at o
    rw [J.own]
    rcases o with z | z | z | z
    · exact .inl (.inl z)
    · rcases hr with e | e
      · exact .inl (.inr (.inl (z.trans e)))
      · exact .inr (by rw [z]; exact e)
    · rcases hl with e | e
      · exact .inl (.inr (.inr (.inl (z.trans e))))
      · exact .inr (by rw [z]; exact e)
    · exact .inl (.inr (.inr (.inr z)))
theorem LayJ.frA (J : LayJ h Z r l b rows ls kvs f) (k : FrA h h') : LayJ h' Z r l b rows ls kvs f ∧ FrL Z h h' := by
  have J' : LayJ h' Z r l b rows ls kvs f := ⟨k _ _ J.cz, k _ _ J.cr, k _ _ J.cl, k _ _ J.cb, J.rl⟩
  exact ⟨J', .mk' J J' (fun a c _ _ _ _ e => k a c e) (.inl rfl) (.inl rfl)⟩
theorem LayJ.appR (J : LayJ h Z r l b rows ls kvs f) (ds : List D) : LayJ (updD h r (.lst ds)) Z r l b ds ls kvs f ∧ FrL Z h (updD h r (.lst ds)) := by
  have J' : LayJ (updD h r (.lst ds)) Z r l b ds ls kvs f := ⟨by rw [updD_ne J.rZ.symm]; exact J.cz, updD_same, by rw [updD_ne J.rl.symm]; exact J.cl, by rw [updD_ne J.br]; exact J.cb, J.rl⟩
  exact ⟨J', .mk' J J' (fun a c _ n _ _ e => by rw [updD_ne n]; exact e) (.inl rfl) (.inl rfl)⟩
theorem LayJ.appL (J : LayJ h Z r l b rows ls kvs f) (ds : List D) : LayJ (updD h l (.lst ds)) Z r l b rows ds kvs f ∧ FrL Z h (updD h l (.lst ds)) := by
  have J' : LayJ (updD h l (.lst ds)) Z r l b rows ds kvs f := ⟨by rw [updD_ne J.lZ.symm]; exact J.cz, by rw [updD_ne J.rl]; exact J.cr, updD_same, by rw [updD_ne J.bl]; exact J.cb, J.rl⟩
  exact ⟨J', .mk' J J' (fun a c _ _ n _ e => by rw [updD_ne n]; exact e) (.inl rfl) (.inl rfl)⟩
theorem LayJ.putB (J : LayJ h Z r l b rows ls kvs f) (ks : PK) : LayJ (updD h b (.dT ks)) Z r l b rows ls ks f ∧ FrL Z h (updD h b (.dT ks)) := by
  have J' : LayJ (updD h b (.dT ks)) Z r l b rows ls ks f := ⟨by rw [updD_ne J.bZ.symm]; exact J.cz, by rw [updD_ne J.br.symm]; exact J.cr, by rw [updD_ne J.bl.symm]; exact J.cl, updD_same, J.rl⟩
  exact ⟨J', .mk' J J' (fun a c _ _ _ n e => by rw [updD_ne n]; exact e) (.inl rfl) (.inl rfl)⟩
theorem LayJ.putF (J : LayJ h Z r l b rows ls kvs f) (z : Int) : LayJ (updD h Z (layC r l b z)) Z r l b rows ls kvs z ∧ FrL Z h (updD h Z (layC r l b z)) := by
  have J' : LayJ (updD h Z (layC r l b z)) Z r l b rows ls kvs z := ⟨updD_same, by rw [updD_ne J.rZ]; exact J.cr, by rw [updD_ne J.lZ]; exact J.cl, by rw [updD_ne J.bZ]; exact J.cb, J.rl⟩
  exact ⟨J', .mk' J J' (fun a c n _ _ _ e => by rw [updD_ne n]; exact e) (.inl rfl) (.inl rfl)⟩
/-- a new list of rows -/
theorem LayJ.newR (J : LayJ h Z r l b rows ls kvs f) {p : Addr} (np : h p = none) (ds : List D) : LayJ (updD (updD h p (.lst ds)) Z (layC p l b f)) Z p l b ds ls kvs f ∧ FrL Z h (updD (updD h p (.lst ds)) Z (layC p l b f)) := by
  have ne : ∀ {a c}, h a = some c → p ≠ a := fun e z => by rw [z, e] at np; cases np
  have J' : LayJ (updD (updD h p (.lst ds)) Z (layC p l b f)) Z p l b ds ls kvs f := ⟨updD_same, by rw [updD_ne (ne J.cz)]; exact updD_same, by rw [updD_ne J.lZ, updD_ne (ne J.cl).symm]; exact J.cl, by rw [updD_ne J.bZ, updD_ne (ne J.cb).symm]; exact J.cb, ne J.cl⟩
  exact ⟨J', .mk' J J' (fun a c n _ _ _ e => by rw [updD_ne n, updD_ne (ne e).symm]; exact e) (.inr np) (.inl rfl)⟩
theorem LayJ.newL (J : LayJ h Z r l b rows ls kvs f) {p : Addr} (np : h p = none) (ds : List D) : LayJ (updD (updD h p (.lst ds)) Z (layC r p b f)) Z r p b rows ds kvs f ∧ FrL Z h (updD (updD h p (.lst ds)) Z (layC r p b f)) := by
  have ne : ∀ {a c}, h a = some c → p ≠ a := fun e z => by rw [z, e] at np; cases np
  have J' : LayJ (updD (updD h p (.lst ds)) Z (layC r p b f)) Z r p b rows ds kvs f := ⟨updD_same, by rw [updD_ne J.rZ, updD_ne (ne J.cr).symm]; exact J.cr, by rw [updD_ne (ne J.cz)]; exact updD_same, by rw [updD_ne J.bZ, updD_ne (ne J.cb).symm]; exact J.cb, (ne J.cr).symm⟩
  exact ⟨J', .mk' J J' (fun a c n _ _ _ e => by rw [updD_ne n, updD_ne (ne e).symm]; exact e) (.inl rfl) (.inr np)⟩
theorem TabOk.frL {Tb : Addr} {g : String → Int} {xs : List String} (tb : TabOk h Tb g xs) (n : ¬ own h Z Tb) (k : FrL Z h h') : TabOk h' Tb g xs ∧ ¬ own h' Z Tb := by
  obtain ⟨t, e, q⟩ := tb
  refine ⟨⟨t, k.keep Tb _ n e, q⟩, fun z => ?_⟩
  rcases k.own Tb z with z | z
  · exact n z
  · rw [e] at z; cases z
end
/-! ### keys -/
theorem getT_put {kvs : PK} {k k' : List DK} {v : D} : getT (putT kvs k v) k' = if k' = k then some v else getT kvs k' := by
  unfold putT
  split
  · rename_i ha
    induction kvs with
    | nil => simp at ha
    | cons p kvs ih =>
      unfold getT at *
      simp only [List.map_cons, List.find?_cons]
      by_cases e : p.1 = k
      · simp only [e, if_true]
        by_cases e2 : k' = k
        · subst e2; simp
        · have e3 : ¬ k = k' := fun z => e2 z.symm
          simp only [e2, if_false, e3, decide_false]
          by_cases hk : (kvs.any fun p => decide (p.1 = k)) = true
          · have := ih hk
            rw [if_neg e2] at this
            exact this
          · have nm : ∀ q ∈ kvs, q.1 ≠ k := fun q hq z => hk (List.any_eq_true.mpr ⟨q, hq, decide_eq_true z⟩)
            have : kvs.map (fun p => if p.1 = k then (p.1, v) else p) = kvs := by
              have := List.map_congr_left (f := fun p : List DK × D => if p.1 = k then (p.1, v) else p) (g := id) (l := kvs) fun q hq => if_neg (nm q hq)
              rw [this, List.map_id]
            rw [this]
      · simp only [e, if_false]
        by_cases e2 : p.1 = k'
        · simp only [e2, decide_true]
          rw [if_neg (fun z => e (e2.trans z))]
        · simp only [e2, decide_false]
          refine ih ?_
          simpa [e] using ha
  · rename_i ha
    have nm : ∀ q ∈ kvs, q.1 ≠ k := fun q hq z => ha (List.any_eq_true.mpr ⟨q, hq, decide_eq_true z⟩)
    unfold getT
    rw [List.find?_append]
    by_cases e2 : k' = k
    · subst e2
      have : kvs.find? (fun p => decide (p.1 = k')) = none := List.find?_eq_none.mpr fun q hq => by simpa using nm q hq
      rw [this, if_pos rfl]; simp
    · rw [if_neg e2]
      have e3 : ¬ k = k' := fun z => e2 z.symm
      simp [e3]
theorem putT_len (kvs : PK) (k : List DK) (v : D) : (putT kvs k v).length ≤ kvs.length + 1 := by
  unfold putT
  split
  · rw [List.length_map]; omega
  · rw [List.length_append]; simp
theorem pk_inj : ∀ {p q : List Int}, pk p = pk q → p = q
  | [], [], _ => rfl
  | [], _ :: _, h => by cases h
  | _ :: _, [], h => by cases h
  | x :: p, y :: q, h => by
    unfold pk at h
    simp only [List.map_cons, List.cons.injEq, Sum.inl.injEq] at h
    rw [h.1, pk_inj h.2]
theorem has_put {kvs : PK} {p q : List Int} {v : Int} (k : hasK kvs p ∨ p = q) : hasK (putT kvs (pk q) (.int v)) p := by
  unfold hasK
  rw [getT_put]
  by_cases e : pk p = pk q
  · rw [if_pos e]; exact ⟨v, rfl⟩
  · rw [if_neg e]
    rcases k with k | k
    · exact k
    · rw [k] at e; exact absurd rfl e
end K26

set_option maxRecDepth 100000
set_option maxHeartbeats 4000000
namespace K26
open PySem PySem.Spec PyProof.Rows L2 DX
def fNm : D → Option D
  | .tup (x :: _) => some x
  | _ => none
theorem nm_all : ∀ hs : List Hlp, (hs.map Hlp.d).filterMap fNm = sL (hs.map Hlp.name)
  | [] => rfl
  | p :: hs => by
    rw [List.map_cons, List.filterMap_cons_some (show fNm p.d = some (.str p.name) from rfl), nm_all hs]; rfl
theorem nodup_ix {ns : List String} (nd : ns.Nodup) : ∀ {i j : Nat} (hi : i < ns.length) (hj : j < ns.length), i < j → ns[i] ≠ ns[j] := fun hi hj hij => List.pairwise_iff_getElem.mp nd _ _ hi hj hij
theorem find_nm {ns : List String} {j : Nat} {x : String} (e : ns[j]? = some x) (nd : ns.Nodup) : (sL ns).findIdx? (fun z => z.eqv (.str x)) = some j := by
  obtain ⟨hj, e1⟩ := List.getElem?_eq_some_iff.mp e
  rw [List.findIdx?_eq_some_iff_getElem]
  refine ⟨by unfold sL; rw [List.length_map]; exact hj, ?_, fun i hi => ?_⟩
  · simp only [sL, List.getElem_map, eqv_str, e1, decide_true]
  · simp only [sL, List.getElem_map, eqv_str, decide_eq_true_eq]
    intro z
    exact nodup_ix nd (by omega) hj hi (z.trans e1.symm)
theorem atI_last (path : List Int) (i : Int) : atI (iL (path ++ [i])) (-1) = some (.int i) := by
  unfold atI ixN iL
  rw [List.length_map, List.length_append, List.length_singleton, if_neg (by decide), if_pos (by omega)]
  have e : ((-1 : Int) + ((path.length + 1 : Nat) : Int)).toNat = path.length := by omega
  show (List.map D.int (path ++ [i]))[((-1 : Int) + ((path.length + 1 : Nat) : Int)).toNat]? = _
  rw [e, List.getElem?_map, List.getElem?_append_right (Nat.le_refl _), Nat.sub_self]; rfl
theorem cut_last (path : List Int) (i : Int) : DX.cutD (iL (path ++ [i])) none (some (-1)) = iL path := by
  unfold DX.cutD
  have e : HT.sIx (iL (path ++ [i])).length (iL (path ++ [i])).length (some (-1)) = path.length := by
    unfold HT.sIx iL
    rw [List.length_map, List.length_append, List.length_singleton]
    show (if (-1 : Int) < 0 then ((-1 : Int) + ((path.length + 1 : Nat) : Int)).toNat else _) = _
    rw [if_pos (by decide)]
    omega
  rw [e, HT.sIx_none, List.drop_zero, Nat.sub_zero]
  unfold iL
  rw [← List.map_take, List.take_left]
theorem cost_mono {a b : Nat} (h : a ≤ b) : cost a ≤ cost b := Nat.pow_le_pow_right (by decide) (by omega)
theorem LayI.monoM {h : DHp} {Z r l b : Addr} {T : List Int → Prop} {M M' : Nat} {rows : List D} {labs : List Lab} {kvs : PK} {f : Int} (I : LayI h Z r l b T M rows labs kvs f) (m : M ≤ M') : LayI h Z r l b T M' rows labs kvs f :=
  ⟨I.cz, I.cr, I.cl, I.cb, I.rl, I.len, I.row, I.lab, I.f0, Nat.le_trans I.m1 m, Nat.le_trans I.m2 m, by have := I.m3; omega⟩
/-- names of a helper: at most six -/
theorem nodup_le : ∀ {ns xs : List String}, ns.Nodup → (∀ x ∈ ns, x ∈ xs) → ns.length ≤ xs.length
  | [], _, _, _ => Nat.zero_le _
  | n :: ns, xs, nd, sub => by
    obtain ⟨h1, h2⟩ := List.nodup_cons.mp nd
    have hn := sub n List.mem_cons_self
    have := nodup_le (ns := ns) (xs := xs.erase n) h2 fun x hx => (List.mem_erase_of_ne (fun e => h1 (by rw [← e]; exact hx))).mpr (sub x (List.mem_cons_of_mem _ hx))
    rw [List.length_erase_of_mem hn] at this
    have := List.length_pos_of_mem hn
    rw [List.length_cons]
    omega
theorem cells_in {names : List String} {top : Int} : ∀ {t : Tm}, t.ok names top → ∀ x ∈ t.cells, x ∈ names
  | .num _, _, x, hx => by simp [Tm.cells] at hx
  | .at y, h, x, hx => by rw [List.mem_singleton.mp hx]; exact h
  | .op w a b, h, x, hx => by
    rcases List.mem_append.mp hx with z | z
    · exact cells_in h.2.1 x z
    · exact cells_in h.2.2 x z
theorem used_in {names : List String} {top : Int} {many : Nat} {A : List (String × Nat)} {r : Rw} (ok : r.ok names top many A) : ∀ x ∈ r.used, x ∈ names := by
  intro x hx
  cases r with
  | ask y => rw [List.mem_singleton.mp hx]; exact ok
  | tell t => exact cells_in ok.1 x hx
  | iff t i => exact cells_in ok.1.1 x hx
  | go i => simp [Rw.used] at hx
  | give t => exact cells_in ok.1 x hx
  | set y t =>
    rcases List.mem_cons.mp hx with z | z
    · rw [z]; exact ok.1
    · exact cells_in ok.2.1 x z
  | call b n as =>
    rcases List.mem_append.mp hx with z | z
    · exact ok.1 x (Option.mem_toList.mp z)
    · obtain ⟨t, ht, hxt⟩ := List.mem_flatMap.mp z
      exact cells_in (ok.2.2.2 t ht).1 x hxt
theorem ns_len {p : Hlp} {ns names : List String} {top : Int} {A : List (String × Nat)} (h : namesOf p ns) (ok : p.ok names top A) : ns.length ≤ 6 := by
  refine Nat.le_trans (nodup_le h.1 fun x hx => ?_) ok.few
  rcases List.mem_append.mp ((h.2.2 x).1 hx) with z | z
  · exact ok.psn x z
  · obtain ⟨r, hr, hxr⟩ := List.mem_flatMap.mp z
    obtain ⟨i, hi⟩ := List.getElem?_of_mem hr
    exact used_in (ok.row i r hi).1 x hxr
/-- the loop of lay_call -/
def CM (hs : List Hlp) (Z r l b Tb : Addr) (rowD spotD pathD labD' : D) (j : Nat) (ps : List String) (rows ls : List D) (kvs : PK) (f : Int) (h0 : DHp) (t : Nat) (ρ : DSt) (h : DHp) : Prop :=
  ∃ (a c d e m : Option D) (st : List D), ρ = [some (D.tup (hs.map Hlp.d)), some (D.ref Z), some rowD, some spotD, some pathD, some labD', some (D.ref Tb), some (D.int (j : Nat)), a, some (D.ktup (sL ps)), c, d, e, m] ∧
    LayJ h Z r l b (rows ++ st) (ls ++ List.replicate t D.non) kvs f ∧ st.length = t ∧ (∀ x ∈ st, ∃ (i : Int) (ft : Ft), x = .tup [.str "set", .int i, ft.d]) ∧ FrL Z h0 h
theorem lay_call_ok (n m0 : Nat) (nm' : n ≤ m0) (ds : List D) (h : DHp) (Q : DQ) (hl : ds.length = 4) (hs : SpLayCall n ds h Q (fun _ _ => False)) : rd_lay_call (spLay m0) (EN Q) (startD N_lay_call ds) h := by
  obtain ⟨hs, top, Z, path, fs, p, names, i, bk, nm, as, Tb, g, r, l, b, T, M, rows, labs, kvs, f, e, pg, nl, hp, pok, cok, tb, nown, I, mM, pl, fl, fok, bk', k⟩ := hs
  subst e
  obtain ⟨c1, c2, c3, c4⟩ := cok
  obtain ⟨q, hq, eq1⟩ := List.mem_map.mp c2
  obtain ⟨j, hj⟩ := List.getElem?_of_mem hq
  have jn : j < n := by
    have := (List.getElem?_eq_some_iff.mp hj).1
    rw [List.length_take] at this
    omega
  have hj' : hs[j]? = some q := by
    rw [List.getElem?_take] at hj
    rw [if_pos jn] at hj
    exact hj
  have qn : q.name = nm := congrArg Prod.fst eq1
  have ql : q.ps.length = as.length := congrArg Prod.snd eq1
  obtain ⟨qnames, qok⟩ := pg.hp j q hj'
  have h3 := pg.l3
  have ix : (sL (hs.map Hlp.name)).findIdx? (fun z => z.eqv (.str nm)) = some j := find_nm (by rw [List.getElem?_map, hj', ← qn]; rfl) pg.nm
  have dn : dats 60 (sL (hs.map Hlp.name)) = true := dats_of fun d hd => by
    obtain ⟨z, _, rfl⟩ := List.mem_map.mp hd
    exact dat_str
  have dps : dats 60 (sL q.ps) = true := dats_of fun d hd => by
    obtain ⟨z, _, rfl⟩ := List.mem_map.mp hd
    exact dat_str
  have aj : atI (hs.map Hlp.d) (j : Nat) = some q.d := atI_nat (by rw [List.getElem?_map, hj']; rfl)
  have J := I.j
  simp only [rd_lay_call, N_lay_call, Rw.d, rSeq, rCut, rAnd, rOr, rNot, rB, rOp, rDG, rDG2, rDIn, rVar, rC, DX.rEqD, DX.rNeD, rLstF, rLstM, rNil, rCons, rTup, rDP, DX.rLP, rRepL', rRepr, rNeg, rEnum, rDictZip, DX.rSortedSet, rBM, rPop0, DX.rAppend, rIf, rAsg, gN, gT, gsC, gs0, rRet, rDrop, DX.rI, rNext, rCont, rBreak, rCB, DX.rLen, rTuple, rTupleN, rTIdx, rList, rAbs, rMax2, rMin2, rIntB, rStrI, DX.rIsi, rIsN, rNotN, DX.rIx, rFrz, rNotV, rAndV, rOrV, rIfE, rSl, rSlT', rSlL', rPt, rNoP, rCatT', rCatL', newL, rCatS, rInD', rIndex', rCall, rSq, rRg1, rRg2, rChain, rYes, rNewK, rNewT, Tg.d, tgsD, wipeD, startD, and_assoc, atI_0, atI_1, atI_2, atI_3, String.reduceEq, Nat.reduceLeDiff, exists_and_left, exists_and_right, resD_int, resD_str, resD_bl, resD_non, resD_tup, resD_lst, resD_ktup, dat_int, dat_str, dat_bl, dat_non, dat_nil, eqv_int, eqv_str, eqv_nil, eqv_tnil, seqD_tup, seqD_lst, seqD_ktup, seqD_klst, resD_klst, seqL_lst, isN_non, isN_int, isN_str, isN_bl, isN_tup, isN_lst, isN_ref, Bool.not_eq_true', Bool.not_eq_true, decide_eq_false_iff_not, Nat.zero_le, List.map, List.length, List.replicate, List.cons_append, List.nil_append, List.getElem?_cons_zero, List.getElem?_cons_succ, List.set_cons_zero, List.set_cons_succ, Nat.sub_self, Nat.reduceAdd, Nat.reduceSub, Option.some.injEq, D.int.injEq, D.ref.injEq, D.bl.injEq, D.str.injEq, D.tup.injEq, D.lst.injEq, List.cons.injEq, and_true, true_and, exists_eq_left, exists_eq_left', exists_eq', exists_eq_right, exists_const, Bool.true_eq_false, Bool.false_eq_true, if_true, if_false, ite_true, ite_false, decide_eq_true_eq]
  refine lc_pure (hs.map Hlp.d) (fun _ => True) fNm (fun R rr => ?_) (by rw [List.length_map]; omega) (fun _ _ _ => trivial) (fun i d C acc P1 P0 hd hC k1 k0 => ?_) ?_
  · simp only [rSeq, rCut, rAnd, rOr, rNot, rB, rOp, rDG, rDG2, rDIn, rVar, rC, DX.rEqD, DX.rNeD, rLstF, rLstM, rNil, rCons, rTup, rDP, DX.rLP, rRepL', rRepr, rNeg, rEnum, rDictZip, DX.rSortedSet, rBM, rPop0, DX.rAppend, rIf, rAsg, gN, gT, gsC, gs0, rRet, rDrop, DX.rI, rNext, rCont, rBreak, rCB, DX.rLen, rTuple, rTupleN, rTIdx, rList, rAbs, rMax2, rMin2, rIntB, rStrI, DX.rIsi, rIsN, rNotN, DX.rIx, rFrz, rNotV, rAndV, rOrV, rIfE, rSl, rSlT', rSlL', rPt, rNoP, rCatT', rCatL', newL, rCatS, rInD', rIndex', rCall, rSq, rRg1, rRg2, rChain, rYes, rNewK, rNewT, Tg.d, tgsD, wipeD, startD, and_assoc, atI_0, atI_1, atI_2, atI_3, String.reduceEq, Nat.reduceLeDiff, exists_and_left, exists_and_right, resD_int, resD_str, resD_bl, resD_non, resD_tup, resD_lst, resD_ktup, dat_int, dat_str, dat_bl, dat_non, dat_nil, eqv_int, eqv_str, eqv_nil, eqv_tnil, seqD_tup, seqD_lst, seqD_ktup, seqD_klst, resD_klst, seqL_lst, isN_non, isN_int, isN_str, isN_bl, isN_tup, isN_lst, isN_ref, Bool.not_eq_true', Bool.not_eq_true, decide_eq_false_iff_not, Nat.zero_le, List.map, List.length, List.replicate, List.cons_append, List.nil_append, List.getElem?_cons_zero, List.getElem?_cons_succ, List.set_cons_zero, List.set_cons_succ, Nat.sub_self, Nat.reduceAdd, Nat.reduceSub, Option.some.injEq, D.int.injEq, D.ref.injEq, D.bl.injEq, D.str.injEq, D.tup.injEq, D.lst.injEq, List.cons.injEq, and_true, true_and, exists_eq_left, exists_eq_left', exists_eq', exists_eq_right, exists_const, Bool.true_eq_false, Bool.false_eq_true, if_true, if_false, ite_true, ite_false, decide_eq_true_eq]
    exact rr
  · obtain ⟨x, _, rfl⟩ := List.mem_map.mp (List.mem_of_getElem? hd)
    simp only [Hlp.d, rSeq, rCut, rAnd, rOr, rNot, rB, rOp, rDG, rDG2, rDIn, rVar, rC, DX.rEqD, DX.rNeD, rLstF, rLstM, rNil, rCons, rTup, rDP, DX.rLP, rRepL', rRepr, rNeg, rEnum, rDictZip, DX.rSortedSet, rBM, rPop0, DX.rAppend, rIf, rAsg, gN, gT, gsC, gs0, rRet, rDrop, DX.rI, rNext, rCont, rBreak, rCB, DX.rLen, rTuple, rTupleN, rTIdx, rList, rAbs, rMax2, rMin2, rIntB, rStrI, DX.rIsi, rIsN, rNotN, DX.rIx, rFrz, rNotV, rAndV, rOrV, rIfE, rSl, rSlT', rSlL', rPt, rNoP, rCatT', rCatL', newL, rCatS, rInD', rIndex', rCall, rSq, rRg1, rRg2, rChain, rYes, rNewK, rNewT, Tg.d, tgsD, wipeD, startD, and_assoc, atI_0, atI_1, atI_2, atI_3, String.reduceEq, Nat.reduceLeDiff, exists_and_left, exists_and_right, resD_int, resD_str, resD_bl, resD_non, resD_tup, resD_lst, resD_ktup, dat_int, dat_str, dat_bl, dat_non, dat_nil, eqv_int, eqv_str, eqv_nil, eqv_tnil, seqD_tup, seqD_lst, seqD_ktup, seqD_klst, resD_klst, seqL_lst, isN_non, isN_int, isN_str, isN_bl, isN_tup, isN_lst, isN_ref, Bool.not_eq_true', Bool.not_eq_true, decide_eq_false_iff_not, Nat.zero_le, List.map, List.length, List.replicate, List.cons_append, List.nil_append, List.getElem?_cons_zero, List.getElem?_cons_succ, List.set_cons_zero, List.set_cons_succ, Nat.sub_self, Nat.reduceAdd, Nat.reduceSub, Option.some.injEq, D.int.injEq, D.ref.injEq, D.bl.injEq, D.str.injEq, D.tup.injEq, D.lst.injEq, List.cons.injEq, and_true, true_and, exists_eq_left, exists_eq_left', exists_eq', exists_eq_right, exists_const, Bool.true_eq_false, Bool.false_eq_true, if_true, if_false, ite_true, ite_false, decide_eq_true_eq]
    exact k1 _ rfl
  · rw [nm_all]
    simp only [newL, rSeq, rCut, rAnd, rOr, rNot, rB, rOp, rDG, rDG2, rDIn, rVar, rC, DX.rEqD, DX.rNeD, rLstF, rLstM, rNil, rCons, rTup, rDP, DX.rLP, rRepL', rRepr, rNeg, rEnum, rDictZip, DX.rSortedSet, rBM, rPop0, DX.rAppend, rIf, rAsg, gN, gT, gsC, gs0, rRet, rDrop, DX.rI, rNext, rCont, rBreak, rCB, DX.rLen, rTuple, rTupleN, rTIdx, rList, rAbs, rMax2, rMin2, rIntB, rStrI, DX.rIsi, rIsN, rNotN, DX.rIx, rFrz, rNotV, rAndV, rOrV, rIfE, rSl, rSlT', rSlL', rPt, rNoP, rCatT', rCatL', newL, rCatS, rInD', rIndex', rCall, rSq, rRg1, rRg2, rChain, rYes, rNewK, rNewT, Tg.d, tgsD, wipeD, startD, and_assoc, atI_0, atI_1, atI_2, atI_3, String.reduceEq, Nat.reduceLeDiff, exists_and_left, exists_and_right, resD_int, resD_str, resD_bl, resD_non, resD_tup, resD_lst, resD_ktup, dat_int, dat_str, dat_bl, dat_non, dat_nil, eqv_int, eqv_str, eqv_nil, eqv_tnil, seqD_tup, seqD_lst, seqD_ktup, seqD_klst, resD_klst, seqL_lst, isN_non, isN_int, isN_str, isN_bl, isN_tup, isN_lst, isN_ref, Bool.not_eq_true', Bool.not_eq_true, decide_eq_false_iff_not, Nat.zero_le, List.map, List.length, List.replicate, List.cons_append, List.nil_append, List.getElem?_cons_zero, List.getElem?_cons_succ, List.set_cons_zero, List.set_cons_succ, Nat.sub_self, Nat.reduceAdd, Nat.reduceSub, Option.some.injEq, D.int.injEq, D.ref.injEq, D.bl.injEq, D.str.injEq, D.tup.injEq, D.lst.injEq, List.cons.injEq, and_true, true_and, exists_eq_left, exists_eq_left', exists_eq', exists_eq_right, exists_const, Bool.true_eq_false, Bool.false_eq_true, if_true, if_false, ite_true, ite_false, decide_eq_true_eq]
    refine ⟨trivial, trivial, dn, j, ix, ?_⟩
    have len1 : rows.length < sizeLine := by have := I.m1; rw [sizeLine_eq]; omega
    have len2 : (labs.map labD).length < sizeLine := by rw [List.length_map, ← I.len]; exact len1
    obtain ⟨J1, F1⟩ := J.appR (rows ++ [D.tup [D.str "go", D.int (rows.length + 1)]])
    obtain ⟨J2, F2⟩ := J1.appL (labs.map labD ++ [D.tup (fs.map fmD)])
    refine ⟨_, J.lrows, isLst_ref J.cr, _, J.lrows, _, seqD_ref J.cr, r, rfl, _, J.cr, len1, _, J1.llabs, isLst_ref J1.cl, l, rfl, _, J1.cl, len2, _, aj, ?_⟩
    simp only [Hlp.d, rSeq, rCut, rAnd, rOr, rNot, rB, rOp, rDG, rDG2, rDIn, rVar, rC, DX.rEqD, DX.rNeD, rLstF, rLstM, rNil, rCons, rTup, rDP, DX.rLP, rRepL', rRepr, rNeg, rEnum, rDictZip, DX.rSortedSet, rBM, rPop0, DX.rAppend, rIf, rAsg, gN, gT, gsC, gs0, rRet, rDrop, DX.rI, rNext, rCont, rBreak, rCB, DX.rLen, rTuple, rTupleN, rTIdx, rList, rAbs, rMax2, rMin2, rIntB, rStrI, DX.rIsi, rIsN, rNotN, DX.rIx, rFrz, rNotV, rAndV, rOrV, rIfE, rSl, rSlT', rSlL', rPt, rNoP, rCatT', rCatL', newL, rCatS, rInD', rIndex', rCall, rSq, rRg1, rRg2, rChain, rYes, rNewK, rNewT, Tg.d, tgsD, wipeD, startD, and_assoc, atI_0, atI_1, atI_2, atI_3, String.reduceEq, Nat.reduceLeDiff, exists_and_left, exists_and_right, resD_int, resD_str, resD_bl, resD_non, resD_tup, resD_lst, resD_ktup, dat_int, dat_str, dat_bl, dat_non, dat_nil, eqv_int, eqv_str, eqv_nil, eqv_tnil, seqD_tup, seqD_lst, seqD_ktup, seqD_klst, resD_klst, seqL_lst, isN_non, isN_int, isN_str, isN_bl, isN_tup, isN_lst, isN_ref, Bool.not_eq_true', Bool.not_eq_true, decide_eq_false_iff_not, Nat.zero_le, List.map, List.length, List.replicate, List.cons_append, List.nil_append, List.getElem?_cons_zero, List.getElem?_cons_succ, List.set_cons_zero, List.set_cons_succ, Nat.sub_self, Nat.reduceAdd, Nat.reduceSub, Option.some.injEq, D.int.injEq, D.ref.injEq, D.bl.injEq, D.str.injEq, D.tup.injEq, D.lst.injEq, List.cons.injEq, and_true, true_and, exists_eq_left, exists_eq_left', exists_eq', exists_eq_right, exists_const, Bool.true_eq_false, Bool.false_eq_true, if_true, if_false, ite_true, ite_false, decide_eq_true_eq]
    have F02 := F1.trans F2
    generalize hD2 : updD (updD h r (Cell.lst (rows ++ [D.tup [D.str "go", D.int (rows.length + 1)]]))) l (Cell.lst (labs.map labD ++ [D.tup (fs.map fmD)])) = h2 at J2 F02 ⊢
    generalize hR2 : rows ++ [D.tup [D.str "go", D.int (rows.length + 1)]] = rows2 at J2
    generalize hL2 : labs.map labD ++ [D.tup (fs.map fmD)] = ls2 at J2
    refine ⟨fun ρ h' => ∃ t, t ≤ 6 ∧ CM hs Z r l b Tb (.tup [.str "call", oS bk, .str nm, .tup (as.map Tm.d)]) (.tup [pD (path ++ [i]), .tup (fs.map fmD), .ref Tb]) (pD (path ++ [i])) (.tup (fs.map fmD)) j q.ps rows2 ls2 kvs f h t ρ h', ?_, ?_⟩
    · simp only [rFor, rSeq, rCut, rAnd, rOr, rNot, rB, rOp, rDG, rDG2, rDIn, rVar, rC, DX.rEqD, DX.rNeD, rLstF, rLstM, rNil, rCons, rTup, rDP, DX.rLP, rRepL', rRepr, rNeg, rEnum, rDictZip, DX.rSortedSet, rBM, rPop0, DX.rAppend, rIf, rAsg, gN, gT, gsC, gs0, rRet, rDrop, DX.rI, rNext, rCont, rBreak, rCB, DX.rLen, rTuple, rTupleN, rTIdx, rList, rAbs, rMax2, rMin2, rIntB, rStrI, DX.rIsi, rIsN, rNotN, DX.rIx, rFrz, rNotV, rAndV, rOrV, rIfE, rSl, rSlT', rSlL', rPt, rNoP, rCatT', rCatL', newL, rCatS, rInD', rIndex', rCall, rSq, rRg1, rRg2, rChain, rYes, rNewK, rNewT, Tg.d, tgsD, wipeD, startD, and_assoc, atI_0, atI_1, atI_2, atI_3, String.reduceEq, Nat.reduceLeDiff, exists_and_left, exists_and_right, resD_int, resD_str, resD_bl, resD_non, resD_tup, resD_lst, resD_ktup, dat_int, dat_str, dat_bl, dat_non, dat_nil, eqv_int, eqv_str, eqv_nil, eqv_tnil, seqD_tup, seqD_lst, seqD_ktup, seqD_klst, resD_klst, seqL_lst, isN_non, isN_int, isN_str, isN_bl, isN_tup, isN_lst, isN_ref, Bool.not_eq_true', Bool.not_eq_true, decide_eq_false_iff_not, Nat.zero_le, List.map, List.length, List.replicate, List.cons_append, List.nil_append, List.getElem?_cons_zero, List.getElem?_cons_succ, List.set_cons_zero, List.set_cons_succ, Nat.sub_self, Nat.reduceAdd, Nat.reduceSub, Option.some.injEq, D.int.injEq, D.ref.injEq, D.bl.injEq, D.str.injEq, D.tup.injEq, D.lst.injEq, List.cons.injEq, and_true, true_and, exists_eq_left, exists_eq_left', exists_eq', exists_eq_right, exists_const, Bool.true_eq_false, Bool.false_eq_true, if_true, if_false, ite_true, ite_false, decide_eq_true_eq]
      refine ⟨_, aj, q, qnames, top, _, rfl, qok, fun ns h3 nso fa => ?_⟩
      have n6 := ns_len nso qok
      obtain ⟨J3, F3⟩ := J2.frA fa
      simp only [rSeq, rCut, rAnd, rOr, rNot, rB, rOp, rDG, rDG2, rDIn, rVar, rC, DX.rEqD, DX.rNeD, rLstF, rLstM, rNil, rCons, rTup, rDP, DX.rLP, rRepL', rRepr, rNeg, rEnum, rDictZip, DX.rSortedSet, rBM, rPop0, DX.rAppend, rIf, rAsg, gN, gT, gsC, gs0, rRet, rDrop, DX.rI, rNext, rCont, rBreak, rCB, DX.rLen, rTuple, rTupleN, rTIdx, rList, rAbs, rMax2, rMin2, rIntB, rStrI, DX.rIsi, rIsN, rNotN, DX.rIx, rFrz, rNotV, rAndV, rOrV, rIfE, rSl, rSlT', rSlL', rPt, rNoP, rCatT', rCatL', newL, rCatS, rInD', rIndex', rCall, rSq, rRg1, rRg2, rChain, rYes, rNewK, rNewT, Tg.d, tgsD, wipeD, startD, and_assoc, atI_0, atI_1, atI_2, atI_3, String.reduceEq, Nat.reduceLeDiff, exists_and_left, exists_and_right, resD_int, resD_str, resD_bl, resD_non, resD_tup, resD_lst, resD_ktup, dat_int, dat_str, dat_bl, dat_non, dat_nil, eqv_int, eqv_str, eqv_nil, eqv_tnil, seqD_tup, seqD_lst, seqD_ktup, seqD_klst, resD_klst, seqL_lst, isN_non, isN_int, isN_str, isN_bl, isN_tup, isN_lst, isN_ref, Bool.not_eq_true', Bool.not_eq_true, decide_eq_false_iff_not, Nat.zero_le, List.map, List.length, List.replicate, List.cons_append, List.nil_append, List.getElem?_cons_zero, List.getElem?_cons_succ, List.set_cons_zero, List.set_cons_succ, Nat.sub_self, Nat.reduceAdd, Nat.reduceSub, Option.some.injEq, D.int.injEq, D.ref.injEq, D.bl.injEq, D.str.injEq, D.tup.injEq, D.lst.injEq, List.cons.injEq, and_true, true_and, exists_eq_left, exists_eq_left', exists_eq', exists_eq_right, exists_const, Bool.true_eq_false, Bool.false_eq_true, if_true, if_false, ite_true, ite_false, decide_eq_true_eq]
      refine ⟨CM hs Z r l b Tb (.tup [.str "call", oS bk, .str nm, .tup (as.map Tm.d)]) (.tup [pD (path ++ [i]), .tup (fs.map fmD), .ref Tb]) (pD (path ++ [i])) (.tup (fs.map fmD)) j q.ps rows2 ls2 kvs f h, ⟨none, none, none, none, none, [], rfl, by rw [List.append_nil]; show LayJ h3 Z r l b rows2 (ls2 ++ []) kvs f; rw [List.append_nil]; exact J3, rfl, fun x hx => by simp at hx, F02.trans F3⟩, ?_, ?_⟩
      · rintro t y ρ h4 hy ⟨a, c, d, e, m, st, rfl, J4, l4, st4, F4⟩
        rw [enD_get] at hy
        obtain ⟨x0, hx0, rfl⟩ := Option.map_eq_some_iff.mp hy
        unfold sL at hx0
        rw [List.getElem?_map] at hx0
        obtain ⟨x, hx, ex0⟩ := Option.map_eq_some_iff.mp hx0
        subst ex0
        have t6 : t < ns.length := (List.getElem?_eq_some_iff.mp hx).1
        obtain ⟨tb4, no4⟩ := tb.frL nown F4
        simp only [rSeq, rCut, rAnd, rOr, rNot, rB, rOp, rDG, rDG2, rDIn, rVar, rC, DX.rEqD, DX.rNeD, rLstF, rLstM, rNil, rCons, rTup, rDP, DX.rLP, rRepL', rRepr, rNeg, rEnum, rDictZip, DX.rSortedSet, rBM, rPop0, DX.rAppend, rIf, rAsg, gN, gT, gsC, gs0, rRet, rDrop, DX.rI, rNext, rCont, rBreak, rCB, DX.rLen, rTuple, rTupleN, rTIdx, rList, rAbs, rMax2, rMin2, rIntB, rStrI, DX.rIsi, rIsN, rNotN, DX.rIx, rFrz, rNotV, rAndV, rOrV, rIfE, rSl, rSlT', rSlL', rPt, rNoP, rCatT', rCatL', newL, rCatS, rInD', rIndex', rCall, rSq, rRg1, rRg2, rChain, rYes, rNewK, rNewT, Tg.d, tgsD, wipeD, startD, and_assoc, atI_0, atI_1, atI_2, atI_3, String.reduceEq, Nat.reduceLeDiff, exists_and_left, exists_and_right, resD_int, resD_str, resD_bl, resD_non, resD_tup, resD_lst, resD_ktup, dat_int, dat_str, dat_bl, dat_non, dat_nil, eqv_int, eqv_str, eqv_nil, eqv_tnil, seqD_tup, seqD_lst, seqD_ktup, seqD_klst, resD_klst, seqL_lst, isN_non, isN_int, isN_str, isN_bl, isN_tup, isN_lst, isN_ref, Bool.not_eq_true', Bool.not_eq_true, decide_eq_false_iff_not, Nat.zero_le, List.map, List.length, List.replicate, List.cons_append, List.nil_append, List.getElem?_cons_zero, List.getElem?_cons_succ, List.set_cons_zero, List.set_cons_succ, Nat.sub_self, Nat.reduceAdd, Nat.reduceSub, Option.some.injEq, D.int.injEq, D.ref.injEq, D.bl.injEq, D.str.injEq, D.tup.injEq, D.lst.injEq, List.cons.injEq, and_true, true_and, exists_eq_left, exists_eq_left', exists_eq', exists_eq_right, exists_const, Bool.true_eq_false, Bool.false_eq_true, if_true, if_false, ite_true, ite_false, decide_eq_true_eq]
        have st6 : (rows2 ++ st).length < sizeLine := by rw [← hR2, sizeLine_eq]; have := I.m1; simp; omega
        have sl6 : (ls2 ++ List.replicate t D.non).length < sizeLine := by rw [← hL2, sizeLine_eq]; have := I.m1; have := I.len; simp; omega
        refine ⟨dps, fun ρ h' => h' = h4 ∧ ∃ ft : Ft, ρ = [some (D.tup (List.map Hlp.d hs)), some (D.ref Z), some (D.tup [D.str "call", oS bk, D.str nm, D.tup (List.map Tm.d as)]), some (D.tup [pD (path ++ [i]), D.tup (List.map fmD fs), D.ref Tb]),
                  some (pD (path ++ [i])), some (D.tup (List.map fmD fs)), some (D.ref Tb), some (D.int (j : Nat)), a, some (D.ktup (sL q.ps)), some (D.int (t : Nat)), some (D.str x), some ft.d, m], ?_, ?_⟩
        · split
          · rename_i hin
            have xin : x ∈ q.ps := by
              have : ((sL q.ps).any fun z => z.eqv (D.str x)) = true := by simpa using hin
              obtain ⟨z, hz, ez⟩ := List.any_eq_true.mp this
              obtain ⟨y, hy, rfl⟩ := List.mem_map.mp hz
              rw [eqv_str] at ez
              rw [← of_decide_eq_true ez]; exact hy
            obtain ⟨u, hu⟩ := List.getElem?_of_mem xin
            obtain ⟨ul, ue⟩ := List.getElem?_eq_some_iff.mp hu
            have hau : as[u]? = some (as[u]'(by omega)) := List.getElem?_eq_getElem (by omega)
            generalize as[u]'(by omega) = tm at hau
            have tmin := List.mem_of_getElem? hau
            refine ⟨trivial, q.ps, rfl, u, hu, fun v hv e => ?_, _, atI_nat (by rw [List.getElem?_map, hau]; rfl), tm, names, top, Tb, g, rfl, by have := (c4 tm tmin).2; omega, (c4 tm tmin).1, tb4.sub fun y hy => List.mem_append_right _ (List.mem_flatMap.mpr ⟨tm, tmin, hy⟩), rfl, _, rfl⟩
            obtain ⟨vl, ve⟩ := List.getElem?_eq_some_iff.mp e
            exact nodup_ix qok.nd vl ul hv (ve.trans ue.symm)
          · exact ⟨rfl, .num 0, rfl⟩
        · rintro ρ h' ⟨rfl, ft, rfl⟩
          simp only [rSeq, rCut, rAnd, rOr, rNot, rB, rOp, rDG, rDG2, rDIn, rVar, rC, DX.rEqD, DX.rNeD, rLstF, rLstM, rNil, rCons, rTup, rDP, DX.rLP, rRepL', rRepr, rNeg, rEnum, rDictZip, DX.rSortedSet, rBM, rPop0, DX.rAppend, rIf, rAsg, gN, gT, gsC, gs0, rRet, rDrop, DX.rI, rNext, rCont, rBreak, rCB, DX.rLen, rTuple, rTupleN, rTIdx, rList, rAbs, rMax2, rMin2, rIntB, rStrI, DX.rIsi, rIsN, rNotN, DX.rIx, rFrz, rNotV, rAndV, rOrV, rIfE, rSl, rSlT', rSlL', rPt, rNoP, rCatT', rCatL', newL, rCatS, rInD', rIndex', rCall, rSq, rRg1, rRg2, rChain, rYes, rNewK, rNewT, Tg.d, tgsD, wipeD, startD, and_assoc, atI_0, atI_1, atI_2, atI_3, String.reduceEq, Nat.reduceLeDiff, exists_and_left, exists_and_right, resD_int, resD_str, resD_bl, resD_non, resD_tup, resD_lst, resD_ktup, dat_int, dat_str, dat_bl, dat_non, dat_nil, eqv_int, eqv_str, eqv_nil, eqv_tnil, seqD_tup, seqD_lst, seqD_ktup, seqD_klst, resD_klst, seqL_lst, isN_non, isN_int, isN_str, isN_bl, isN_tup, isN_lst, isN_ref, Bool.not_eq_true', Bool.not_eq_true, decide_eq_false_iff_not, Nat.zero_le, List.map, List.length, List.replicate, List.cons_append, List.nil_append, List.getElem?_cons_zero, List.getElem?_cons_succ, List.set_cons_zero, List.set_cons_succ, Nat.sub_self, Nat.reduceAdd, Nat.reduceSub, Option.some.injEq, D.int.injEq, D.ref.injEq, D.bl.injEq, D.str.injEq, D.tup.injEq, D.lst.injEq, List.cons.injEq, and_true, true_and, exists_eq_left, exists_eq_left', exists_eq', exists_eq_right, exists_const, Bool.true_eq_false, Bool.false_eq_true, if_true, if_false, ite_true, ite_false, decide_eq_true_eq]
          obtain ⟨J5, F5⟩ := J4.appR (rows2 ++ st ++ [D.tup [D.str "set", D.int (f + (t : Nat)), ft.d]])
          obtain ⟨J6, F6⟩ := J5.appL (ls2 ++ List.replicate t D.non ++ [D.non])
          refine ⟨_, J4.lrows, isLst_ref J4.cr, _, J4.lfree, f, rfl, r, rfl, _, J4.cr, st6, _, J5.llabs, isLst_ref J5.cl, l, rfl, _, J5.cl, sl6, ?_⟩
          refine ⟨a, _, _, _, m, st ++ [D.tup [D.str "set", D.int (f + (t : Nat)), ft.d]], rfl, ?_, by rw [List.length_append, l4]; rfl, fun x hx => ?_, F4.trans (F5.trans F6)⟩
          · rw [← List.append_assoc, List.replicate_succ', ← List.append_assoc]; exact J6
          · rcases List.mem_append.mp hx with z | z
            · exact st4 x z
            · rw [List.mem_singleton.mp z]; exact ⟨_, ft, rfl⟩
      · rintro ρ h4 q4
        rw [enD_length] at q4
        unfold sL at q4
        rw [List.length_map] at q4
        exact ⟨_, n6, q4⟩
    · rintro ρ h4 ⟨t, t6, a, c, d, e, m, st, rfl, J4, l4, st4, F4⟩
      obtain ⟨tb4, no4⟩ := tb.frL nown F4
      simp only [rSeq, rCut, rAnd, rOr, rNot, rB, rOp, rDG, rDG2, rDIn, rVar, rC, DX.rEqD, DX.rNeD, rLstF, rLstM, rNil, rCons, rTup, rDP, DX.rLP, rRepL', rRepr, rNeg, rEnum, rDictZip, DX.rSortedSet, rBM, rPop0, DX.rAppend, rIf, rAsg, gN, gT, gsC, gs0, rRet, rDrop, DX.rI, rNext, rCont, rBreak, rCB, DX.rLen, rTuple, rTupleN, rTIdx, rList, rAbs, rMax2, rMin2, rIntB, rStrI, DX.rIsi, rIsN, rNotN, DX.rIx, rFrz, rNotV, rAndV, rOrV, rIfE, rSl, rSlT', rSlL', rPt, rNoP, rCatT', rCatL', newL, rCatS, rInD', rIndex', rCall, rSq, rRg1, rRg2, rChain, rYes, rNewK, rNewT, Tg.d, tgsD, wipeD, startD, and_assoc, atI_0, atI_1, atI_2, atI_3, String.reduceEq, Nat.reduceLeDiff, exists_and_left, exists_and_right, resD_int, resD_str, resD_bl, resD_non, resD_tup, resD_lst, resD_ktup, dat_int, dat_str, dat_bl, dat_non, dat_nil, eqv_int, eqv_str, eqv_nil, eqv_tnil, seqD_tup, seqD_lst, seqD_ktup, seqD_klst, resD_klst, seqL_lst, isN_non, isN_int, isN_str, isN_bl, isN_tup, isN_lst, isN_ref, Bool.not_eq_true', Bool.not_eq_true, decide_eq_false_iff_not, Nat.zero_le, List.map, List.length, List.replicate, List.cons_append, List.nil_append, List.getElem?_cons_zero, List.getElem?_cons_succ, List.set_cons_zero, List.set_cons_succ, Nat.sub_self, Nat.reduceAdd, Nat.reduceSub, Option.some.injEq, D.int.injEq, D.ref.injEq, D.bl.injEq, D.str.injEq, D.tup.injEq, D.lst.injEq, List.cons.injEq, and_true, true_and, exists_eq_left, exists_eq_left', exists_eq', exists_eq_right, exists_const, Bool.true_eq_false, Bool.false_eq_true, if_true, if_false, ite_true, ite_false, decide_eq_true_eq]
      have cut1 : (iL path).length + 1 ≤ sizeLine := by unfold iL; rw [List.length_map, sizeLine_eq]; omega
      have ap1 : iL path ++ [D.int (i + 1)] = iL (path ++ [i + 1]) := by unfold iL; rw [List.map_append]; rfl
      have fin : ∀ o : Option Int, spLay m0 [D.tup (hs.map Hlp.d), D.ref Z, D.int (j : Nat), D.tup [pD (path ++ [i]), D.tup (fs.map fmD), backD (some (o, path ++ [i + 1]))]] h4 (fun x h1 => Q .non h1) (fun _ _ => False) := fun o => by
        have cm : cost j ≤ cost (n - 1) := cost_mono (by omega)
        have rl2 : (rows2 ++ st).length = rows.length + 1 + t := by rw [← hR2]; simp; omega
        have lb : ls2 ++ List.replicate t D.non = (labs ++ [some fs] ++ List.replicate t none).map labD := by rw [← hL2]; simp [labD]
        rw [lb] at J4
        refine ⟨j, Nat.lt_of_lt_of_le jn nm', hs, top, Z, path ++ [i], fs, some (o, path ++ [i + 1]), r, l, b, T, M + 8, rows2 ++ st, labs ++ [some fs] ++ List.replicate t none, kvs, f, rfl, pg, (List.getElem?_eq_some_iff.mp hj').1, ?_, by omega, by rw [List.length_append]; simp; omega, by omega, fok, fun o' p' e' => by cases e'; exact bk', ?_⟩
        · have m1 := I.m1
          have m2 := I.m2
          have m3 := I.m3
          refine ⟨J4.cz, J4.cr, J4.cl, J4.cb, J4.rl, by rw [rl2]; simp [I.len]; omega, fun d hd => ?_, fun x hx => ?_, I.f0, by rw [rl2]; omega, by omega, by omega⟩
          · rcases List.mem_append.mp hd with z | z
            · rw [← hR2] at z
              rcases List.mem_append.mp z with z | z
              · exact I.row d z
              · rw [List.mem_singleton.mp z]; exact .goi _
            · obtain ⟨i', ft, rfl⟩ := st4 d z
              exact .set i' ft
          · rcases List.mem_append.mp hx with z | z
            · rcases List.mem_append.mp z with z | z
              · exact I.lab x z
              · rw [List.mem_singleton.mp z]
                exact fun fs' e' => by cases e'; exact ⟨by omega, fok⟩
            · rw [(List.mem_replicate.mp z).2]
              exact fun fs' e' => by cases e'
        · intro h' r' l' b' rows' labs' kvs' f' I' F' nl' hk' hf'
          refine k h' r' l' b' rows' labs' kvs' f' (I'.monoM (by omega)) (F4.trans F') (by omega) hk' hf'
      cases bk with
      | none =>
        rw [if_pos (show (oS none).isN = true from rfl)]
        refine ⟨_, rfl, _, rfl, _, atI_last path i, i, rfl, ?_⟩
        rw [cut_last, ap1]
        exact ⟨cut1, fin none⟩
      | some x =>
        rw [if_neg (by simp [oS, D.isN])]
        refine ⟨_, tb4.look (List.mem_append_left _ (by simp)), _, rfl, _, rfl, _, atI_last path i, i, rfl, ?_⟩
        rw [cut_last, ap1]
        exact ⟨cut1, fin (some (g x))⟩
end K26

set_option maxRecDepth 100000
set_option maxHeartbeats 4000000
namespace K26
open PySem PySem.Spec PyProof.Rows L2 DX
theorem getD_put {kvs : List (DK × D)} {k k' : DK} {v : D} : getD' (putD kvs k v) k' = if k' = k then some v else getD' kvs k' := by
  unfold putD
  split
  · rename_i ha
    induction kvs with
    | nil => simp at ha
    | cons p kvs ih =>
      unfold getD' at *
      simp only [List.map_cons, List.find?_cons]
      by_cases e : p.1 = k
      · simp only [e, if_true]
        by_cases e2 : k' = k
        · subst e2; simp
        · have e3 : ¬ k = k' := fun z => e2 z.symm
          simp only [e2, if_false, e3, decide_false]
          by_cases hk : (kvs.any fun p => decide (p.1 = k)) = true
          · have := ih hk
            rw [if_neg e2] at this
            exact this
          · have nm : ∀ q ∈ kvs, q.1 ≠ k := fun q hq z => hk (List.any_eq_true.mpr ⟨q, hq, decide_eq_true z⟩)
            have : kvs.map (fun p => if p.1 = k then (p.1, v) else p) = kvs := by
              have := List.map_congr_left (f := fun p : DK × D => if p.1 = k then (p.1, v) else p) (g := id) (l := kvs) fun q hq => if_neg (nm q hq)
              rw [this, List.map_id]
            rw [this]
      · simp only [e, if_false]
        by_cases e2 : p.1 = k'
        · simp only [e2, decide_true]
          rw [if_neg (fun z => e (e2.trans z))]
        · simp only [e2, decide_false]
          refine ih ?_
          simpa [e] using ha
  · rename_i ha
    have nm : ∀ q ∈ kvs, q.1 ≠ k := fun q hq z => ha (List.any_eq_true.mpr ⟨q, hq, decide_eq_true z⟩)
    unfold getD'
    rw [List.find?_append]
    by_cases e2 : k' = k
    · subst e2
      have : kvs.find? (fun p => decide (p.1 = k')) = none := List.find?_eq_none.mpr fun q hq => by simpa using nm q hq
      rw [this, if_pos rfl]; simp
    · rw [if_neg e2]
      have e3 : ¬ k = k' := fun z => e2 z.symm
      simp [e3]
theorem merge_int : ∀ (kvs : List (DK × D)) (acc : List (DK × D)) (k : DK), (∀ p ∈ kvs, ∃ v : Int, p.2 = .int v) → ((∃ v : Int, getD' acc k = some (.int v)) ∨ k ∈ kvs.map (·.1)) → ∃ v : Int, getD' (mergeD acc kvs) k = some (.int v)
  | [], acc, k, _, h => h.elim id fun z => by simp at z
  | p :: kvs, acc, k, hv, h => by
    obtain ⟨v, ev⟩ := hv p List.mem_cons_self
    show ∃ v : Int, getD' (mergeD (putD acc p.1 p.2) kvs) k = some (.int v)
    refine merge_int kvs _ k (fun q hq => hv q (List.mem_cons_of_mem _ hq)) ?_
    rcases h with ⟨u, h⟩ | h
    · refine .inl ?_
      rw [getD_put]
      by_cases e : k = p.1
      · rw [if_pos e, ev]; exact ⟨v, rfl⟩
      · rw [if_neg e]; exact ⟨u, h⟩
    · rcases List.mem_cons.mp h with e | h
      · refine .inl ?_
        rw [getD_put, if_pos e, ev]; exact ⟨v, rfl⟩
      · exact .inr h
theorem keys_sL : ∀ ns : List String, keysD (sL ns) = some (ns.map Sum.inr)
  | [] => rfl
  | n :: ns => by
    unfold sL
    rw [List.map_cons, List.map_cons]
    show (match keyD (D.str n), keysD (List.map D.str ns) with | some k, some ks => some (k :: ks) | _, _ => none) = _
    rw [show keysD (List.map D.str ns) = some (List.map Sum.inr ns) from keys_sL ns]
    rfl
theorem table_ok {h : DHp} {Tb : Addr} {ns : List String} {sl : List Int} (len : sl.length = ns.length) (e : h Tb = some (.dK (mergeD [] ((ns.map Sum.inr).zip (iL sl))))) : ∃ g : String → Int, TabOk h Tb g ns := by
  have key : ∀ x : String, ∃ v : Int, x ∈ ns → getD' (mergeD [] ((ns.map (Sum.inr : String → DK)).zip (iL sl))) (.inr x) = some (.int v) := fun x => by
    by_cases hx : x ∈ ns
    · obtain ⟨v, ev⟩ := merge_int ((ns.map (Sum.inr : String → DK)).zip (iL sl)) [] (.inr x) (fun p hp => by
        have := List.of_mem_zip (show (p.1, p.2) ∈ _ from hp)
        obtain ⟨v, _, ev⟩ := List.mem_map.mp this.2
        exact ⟨v, ev.symm⟩) (.inr (by
        rw [List.map_fst_zip (by unfold iL; rw [List.length_map, List.length_map]; omega)]
        exact List.mem_map_of_mem hx))
      exact ⟨v, fun _ => ev⟩
    · exact ⟨0, fun z => absurd z hx⟩
  exact ⟨fun x => Classical.choose (key x), _, e, fun x hx => Classical.choose_spec (key x) hx⟩
def fAdd (f : Int) : D → Option D
  | .int k => some (.int (f + k))
  | _ => none
theorem add_all (f : Int) (n : Nat) : (rgD 0 n).filterMap (fAdd f) = iL ((List.range n).map fun k => f + (k : Nat)) := by
  have key : ∀ l : List Nat, (l.map fun i : Nat => D.int (0 + (i : Int))).filterMap (fAdd f) = iL (l.map fun k => f + (k : Nat)) := fun l => by
    induction l with
    | nil => rfl
    | cons k l ih =>
      rw [List.map_cons, List.filterMap_cons_some (show fAdd f (D.int (0 + (k : Int))) = some (D.int (f + (k : Nat))) by simp [fAdd]), ih]
      rfl
  exact key (List.range n)
def stepM (n : Nat) : Nat := if n = 0 then 9 else 9 + cost (n - 1)
theorem step_ok (n : Nat) : 6 + 7 * stepM n ≤ cost n := by
  unfold stepM
  cases n with
  | zero => decide
  | succ n =>
    rw [if_neg (Nat.succ_ne_zero n)]
    show 6 + 7 * (9 + 10 ^ (n + 1 - 1 + 2)) ≤ 10 ^ (n + 1 + 2)
    have e : 10 ^ (n + 1 + 2) = 10 * 10 ^ (n + 2) := by rw [show n + 1 + 2 = (n + 2) + 1 by omega, Nat.pow_succ]; omega
    have e2 : 10 ^ 2 ≤ 10 ^ (n + 2) := Nat.pow_le_pow_right (by decide) (by omega)
    rw [e, show n + 1 - 1 + 2 = n + 2 by omega]
    omega
theorem step_ge (n : Nat) : 9 ≤ stepM n := by unfold stepM; split <;> omega
/-- the loop of lay -/
def LM (hs : List Hlp) (Z Tb : Addr) (spotD : D) (n : Nat) (path : List Int) (fs : List Fm) (back : Option (Option Int × List Int)) (ns : List String) (sl : List Int) (g : String → Int) (T : List Int → Prop) (n0 M0 : Nat) (kvs0 : PK) (f0 : Int) (h0 : DHp) (many t : Nat) (ρ : DSt) (h : DHp) : Prop :=
  ∃ (a c d e m : Option D) (r l b : Addr) (rows : List D) (labs : List Lab) (kvs : PK) (f : Int), ρ = [some (D.tup (hs.map Hlp.d)), some (D.ref Z), some (D.int (n : Nat)), some spotD, some (pD path), some (D.tup (fs.map fmD)), some (backD back), some (D.lst (sL ns)), some (D.tup (iL sl)), a, some (D.ref Tb), c, d, e, m] ∧
    LayI h Z r l b (fun q => T q ∨ ∃ u : Nat, u < many ∧ q = path ++ [(u : Int)]) (M0 + t * stepM n) rows labs kvs f ∧ FrL Z h0 h ∧ TabOk h Tb g ns ∧ ¬ own h Z Tb ∧ (∀ u : Nat, u < t → hasK kvs (path ++ [(u : Int)])) ∧ (∀ q, hasK kvs0 q → hasK kvs q) ∧ n0 + t ≤ rows.length ∧
    (∀ s ∈ sl, 0 ≤ s ∧ s < f) ∧ f0 ≤ f
theorem for_in {ri : DI} {gt : DG} {rb : DS} {E : DEnds} {ρ : DSt} {h : DHp} (items : List D) (keep : DHp → Prop) (hi : ∀ R : List D → (DHp → Prop) → DHp → Prop, R items keep h → ri ρ h R) (Pv : Nat → DSt → DHp → Prop) (p0 : Pv 0 ρ h)
    (step : ∀ (i : Nat) (x : D) (ρ : DSt) (h : DHp), items[i]? = some x → Pv i ρ h → keep h ∧ gt x ρ h fun ρ2 h2 => rb { E with nx := Pv (i + 1), ct := Pv (i + 1), bk := E.nx } ρ2 h2) (fin : ∀ ρ h, Pv items.length ρ h → keep h ∧ E.nx ρ h) : rFor ri gt rb E ρ h := hi _ ⟨Pv, p0, step, fin⟩
/-- what the row adds is ready -/
def XM (hs : List Hlp) (Z Tb : Addr) (spotD : D) (n : Nat) (path : List Int) (fs : List Fm) (back : Option (Option Int × List Int)) (ns : List String) (sl : List Int) (P : List Int → Prop) (h5 : DHp) (t : Nat) (rowD labD13 : D) (ρ : DSt) (h : DHp) : Prop :=
  ∃ (a : Option D) (p : Addr) (xs : List D), ρ = [some (D.tup (hs.map Hlp.d)), some (D.ref Z), some (D.int (n : Nat)), some spotD, some (pD path), some (D.tup (fs.map fmD)), some (backD back), some (D.lst (sL ns)), some (D.tup (iL sl)), a, some (D.ref Tb), some (D.int (t : Nat)), some rowD, some labD13, some (.ref p)] ∧
    h p = some (.lst xs) ∧ FrA h5 h ∧ h5 p = none ∧ 1 ≤ xs.length ∧ xs.length ≤ 2 ∧ ∀ x ∈ xs, FR P x
theorem rep_flat {α : Type} (x : α) : ∀ n : Nat, (List.replicate n [x]).flatten = List.replicate n x
  | 0 => rfl
  | n + 1 => by rw [List.replicate_succ, List.flatten_cons, rep_flat x n]; rfl
theorem lay_ok (n m0 : Nat) (nm' : n ≤ m0) (ds : List D) (h : DHp) (Q : DQ) (hl : ds.length = 4) (hs : SpLay n ds h Q (fun _ _ => False)) : rd_lay (spLayCall m0) (EN Q) (startD N_lay ds) h := by
  obtain ⟨hs, top, Z, path, fs, back, r, l, b, T, M, rows, labs, kvs, f, e, pg, nl, I, mM, pl, fl, fok, bk', k⟩ := hs
  subst e
  have hpn : hs[n]? = some hs[n] := List.getElem?_eq_getElem nl
  generalize hs[n] = p at hpn
  obtain ⟨pnames, pok⟩ := pg.hp n p hpn
  have ap : atI (hs.map Hlp.d) (n : Nat) = some p.d := atI_nat (by rw [List.getElem?_map, hpn]; rfl)
  have l3 := pg.l3
  have so := step_ok n
  have r7 := pok.r7
  have J := I.j
  simp only [rd_lay, N_lay, rSeq, rCut, rAnd, rOr, rNot, rB, rOp, rDG, rDG2, rDIn, rVar, rC, DX.rEqD, DX.rNeD, rLstF, rLstM, rNil, rCons, rTup, rDP, DX.rLP, rRepL', rRepr, rNeg, rEnum, rDictZip, DX.rSortedSet, rBM, rPop0, DX.rAppend, rIf, rAsg, gN, gT, gsC, gs0, rRet, rDrop, DX.rI, rNext, rCont, rBreak, rCB, DX.rLen, rTuple, rTupleN, rTIdx, rList, rAbs, rMax2, rMin2, rIntB, rStrI, DX.rIsi, rIsN, rNotN, DX.rIx, rFrz, rNotV, rAndV, rOrV, rIfE, rSl, rSlT', rSlL', rPt, rNoP, rCatT', rCatL', newL, rCatS, rInD', rIndex', rCall, rSq, rRg1, rRg2, rChain, rYes, rNewK, rNewT, Tg.d, tgsD, wipeD, startD, and_assoc, atI_0, atI_1, atI_2, atI_3, String.reduceEq, Nat.reduceLeDiff, exists_and_left, exists_and_right, resD_int, resD_str, resD_bl, resD_non, resD_tup, resD_lst, resD_ktup, dat_int, dat_str, dat_bl, dat_non, dat_nil, eqv_int, eqv_str, eqv_nil, eqv_tnil, seqD_tup, seqD_lst, seqD_ktup, seqD_klst, resD_klst, seqL_lst, isN_non, isN_int, isN_str, isN_bl, isN_tup, isN_lst, isN_ref, Bool.not_eq_true', Bool.not_eq_true, decide_eq_false_iff_not, Nat.zero_le, List.map, List.length, List.replicate, List.cons_append, List.nil_append, List.getElem?_cons_zero, List.getElem?_cons_succ, List.set_cons_zero, List.set_cons_succ, Nat.sub_self, Nat.reduceAdd, Nat.reduceSub, Option.some.injEq, D.int.injEq, D.ref.injEq, D.bl.injEq, D.str.injEq, D.tup.injEq, D.lst.injEq, List.cons.injEq, and_true, true_and, exists_eq_left, exists_eq_left', exists_eq', exists_eq_right, exists_const, Bool.true_eq_false, Bool.false_eq_true, if_true, if_false, ite_true, ite_false, decide_eq_true_eq]
  refine ⟨_, ap, p, pnames, top, _, rfl, pok, fun ns h1 nso fa => ?_⟩
  have n6 := ns_len nso pok
  obtain ⟨J1, F1⟩ := J.frA fa
  have nsl : (sL ns).length = ns.length := by unfold sL; rw [List.length_map]
  refine lc_pure (rgD 0 ns.length) (fun _ => True) (fAdd f) (fun R rr => ?_) (by rw [rgD_len]; omega) (fun _ _ _ => trivial) (fun i d C acc P1 P0 hd hC k1 k0 => ?_) ?_
  · simp only [rSeq, rCut, rAnd, rOr, rNot, rB, rOp, rDG, rDG2, rDIn, rVar, rC, DX.rEqD, DX.rNeD, rLstF, rLstM, rNil, rCons, rTup, rDP, DX.rLP, rRepL', rRepr, rNeg, rEnum, rDictZip, DX.rSortedSet, rBM, rPop0, DX.rAppend, rIf, rAsg, gN, gT, gsC, gs0, rRet, rDrop, DX.rI, rNext, rCont, rBreak, rCB, DX.rLen, rTuple, rTupleN, rTIdx, rList, rAbs, rMax2, rMin2, rIntB, rStrI, DX.rIsi, rIsN, rNotN, DX.rIx, rFrz, rNotV, rAndV, rOrV, rIfE, rSl, rSlT', rSlL', rPt, rNoP, rCatT', rCatL', newL, rCatS, rInD', rIndex', rCall, rSq, rRg1, rRg2, rChain, rYes, rNewK, rNewT, Tg.d, tgsD, wipeD, startD, and_assoc, atI_0, atI_1, atI_2, atI_3, String.reduceEq, Nat.reduceLeDiff, exists_and_left, exists_and_right, resD_int, resD_str, resD_bl, resD_non, resD_tup, resD_lst, resD_ktup, dat_int, dat_str, dat_bl, dat_non, dat_nil, eqv_int, eqv_str, eqv_nil, eqv_tnil, seqD_tup, seqD_lst, seqD_ktup, seqD_klst, resD_klst, seqL_lst, isN_non, isN_int, isN_str, isN_bl, isN_tup, isN_lst, isN_ref, Bool.not_eq_true', Bool.not_eq_true, decide_eq_false_iff_not, Nat.zero_le, List.map, List.length, List.replicate, List.cons_append, List.nil_append, List.getElem?_cons_zero, List.getElem?_cons_succ, List.set_cons_zero, List.set_cons_succ, Nat.sub_self, Nat.reduceAdd, Nat.reduceSub, Option.some.injEq, D.int.injEq, D.ref.injEq, D.bl.injEq, D.str.injEq, D.tup.injEq, D.lst.injEq, List.cons.injEq, and_true, true_and, exists_eq_left, exists_eq_left', exists_eq', exists_eq_right, exists_const, Bool.true_eq_false, Bool.false_eq_true, if_true, if_false, ite_true, ite_false, decide_eq_true_eq, nsl]
    exact ⟨by omega, by omega, rr⟩
  · obtain ⟨ix, rfl⟩ := rgD_get hd
    simp only [rSeq, rCut, rAnd, rOr, rNot, rB, rOp, rDG, rDG2, rDIn, rVar, rC, DX.rEqD, DX.rNeD, rLstF, rLstM, rNil, rCons, rTup, rDP, DX.rLP, rRepL', rRepr, rNeg, rEnum, rDictZip, DX.rSortedSet, rBM, rPop0, DX.rAppend, rIf, rAsg, gN, gT, gsC, gs0, rRet, rDrop, DX.rI, rNext, rCont, rBreak, rCB, DX.rLen, rTuple, rTupleN, rTIdx, rList, rAbs, rMax2, rMin2, rIntB, rStrI, DX.rIsi, rIsN, rNotN, DX.rIx, rFrz, rNotV, rAndV, rOrV, rIfE, rSl, rSlT', rSlL', rPt, rNoP, rCatT', rCatL', newL, rCatS, rInD', rIndex', rCall, rSq, rRg1, rRg2, rChain, rYes, rNewK, rNewT, Tg.d, tgsD, wipeD, startD, and_assoc, atI_0, atI_1, atI_2, atI_3, String.reduceEq, Nat.reduceLeDiff, exists_and_left, exists_and_right, resD_int, resD_str, resD_bl, resD_non, resD_tup, resD_lst, resD_ktup, dat_int, dat_str, dat_bl, dat_non, dat_nil, eqv_int, eqv_str, eqv_nil, eqv_tnil, seqD_tup, seqD_lst, seqD_ktup, seqD_klst, resD_klst, seqL_lst, isN_non, isN_int, isN_str, isN_bl, isN_tup, isN_lst, isN_ref, Bool.not_eq_true', Bool.not_eq_true, decide_eq_false_iff_not, Nat.zero_le, List.map, List.length, List.replicate, List.cons_append, List.nil_append, List.getElem?_cons_zero, List.getElem?_cons_succ, List.set_cons_zero, List.set_cons_succ, Nat.sub_self, Nat.reduceAdd, Nat.reduceSub, Option.some.injEq, D.int.injEq, D.ref.injEq, D.bl.injEq, D.str.injEq, D.tup.injEq, D.lst.injEq, List.cons.injEq, and_true, true_and, exists_eq_left, exists_eq_left', exists_eq', exists_eq_right, exists_const, Bool.true_eq_false, Bool.false_eq_true, if_true, if_false, ite_true, ite_false, decide_eq_true_eq]
    exact ⟨_, (J1.frA (FrA.new hC)).1.lfree, f, rfl, k1 _ rfl⟩
  · rw [add_all]
    simp only [newL, rSeq, rCut, rAnd, rOr, rNot, rB, rOp, rDG, rDG2, rDIn, rVar, rC, DX.rEqD, DX.rNeD, rLstF, rLstM, rNil, rCons, rTup, rDP, DX.rLP, rRepL', rRepr, rNeg, rEnum, rDictZip, DX.rSortedSet, rBM, rPop0, DX.rAppend, rIf, rAsg, gN, gT, gsC, gs0, rRet, rDrop, DX.rI, rNext, rCont, rBreak, rCB, DX.rLen, rTuple, rTupleN, rTIdx, rList, rAbs, rMax2, rMin2, rIntB, rStrI, DX.rIsi, rIsN, rNotN, DX.rIx, rFrz, rNotV, rAndV, rOrV, rIfE, rSl, rSlT', rSlL', rPt, rNoP, rCatT', rCatL', newL, rCatS, rInD', rIndex', rCall, rSq, rRg1, rRg2, rChain, rYes, rNewK, rNewT, Tg.d, tgsD, wipeD, startD, and_assoc, atI_0, atI_1, atI_2, atI_3, String.reduceEq, Nat.reduceLeDiff, exists_and_left, exists_and_right, resD_int, resD_str, resD_bl, resD_non, resD_tup, resD_lst, resD_ktup, dat_int, dat_str, dat_bl, dat_non, dat_nil, eqv_int, eqv_str, eqv_nil, eqv_tnil, seqD_tup, seqD_lst, seqD_ktup, seqD_klst, resD_klst, seqL_lst, isN_non, isN_int, isN_str, isN_bl, isN_tup, isN_lst, isN_ref, Bool.not_eq_true', Bool.not_eq_true, decide_eq_false_iff_not, Nat.zero_le, List.map, List.length, List.replicate, List.cons_append, List.nil_append, List.getElem?_cons_zero, List.getElem?_cons_succ, List.set_cons_zero, List.set_cons_succ, Nat.sub_self, Nat.reduceAdd, Nat.reduceSub, Option.some.injEq, D.int.injEq, D.ref.injEq, D.bl.injEq, D.str.injEq, D.tup.injEq, D.lst.injEq, List.cons.injEq, and_true, true_and, exists_eq_left, exists_eq_left', exists_eq', exists_eq_right, exists_const, Bool.true_eq_false, Bool.false_eq_true, if_true, if_false, ite_true, ite_false, decide_eq_true_eq, keys_sL, nsl]
    generalize hsl : (List.range ns.length).map (fun k => f + (k : Nat)) = sl
    have sll : sl.length = ns.length := by rw [← hsl, List.length_map, List.length_range]
    have slv : ∀ s ∈ sl, 0 ≤ s ∧ s < f + (ns.length : Nat) := fun s hs => by
      rw [← hsl] at hs
      obtain ⟨k, hk, rfl⟩ := List.mem_map.mp hs
      have := List.mem_range.mp hk
      have := I.f0
      omega
    refine ⟨⟨_, rfl⟩, by unfold iL; rw [List.length_map, List.length_map, sll], fun Tb nTb => ?_⟩
    obtain ⟨J2, F2⟩ := J1.frA (FrA.new (c := .dK (mergeD [] ((ns.map Sum.inr).zip (iL sl)))) nTb)
    have no2 : ¬ own (updD h1 Tb (.dK (mergeD [] ((ns.map Sum.inr).zip (iL sl))))) Z Tb := fun z => by
      rw [J2.own] at z
      rcases z with z | z | z | z
      · rw [z, J1.cz] at nTb; cases nTb
      · rw [z, J1.cr] at nTb; cases nTb
      · rw [z, J1.cl] at nTb; cases nTb
      · rw [z, J1.cb] at nTb; cases nTb
    obtain ⟨g, tb2⟩ := table_ok (h := updD h1 Tb (.dK (mergeD [] ((ns.map Sum.inr).zip (iL sl))))) sll updD_same
    obtain ⟨J3, F3⟩ := J2.putF (f + (ns.length : Nat))
    obtain ⟨tb3, no3⟩ := tb2.frL no2 F3
    refine ⟨_, J2.lfree, f, rfl, _, J2.sfree _, J2.size, ?_⟩
    have F03 := (F1.trans F2).trans F3
    generalize updD (updD h1 Tb (.dK (mergeD [] ((ns.map Sum.inr).zip (iL sl))))) Z (layC r l b (f + (ns.length : Nat))) = h3 at J3 tb3 no3 F03
    refine for_in (enD (p.rows.map Rw.d)) (fun h => seqD h (.tup (p.rows.map Rw.d)) = some (p.rows.map Rw.d)) (fun R rr => ?_) (LM hs Z Tb (.tup [pD path, .tup (fs.map fmD), backD back]) n path fs back ns sl g T rows.length (M + 6) kvs f h p.rows.length) ?_ ?_ ?_
    · simp only [rSeq, rCut, rAnd, rOr, rNot, rB, rOp, rDG, rDG2, rDIn, rVar, rC, DX.rEqD, DX.rNeD, rLstF, rLstM, rNil, rCons, rTup, rDP, DX.rLP, rRepL', rRepr, rNeg, rEnum, rDictZip, DX.rSortedSet, rBM, rPop0, DX.rAppend, rIf, rAsg, gN, gT, gsC, gs0, rRet, rDrop, DX.rI, rNext, rCont, rBreak, rCB, DX.rLen, rTuple, rTupleN, rTIdx, rList, rAbs, rMax2, rMin2, rIntB, rStrI, DX.rIsi, rIsN, rNotN, DX.rIx, rFrz, rNotV, rAndV, rOrV, rIfE, rSl, rSlT', rSlL', rPt, rNoP, rCatT', rCatL', newL, rCatS, rInD', rIndex', rCall, rSq, rRg1, rRg2, rChain, rYes, rNewK, rNewT, Tg.d, tgsD, wipeD, startD, and_assoc, atI_0, atI_1, atI_2, atI_3, String.reduceEq, Nat.reduceLeDiff, exists_and_left, exists_and_right, resD_int, resD_str, resD_bl, resD_non, resD_tup, resD_lst, resD_ktup, dat_int, dat_str, dat_bl, dat_non, dat_nil, eqv_int, eqv_str, eqv_nil, eqv_tnil, seqD_tup, seqD_lst, seqD_ktup, seqD_klst, resD_klst, seqL_lst, isN_non, isN_int, isN_str, isN_bl, isN_tup, isN_lst, isN_ref, Bool.not_eq_true', Bool.not_eq_true, decide_eq_false_iff_not, Nat.zero_le, List.map, List.length, List.replicate, List.cons_append, List.nil_append, List.getElem?_cons_zero, List.getElem?_cons_succ, List.set_cons_zero, List.set_cons_succ, Nat.sub_self, Nat.reduceAdd, Nat.reduceSub, Option.some.injEq, D.int.injEq, D.ref.injEq, D.bl.injEq, D.str.injEq, D.tup.injEq, D.lst.injEq, List.cons.injEq, and_true, true_and, exists_eq_left, exists_eq_left', exists_eq', exists_eq_right, exists_const, Bool.true_eq_false, Bool.false_eq_true, if_true, if_false, ite_true, ite_false, decide_eq_true_eq]
      exact ⟨_, ap, _, rfl, _, atI_2, _, rfl, rr⟩
    · have m1 := I.m1
      have m2 := I.m2
      have m3 := I.m3
      have f0 := I.f0
      refine ⟨none, none, none, none, none, r, l, b, rows, labs, kvs, f + (ns.length : Nat), rfl, ⟨J3.cz, J3.cr, J3.cl, J3.cb, J3.rl, I.len, fun d hd => (I.row d hd).mono fun q z => z.imp id .inl, fun x hx fs' e' => ?_, by omega, by omega, by omega, by omega⟩, F03, tb3, no3, fun u hu => absurd hu (Nat.not_lt_zero u), fun q hq => hq, Nat.le_refl _, slv, by omega⟩
      obtain ⟨o1, o2⟩ := I.lab x hx fs' e'
      exact ⟨o1, fun y hy => by
        obtain ⟨a1, a2, a3, a4, a5, a6⟩ := o2 y hy
        exact ⟨a1, a2, a3, a4, a5, fun s hs => by have := a6 s hs; omega⟩⟩
    · rintro t y ρ h4 hy ⟨a, c, d, e, m, r4, l4, b4, rows4, labs4, kvs4, f4, rfl, I4, F4, tb4, no4, ks4, km4, rl4, sl4, ff4⟩
      rw [enD_get] at hy
      obtain ⟨x0, hx0, rfl⟩ := Option.map_eq_some_iff.mp hy
      rw [List.getElem?_map] at hx0
      obtain ⟨row, hrow, ex0⟩ := Option.map_eq_some_iff.mp hx0
      subst ex0
      have tm : t < p.rows.length := (List.getElem?_eq_some_iff.mp hrow).1
      obtain ⟨rok, rcall⟩ := pok.row t row hrow
      have J4 := I4.j
      refine ⟨rfl, ?_⟩
      simp only [rSeq, rCut, rAnd, rOr, rNot, rB, rOp, rDG, rDG2, rDIn, rVar, rC, DX.rEqD, DX.rNeD, rLstF, rLstM, rNil, rCons, rTup, rDP, DX.rLP, rRepL', rRepr, rNeg, rEnum, rDictZip, DX.rSortedSet, rBM, rPop0, DX.rAppend, rIf, rAsg, gN, gT, gsC, gs0, rRet, rDrop, DX.rI, rNext, rCont, rBreak, rCB, DX.rLen, rTuple, rTupleN, rTIdx, rList, rAbs, rMax2, rMin2, rIntB, rStrI, DX.rIsi, rIsN, rNotN, DX.rIx, rFrz, rNotV, rAndV, rOrV, rIfE, rSl, rSlT', rSlL', rPt, rNoP, rCatT', rCatL', newL, rCatS, rInD', rIndex', rCall, rSq, rRg1, rRg2, rChain, rYes, rNewK, rNewT, Tg.d, tgsD, wipeD, startD, and_assoc, atI_0, atI_1, atI_2, atI_3, String.reduceEq, Nat.reduceLeDiff, exists_and_left, exists_and_right, resD_int, resD_str, resD_bl, resD_non, resD_tup, resD_lst, resD_ktup, dat_int, dat_str, dat_bl, dat_non, dat_nil, eqv_int, eqv_str, eqv_nil, eqv_tnil, seqD_tup, seqD_lst, seqD_ktup, seqD_klst, resD_klst, seqL_lst, isN_non, isN_int, isN_str, isN_bl, isN_tup, isN_lst, isN_ref, Bool.not_eq_true', Bool.not_eq_true, decide_eq_false_iff_not, Nat.zero_le, List.map, List.length, List.replicate, List.cons_append, List.nil_append, List.getElem?_cons_zero, List.getElem?_cons_succ, List.set_cons_zero, List.set_cons_succ, Nat.sub_self, Nat.reduceAdd, Nat.reduceSub, Option.some.injEq, D.int.injEq, D.ref.injEq, D.bl.injEq, D.str.injEq, D.tup.injEq, D.lst.injEq, List.cons.injEq, and_true, true_and, exists_eq_left, exists_eq_left', exists_eq', exists_eq_right, exists_const, Bool.true_eq_false, Bool.false_eq_true, if_true, if_false, ite_true, ite_false, decide_eq_true_eq]
      have pl1 : (iL path).length + 1 ≤ sizeLine := by unfold iL; rw [List.length_map, sizeLine_eq]; omega
      have fl1 : (fs.map fmD).length + 1 ≤ sizeLine := by rw [List.length_map, sizeLine_eq]; omega
      have pa : D.tup (iL path ++ [D.int (t : Nat)]) = pD (path ++ [(t : Int)]) := by unfold pD iL; rw [List.map_append]; rfl
      have sz : 6 + t * stepM n + stepM n ≤ cost n := by
        have : (t + 1) * stepM n ≤ 7 * stepM n := Nat.mul_le_mul_right _ (by omega)
        rw [Nat.add_mul, Nat.one_mul] at this
        omega
      have s8 := step_ge n
      have sb : sizeC h4 b4 < sizeLine := by rw [J4.sizeb, sizeLine_eq]; have := I4.m2; omega
      have lbl : fs.map fmD ++ [D.tup [D.int (n : Nat), D.int (t : Nat), D.tup (iL sl)]] = (fs ++ [((n : Int), (t : Int), sl)]).map fmD := by rw [List.map_append]; rfl
      refine ⟨_, J4.lrows, _, seqD_ref J4.cr, _, J4.lbeg, _, rfl, pl1, b4, rfl, _, by rw [pa]; exact J4.sbeg _ _, sb, fl1, ?_⟩
      obtain ⟨J5, F5⟩ := J4.putB (putT kvs4 (pk (path ++ [(t : Int)])) (.int (rows4.length : Nat)))
      have tb5 := tb4.frL no4 F5
      have hk5 : ∀ q, hasK kvs4 q ∨ q = path ++ [(t : Int)] → hasK (putT kvs4 (pk (path ++ [(t : Int)])) (.int (rows4.length : Nat))) q := fun q z => has_put z
      have kl5 := putT_len kvs4 (pk (path ++ [(t : Int)])) (.int (rows4.length : Nat))
      have I5 : LayI (updD h4 b4 (.dT (putT kvs4 (pk (path ++ [(t : Int)])) (.int (rows4.length : Nat))))) Z r4 l4 b4 (fun q => T q ∨ ∃ u : Nat, u < p.rows.length ∧ q = path ++ [(u : Int)]) (M + 6 + t * stepM n + 1) rows4 labs4 (putT kvs4 (pk (path ++ [(t : Int)])) (.int (rows4.length : Nat))) f4 :=
        ⟨J5.cz, J5.cr, J5.cl, J5.cb, J5.rl, I4.len, fun d hd => (I4.row d hd).mono fun q z => z.imp (fun z => hk5 q (.inl z)) id, I4.lab, I4.f0, Nat.le_succ_of_le I4.m1, by have := I4.m2; omega, by have := I4.m3; omega⟩
      generalize updD h4 b4 (.dT (putT kvs4 (pk (path ++ [(t : Int)])) (.int (rows4.length : Nat)))) = h5 at J5 F5 tb5 I5 ⊢
      generalize putT kvs4 (pk (path ++ [(t : Int)])) (.int (rows4.length : Nat)) = kvs5 at J5 I5 hk5
      obtain ⟨tb5, no5⟩ := tb5
      rw [lbl]
      have fok4 : ∀ x ∈ fs ++ [((n : Int), (t : Int), sl)], fmOk f4 x := fun x hx => by
        rcases List.mem_append.mp hx with z | z
        · obtain ⟨o1, o2, o3, o4, o5, o6⟩ := fok x z
          exact ⟨o1, o2, o3, o4, o5, fun s hs => by have := o6 s hs; omega⟩
        · rw [List.mem_singleton.mp z]
          exact ⟨by show (0 : Int) ≤ n; omega, by show (n : Int) ≤ 3; omega, by show (0 : Int) ≤ t; omega, by show (t : Int) ≤ 7; omega, by show sl.length ≤ 6; omega, sl4⟩
      refine ⟨D.str (tagOf row) :: parts row, by rw [row_d]; rfl, D.str (tagOf row), atI_0, by simp only [and_assoc, atI_0, atI_1, atI_2, atI_3, String.reduceEq, Nat.reduceLeDiff, exists_and_left, exists_and_right, resD_int, resD_str, resD_bl, resD_non, resD_tup, resD_lst, resD_ktup, dat_int, dat_str, dat_bl, dat_non, dat_nil, eqv_int, eqv_str, eqv_nil, eqv_tnil, seqD_tup, seqD_lst, seqD_ktup, seqD_klst, resD_klst, seqL_lst, isN_non, isN_int, isN_str, isN_bl, isN_tup, isN_lst, isN_ref, Bool.not_eq_true', Bool.not_eq_true, decide_eq_false_iff_not, Nat.zero_le, List.map, List.length, List.replicate, List.cons_append, List.nil_append, List.getElem?_cons_zero, List.getElem?_cons_succ, List.set_cons_zero, List.set_cons_succ, Nat.sub_self, Nat.reduceAdd, Nat.reduceSub, Option.some.injEq, D.int.injEq, D.ref.injEq, D.bl.injEq, D.str.injEq, D.tup.injEq, D.lst.injEq, List.cons.injEq, and_true, true_and, exists_eq_left, exists_eq_left', exists_eq', exists_eq_right, exists_const, Bool.true_eq_false, Bool.false_eq_true, if_true, if_false, ite_true, ite_false, decide_eq_true_eq], ?_⟩
      simp only [and_assoc, atI_0, atI_1, atI_2, atI_3, String.reduceEq, Nat.reduceLeDiff, exists_and_left, exists_and_right, resD_int, resD_str, resD_bl, resD_non, resD_tup, resD_lst, resD_ktup, dat_int, dat_str, dat_bl, dat_non, dat_nil, eqv_int, eqv_str, eqv_nil, eqv_tnil, seqD_tup, seqD_lst, seqD_ktup, seqD_klst, resD_klst, seqL_lst, isN_non, isN_int, isN_str, isN_bl, isN_tup, isN_lst, isN_ref, Bool.not_eq_true', Bool.not_eq_true, decide_eq_false_iff_not, Nat.zero_le, List.map, List.length, List.replicate, List.cons_append, List.nil_append, List.getElem?_cons_zero, List.getElem?_cons_succ, List.set_cons_zero, List.set_cons_succ, Nat.sub_self, Nat.reduceAdd, Nat.reduceSub, Option.some.injEq, D.int.injEq, D.ref.injEq, D.bl.injEq, D.str.injEq, D.tup.injEq, D.lst.injEq, List.cons.injEq, and_true, true_and, exists_eq_left, exists_eq_left', exists_eq', exists_eq_right, exists_const, Bool.true_eq_false, Bool.false_eq_true, if_true, if_false, ite_true, ite_false, decide_eq_true_eq]
      by_cases hc : tagOf row = "call"
      · rw [if_pos hc]
        cases row with
        | call bk nm as =>
          have n1 : 1 ≤ n := by
            cases n with
            | zero => have := rok.2.1; simp [aheadOf] at this
            | succ n => omega
          have st1 : stepM n = 9 + cost (n - 1) := by unfold stepM; rw [if_neg (by omega)]
          refine ⟨_, rfl, pl1, n, nm', hs, top, Z, path, fs ++ [((n : Int), (t : Int), sl)], p, pnames, (t : Int), bk, nm, as, Tb, g, r4, l4, b4, _, M + 6 + t * stepM n + 1, rows4, labs4, kvs5, f4, by rw [pa], pg, nl, hpn, pok, rok, tb5.sub fun x hx => (nso.2.2 x).2 (List.mem_append_right _ (List.mem_flatMap.mpr ⟨_, List.mem_of_getElem? hrow, hx⟩)), no5, I5, by omega, pl, by rw [List.length_append]; simp; omega, fok4, .inr (.inr ⟨t + 1, rcall rfl, rfl⟩), ?_⟩
          intro h' r' l' b' rows' labs' kvs' f' I' F' nl' hk' hf'
          obtain ⟨tb', no'⟩ := tb5.frL no5 F'
          refine ⟨a, _, _, _, m, r', l', b', rows', labs', kvs', f', rfl, I'.monoM ?_, (F4.trans F5).trans F', tb', no', fun u hu => ?_, fun q hq => hk' q (hk5 q (.inl (km4 q hq))), by omega, fun s hs => by have := sl4 s hs; omega, by omega⟩
          · rw [Nat.add_mul, Nat.one_mul, st1]; omega
          · rcases Nat.lt_or_ge u t with z | z
            · exact hk' _ (hk5 _ (.inl (ks4 u z)))
            · exact hk' _ (hk5 _ (.inr (by rw [show u = t by omega])))
        | ask x => simp [tagOf] at hc
        | tell x => simp [tagOf] at hc
        | iff x y => simp [tagOf] at hc
        | go x => simp [tagOf] at hc
        | give x => simp [tagOf] at hc
        | set x y => simp [tagOf] at hc
      · rw [if_neg hc]
        refine ⟨D.str (tagOf row) :: parts row, by rw [row_d]; rfl, D.str (tagOf row), atI_0, by simp only [and_assoc, atI_0, atI_1, atI_2, atI_3, String.reduceEq, Nat.reduceLeDiff, exists_and_left, exists_and_right, resD_int, resD_str, resD_bl, resD_non, resD_tup, resD_lst, resD_ktup, dat_int, dat_str, dat_bl, dat_non, dat_nil, eqv_int, eqv_str, eqv_nil, eqv_tnil, seqD_tup, seqD_lst, seqD_ktup, seqD_klst, resD_klst, seqL_lst, isN_non, isN_int, isN_str, isN_bl, isN_tup, isN_lst, isN_ref, Bool.not_eq_true', Bool.not_eq_true, decide_eq_false_iff_not, Nat.zero_le, List.map, List.length, List.replicate, List.cons_append, List.nil_append, List.getElem?_cons_zero, List.getElem?_cons_succ, List.set_cons_zero, List.set_cons_succ, Nat.sub_self, Nat.reduceAdd, Nat.reduceSub, Option.some.injEq, D.int.injEq, D.ref.injEq, D.bl.injEq, D.str.injEq, D.tup.injEq, D.lst.injEq, List.cons.injEq, and_true, true_and, exists_eq_left, exists_eq_left', exists_eq', exists_eq_right, exists_const, Bool.true_eq_false, Bool.false_eq_true, if_true, if_false, ite_true, ite_false, decide_eq_true_eq], ?_⟩
        simp only [and_assoc, atI_0, atI_1, atI_2, atI_3, String.reduceEq, Nat.reduceLeDiff, exists_and_left, exists_and_right, resD_int, resD_str, resD_bl, resD_non, resD_tup, resD_lst, resD_ktup, dat_int, dat_str, dat_bl, dat_non, dat_nil, eqv_int, eqv_str, eqv_nil, eqv_tnil, seqD_tup, seqD_lst, seqD_ktup, seqD_klst, resD_klst, seqL_lst, isN_non, isN_int, isN_str, isN_bl, isN_tup, isN_lst, isN_ref, Bool.not_eq_true', Bool.not_eq_true, decide_eq_false_iff_not, Nat.zero_le, List.map, List.length, List.replicate, List.cons_append, List.nil_append, List.getElem?_cons_zero, List.getElem?_cons_succ, List.set_cons_zero, List.set_cons_succ, Nat.sub_self, Nat.reduceAdd, Nat.reduceSub, Option.some.injEq, D.int.injEq, D.ref.injEq, D.bl.injEq, D.str.injEq, D.tup.injEq, D.lst.injEq, List.cons.injEq, and_true, true_and, exists_eq_left, exists_eq_left', exists_eq', exists_eq_right, exists_const, Bool.true_eq_false, Bool.false_eq_true, if_true, if_false, ite_true, ite_false, decide_eq_true_eq]
        have hcall : row.isCall = false := by cases row <;> first | rfl | exact absurd rfl hc
        by_cases hg : tagOf row = "give"
        · obtain ⟨t', rfl⟩ : ∃ t', row = .give t' := by
            cases row <;> first | exact ⟨_, rfl⟩ | simp [tagOf] at hg
          rw [if_neg (fun z => z hg)]
          intro p14 np14
          refine ⟨XM hs Z Tb (.tup [pD path, .tup (fs.map fmD), backD back]) n path fs back ns sl (fun q => hasK kvs5 q ∨ T q ∨ ∃ u : Nat, u < p.rows.length ∧ q = path ++ [(u : Int)]) h5 t (Rw.give t').d (.tup ((fs ++ [((n : Int), (t : Int), sl)]).map fmD)), ?_, ?_⟩
          · refine ⟨_, rfl, _, atI_0, by simp only [and_assoc, atI_0, atI_1, atI_2, atI_3, String.reduceEq, Nat.reduceLeDiff, exists_and_left, exists_and_right, resD_int, resD_str, resD_bl, resD_non, resD_tup, resD_lst, resD_ktup, dat_int, dat_str, dat_bl, dat_non, dat_nil, eqv_int, eqv_str, eqv_nil, eqv_tnil, seqD_tup, seqD_lst, seqD_ktup, seqD_klst, resD_klst, seqL_lst, isN_non, isN_int, isN_str, isN_bl, isN_tup, isN_lst, isN_ref, Bool.not_eq_true', Bool.not_eq_true, decide_eq_false_iff_not, Nat.zero_le, List.map, List.length, List.replicate, List.cons_append, List.nil_append, List.getElem?_cons_zero, List.getElem?_cons_succ, List.set_cons_zero, List.set_cons_succ, Nat.sub_self, Nat.reduceAdd, Nat.reduceSub, Option.some.injEq, D.int.injEq, D.ref.injEq, D.bl.injEq, D.str.injEq, D.tup.injEq, D.lst.injEq, List.cons.injEq, and_true, true_and, exists_eq_left, exists_eq_left', exists_eq', exists_eq_right, exists_const, Bool.true_eq_false, Bool.false_eq_true, if_true, if_false, ite_true, ite_false, decide_eq_true_eq], ?_⟩
            simp only [and_assoc, atI_0, atI_1, atI_2, atI_3, String.reduceEq, Nat.reduceLeDiff, exists_and_left, exists_and_right, resD_int, resD_str, resD_bl, resD_non, resD_tup, resD_lst, resD_ktup, dat_int, dat_str, dat_bl, dat_non, dat_nil, eqv_int, eqv_str, eqv_nil, eqv_tnil, seqD_tup, seqD_lst, seqD_ktup, seqD_klst, resD_klst, seqL_lst, isN_non, isN_int, isN_str, isN_bl, isN_tup, isN_lst, isN_ref, Bool.not_eq_true', Bool.not_eq_true, decide_eq_false_iff_not, Nat.zero_le, List.map, List.length, List.replicate, List.cons_append, List.nil_append, List.getElem?_cons_zero, List.getElem?_cons_succ, List.set_cons_zero, List.set_cons_succ, Nat.sub_self, Nat.reduceAdd, Nat.reduceSub, Option.some.injEq, D.int.injEq, D.ref.injEq, D.bl.injEq, D.str.injEq, D.tup.injEq, D.lst.injEq, List.cons.injEq, and_true, true_and, exists_eq_left, exists_eq_left', exists_eq', exists_eq_right, exists_const, Bool.true_eq_false, Bool.false_eq_true, if_true, if_false, ite_true, ite_false, decide_eq_true_eq]
            have h14 : ∀ q, updD h5 p14 (Cell.lst [D.tup [D.str "end"]]) q = none → h5 q = none ∧ q ≠ p14 := fun q e => by
              have ne : q ≠ p14 := fun z => by rw [z, updD_same] at e; cases e
              rw [updD_ne ne] at e
              exact ⟨e, ne⟩
            cases back with
            | none =>
              rw [if_neg (by simp [backD, D.isN])]
              exact ⟨a, p14, [D.tup [D.str "end"]], rfl, updD_same, FrA.new np14, np14, Nat.le_refl _, (by show 1 ≤ 2; omega), fun x hx => by rw [List.mem_singleton.mp hx]; exact .fin⟩
            | some ob =>
              obtain ⟨o, bp⟩ := ob
              have bok := bk' o bp rfl
              have bfr : hasK kvs5 bp ∨ T bp ∨ ∃ u : Nat, u < p.rows.length ∧ bp = path ++ [(u : Int)] := bok.elim (fun z => .inl (hk5 _ (.inl (km4 _ z)))) fun z => .inr (.inl z)
              rw [if_pos (by simp [backD, D.isN])]
              refine ⟨_, rfl, _, atI_0, ?_⟩
              cases o with
              | none =>
                simp only [isN_non, if_true]
                intro q1 nq1
                obtain ⟨n5, ne⟩ := h14 q1 nq1
                refine ⟨isLst_ref updD_same, _, rfl, _, atI_1, _, updD_same, by decide, ?_⟩
                exact ⟨a, q1, [D.tup [D.str "go", pD bp]], rfl, updD_same, ((FrA.new np14).upd n5).upd n5, n5, Nat.le_refl _, (by show 1 ≤ 2; omega), fun x hx => by rw [List.mem_singleton.mp hx]; exact .gop _ bfr⟩
              | some o =>
                simp only [isN_int, Bool.false_eq_true, if_false]
                obtain ⟨J5a, F5a⟩ := J5.frA (FrA.new (c := .lst [D.tup [D.str "end"]]) np14)
                obtain ⟨tb5a, _⟩ := tb5.frL no5 F5a
                refine ⟨_, rfl, _, atI_0, _, rfl, _, atI_1, t', pnames, top, Tb, g, rfl, by have := rok.2; omega, rok.1, tb5a.sub fun x hx => (nso.2.2 x).2 (List.mem_append_right _ (List.mem_flatMap.mpr ⟨_, List.mem_of_getElem? hrow, hx⟩)), fun q1 nq1 => ?_⟩
                obtain ⟨n5, ne⟩ := h14 q1 nq1
                refine ⟨isLst_ref updD_same, _, rfl, _, atI_1, _, updD_same, (by show 1 < sizeLine; decide), ?_⟩
                refine ⟨a, q1, [D.tup [D.str "set", .int o, (t'.put g).d], D.tup [D.str "go", pD bp]], rfl, updD_same, ((FrA.new np14).upd n5).upd n5, n5, (by show 1 ≤ 2; omega), Nat.le_refl _, fun x hx => ?_⟩
                rcases List.mem_cons.mp hx with z | z
                · rw [z]; exact .set _ _
                · rw [List.mem_singleton.mp z]; exact .gop _ bfr
          · rintro ρ h6 ⟨a6, p14, xs, rfl, cx, fa6, n14, x1, x2, xfr⟩
            obtain ⟨J6, F6⟩ := J5.frA fa6
            obtain ⟨tb6, no6⟩ := tb5.frL no5 F6
            simp only [rSeq, rCut, rAnd, rOr, rNot, rB, rOp, rDG, rDG2, rDIn, rVar, rC, DX.rEqD, DX.rNeD, rLstF, rLstM, rNil, rCons, rTup, rDP, DX.rLP, rRepL', rRepr, rNeg, rEnum, rDictZip, DX.rSortedSet, rBM, rPop0, DX.rAppend, rIf, rAsg, gN, gT, gsC, gs0, rRet, rDrop, DX.rI, rNext, rCont, rBreak, rCB, DX.rLen, rTuple, rTupleN, rTIdx, rList, rAbs, rMax2, rMin2, rIntB, rStrI, DX.rIsi, rIsN, rNotN, DX.rIx, rFrz, rNotV, rAndV, rOrV, rIfE, rSl, rSlT', rSlL', rPt, rNoP, rCatT', rCatL', newL, rCatS, rInD', rIndex', rCall, rSq, rRg1, rRg2, rChain, rYes, rNewK, rNewT, Tg.d, tgsD, wipeD, startD, and_assoc, atI_0, atI_1, atI_2, atI_3, String.reduceEq, Nat.reduceLeDiff, exists_and_left, exists_and_right, resD_int, resD_str, resD_bl, resD_non, resD_tup, resD_lst, resD_ktup, dat_int, dat_str, dat_bl, dat_non, dat_nil, eqv_int, eqv_str, eqv_nil, eqv_tnil, seqD_tup, seqD_lst, seqD_ktup, seqD_klst, resD_klst, seqL_lst, isN_non, isN_int, isN_str, isN_bl, isN_tup, isN_lst, isN_ref, Bool.not_eq_true', Bool.not_eq_true, decide_eq_false_iff_not, Nat.zero_le, List.map, List.length, List.replicate, List.cons_append, List.nil_append, List.getElem?_cons_zero, List.getElem?_cons_succ, List.set_cons_zero, List.set_cons_succ, Nat.sub_self, Nat.reduceAdd, Nat.reduceSub, Option.some.injEq, D.int.injEq, D.ref.injEq, D.bl.injEq, D.str.injEq, D.tup.injEq, D.lst.injEq, List.cons.injEq, and_true, true_and, exists_eq_left, exists_eq_left', exists_eq', exists_eq_right, exists_const, Bool.true_eq_false, Bool.false_eq_true, if_true, if_false, ite_true, ite_false, decide_eq_true_eq]
            have rl5 := I5.m1
            have ll6 := I5.len
            have ll5 : (labs4.map labD).length = rows4.length := by rw [List.length_map, I5.len]
            have nown14 : ¬ own h6 Z p14 := fun z => by
              rw [J6.own] at z
              rcases z with z | z | z | z
              · rw [z, J5.cz] at n14; cases n14
              · rw [z, J5.cr] at n14; cases n14
              · rw [z, J5.cl] at n14; cases n14
              · rw [z, J5.cb] at n14; cases n14
            refine ⟨_, J6.lrows, _, seqL_ref J6.cr, _, seqL_ref cx, by rw [sizeLine_eq]; omega, fun q1 nq1 => ?_⟩
            have J6a := (J6.frA (FrA.new (c := .lst (rows4 ++ xs)) nq1)).1
            obtain ⟨J7, F7⟩ := J6.newR nq1 (rows4 ++ xs)
            refine ⟨_, J6a.srows q1, J6a.size, _, J7.llabs, _, seqL_ref J7.cl, by rw [sizeLine_eq]; omega, fun q2 nq2 => ?_⟩
            have cx7 := F7.keep p14 _ nown14 cx
            generalize updD (updD h6 q1 (Cell.lst (rows4 ++ xs))) Z (layC q1 l4 b4 f4) = h7 at J7 F7 nq2 cx7 ⊢
            have q214 : p14 ≠ q2 := fun z => by rw [← z, cx7] at nq2; cases nq2
            have xm : ((xs.length : Int) - 1).toNat = xs.length - 1 := by omega
            refine ⟨xs, seqD_ref (by rw [updD_ne q214]; exact cx7), [D.non], updD_same, by omega, by omega, by rw [xm, sizeLine_eq]; simp; omega, by rw [xm, flat_rep, sizeLine_eq]; simp; omega, fun q3 nq3 => ?_⟩
            rw [delD_upd nq2] at nq3 ⊢
            rw [xm]
            have J7a := (J7.frA (FrA.new (c := .lst (labs4.map labD ++ [D.tup (List.map fmD (fs ++ [((n : Int), (t : Int), sl)]))] ++ (List.replicate (xs.length - 1) [D.non]).flatten)) nq3)).1
            obtain ⟨J8, F8⟩ := J7.newL nq3 (labs4.map labD ++ [D.tup (List.map fmD (fs ++ [((n : Int), (t : Int), sl)]))] ++ (List.replicate (xs.length - 1) [D.non]).flatten)
            obtain ⟨tb8, no8⟩ := tb6.frL no6 (F7.trans F8)
            refine ⟨_, J7a.slabs q3, J7a.size, ?_⟩
            have le8 : labs4.map labD ++ [D.tup (List.map fmD (fs ++ [((n : Int), (t : Int), sl)]))] ++ (List.replicate (xs.length - 1) [D.non]).flatten = (labs4 ++ [some (fs ++ [((n : Int), (t : Int), sl)])] ++ List.replicate (xs.length - 1) none).map labD := by
              rw [rep_flat]
              simp only [List.map_append, List.map_cons, List.map_nil, List.map_replicate, labD]
            have J8' := J8
            rw [le8] at J8'
            have m2' := I5.m2
            have m3' := I5.m3
            refine ⟨a6, _, _, _, _, q1, q3, b4, rows4 ++ xs, labs4 ++ [some (fs ++ [((n : Int), (t : Int), sl)])] ++ List.replicate (xs.length - 1) none, kvs5, f4, rfl, ?_, F4.trans (F5.trans (F6.trans (F7.trans F8))), tb8, no8, fun u hu => ?_, fun q hq => hk5 q (.inl (km4 q hq)), by rw [List.length_append]; omega, sl4, ff4⟩
            · rw [le8]
              refine ⟨J8'.cz, J8'.cr, J8'.cl, J8'.cb, J8'.rl, by simp [I5.len]; omega, fun d hd => ?_, fun x hx => ?_, I5.f0, ?_, ?_, ?_⟩
              · rcases List.mem_append.mp hd with z | z
                · exact I5.row d z
                · exact xfr d z
              · rcases List.mem_append.mp hx with z | z
                · rcases List.mem_append.mp z with z | z
                  · exact I5.lab x z
                  · rw [List.mem_singleton.mp z]
                    exact fun fs' e' => by cases e'; exact ⟨by rw [List.length_append]; simp; omega, fok4⟩
                · rw [(List.mem_replicate.mp z).2]
                  exact fun fs' e' => by cases e'
              · rw [List.length_append, Nat.add_mul, Nat.one_mul]; omega
              · rw [Nat.add_mul, Nat.one_mul]; omega
              · rw [Nat.add_mul, Nat.one_mul]; omega
            · rcases Nat.lt_or_ge u t with z | z
              · exact hk5 _ (.inl (ks4 u z))
              · exact hk5 _ (.inr (by rw [show u = t by omega]))
        · rw [if_pos hg]
          have plr : plainRow row = true := by cases row <;> first | rfl | exact absurd rfl hc | exact absurd rfl hg
          have p3 : path.length ≤ 100 := by omega
          refine ⟨row, pnames, top, p.rows.length, _, Tb, g, path, rfl, plr, rok, tb5.sub fun x hx => (nso.2.2 x).2 (List.mem_append_right _ (List.mem_flatMap.mpr ⟨_, List.mem_of_getElem? hrow, hx⟩)), p3, fun p14 np14 => ?_⟩
          refine ⟨XM hs Z Tb (.tup [pD path, .tup (fs.map fmD), backD back]) n path fs back ns sl (fun q => hasK kvs5 q ∨ T q ∨ ∃ u : Nat, u < p.rows.length ∧ q = path ++ [(u : Int)]) h5 t row.d (.tup ((fs ++ [((n : Int), (t : Int), sl)]).map fmD)), ?_, ?_⟩
          · refine ⟨D.str (tagOf row) :: parts row, by rw [row_d]; rfl, D.str (tagOf row), atI_0, by simp only [and_assoc, atI_0, atI_1, atI_2, atI_3, String.reduceEq, Nat.reduceLeDiff, exists_and_left, exists_and_right, resD_int, resD_str, resD_bl, resD_non, resD_tup, resD_lst, resD_ktup, dat_int, dat_str, dat_bl, dat_non, dat_nil, eqv_int, eqv_str, eqv_nil, eqv_tnil, seqD_tup, seqD_lst, seqD_ktup, seqD_klst, resD_klst, seqL_lst, isN_non, isN_int, isN_str, isN_bl, isN_tup, isN_lst, isN_ref, Bool.not_eq_true', Bool.not_eq_true, decide_eq_false_iff_not, Nat.zero_le, List.map, List.length, List.replicate, List.cons_append, List.nil_append, List.getElem?_cons_zero, List.getElem?_cons_succ, List.set_cons_zero, List.set_cons_succ, Nat.sub_self, Nat.reduceAdd, Nat.reduceSub, Option.some.injEq, D.int.injEq, D.ref.injEq, D.bl.injEq, D.str.injEq, D.tup.injEq, D.lst.injEq, List.cons.injEq, and_true, true_and, exists_eq_left, exists_eq_left', exists_eq', exists_eq_right, exists_const, Bool.true_eq_false, Bool.false_eq_true, if_true, if_false, ite_true, ite_false, decide_eq_true_eq], ?_⟩
            simp only [and_assoc, atI_0, atI_1, atI_2, atI_3, String.reduceEq, Nat.reduceLeDiff, exists_and_left, exists_and_right, resD_int, resD_str, resD_bl, resD_non, resD_tup, resD_lst, resD_ktup, dat_int, dat_str, dat_bl, dat_non, dat_nil, eqv_int, eqv_str, eqv_nil, eqv_tnil, seqD_tup, seqD_lst, seqD_ktup, seqD_klst, resD_klst, seqL_lst, isN_non, isN_int, isN_str, isN_bl, isN_tup, isN_lst, isN_ref, Bool.not_eq_true', Bool.not_eq_true, decide_eq_false_iff_not, Nat.zero_le, List.map, List.length, List.replicate, List.cons_append, List.nil_append, List.getElem?_cons_zero, List.getElem?_cons_succ, List.set_cons_zero, List.set_cons_succ, Nat.sub_self, Nat.reduceAdd, Nat.reduceSub, Option.some.injEq, D.int.injEq, D.ref.injEq, D.bl.injEq, D.str.injEq, D.tup.injEq, D.lst.injEq, List.cons.injEq, and_true, true_and, exists_eq_left, exists_eq_left', exists_eq', exists_eq_right, exists_const, Bool.true_eq_false, Bool.false_eq_true, if_true, if_false, ite_true, ite_false, decide_eq_true_eq]
            rw [if_neg hg]
            refine ⟨a, p14, [rowOn g path row], rfl, updD_same, FrA.new np14, np14, Nat.le_refl _, (by show 1 ≤ 2; omega), fun x hx => ?_⟩
            rw [List.mem_singleton.mp hx]
            cases row with
            | call b n as => exact absurd rfl hc
            | give t => exact absurd rfl hg
            | set x t => exact .set _ _
            | ask x => exact .ask _
            | tell t => exact .tell _
            | iff t' i' => exact .ifp _ _ (.inr (.inr ⟨i'.toNat, by have := rok.2; omega, by rw [Int.toNat_of_nonneg rok.2.1]⟩))
            | go i' => exact .gop _ (.inr (.inr ⟨i'.toNat, by have := rok.1; have := rok.2; omega, by rw [Int.toNat_of_nonneg rok.1]⟩))
          · rintro ρ h6 ⟨a6, p14, xs, rfl, cx, fa6, n14, x1, x2, xfr⟩
            obtain ⟨J6, F6⟩ := J5.frA fa6
            obtain ⟨tb6, no6⟩ := tb5.frL no5 F6
            simp only [rSeq, rCut, rAnd, rOr, rNot, rB, rOp, rDG, rDG2, rDIn, rVar, rC, DX.rEqD, DX.rNeD, rLstF, rLstM, rNil, rCons, rTup, rDP, DX.rLP, rRepL', rRepr, rNeg, rEnum, rDictZip, DX.rSortedSet, rBM, rPop0, DX.rAppend, rIf, rAsg, gN, gT, gsC, gs0, rRet, rDrop, DX.rI, rNext, rCont, rBreak, rCB, DX.rLen, rTuple, rTupleN, rTIdx, rList, rAbs, rMax2, rMin2, rIntB, rStrI, DX.rIsi, rIsN, rNotN, DX.rIx, rFrz, rNotV, rAndV, rOrV, rIfE, rSl, rSlT', rSlL', rPt, rNoP, rCatT', rCatL', newL, rCatS, rInD', rIndex', rCall, rSq, rRg1, rRg2, rChain, rYes, rNewK, rNewT, Tg.d, tgsD, wipeD, startD, and_assoc, atI_0, atI_1, atI_2, atI_3, String.reduceEq, Nat.reduceLeDiff, exists_and_left, exists_and_right, resD_int, resD_str, resD_bl, resD_non, resD_tup, resD_lst, resD_ktup, dat_int, dat_str, dat_bl, dat_non, dat_nil, eqv_int, eqv_str, eqv_nil, eqv_tnil, seqD_tup, seqD_lst, seqD_ktup, seqD_klst, resD_klst, seqL_lst, isN_non, isN_int, isN_str, isN_bl, isN_tup, isN_lst, isN_ref, Bool.not_eq_true', Bool.not_eq_true, decide_eq_false_iff_not, Nat.zero_le, List.map, List.length, List.replicate, List.cons_append, List.nil_append, List.getElem?_cons_zero, List.getElem?_cons_succ, List.set_cons_zero, List.set_cons_succ, Nat.sub_self, Nat.reduceAdd, Nat.reduceSub, Option.some.injEq, D.int.injEq, D.ref.injEq, D.bl.injEq, D.str.injEq, D.tup.injEq, D.lst.injEq, List.cons.injEq, and_true, true_and, exists_eq_left, exists_eq_left', exists_eq', exists_eq_right, exists_const, Bool.true_eq_false, Bool.false_eq_true, if_true, if_false, ite_true, ite_false, decide_eq_true_eq]
            have rl5 := I5.m1
            have ll6 := I5.len
            have ll5 : (labs4.map labD).length = rows4.length := by rw [List.length_map, I5.len]
            have nown14 : ¬ own h6 Z p14 := fun z => by
              rw [J6.own] at z
              rcases z with z | z | z | z
              · rw [z, J5.cz] at n14; cases n14
              · rw [z, J5.cr] at n14; cases n14
              · rw [z, J5.cl] at n14; cases n14
              · rw [z, J5.cb] at n14; cases n14
            refine ⟨_, J6.lrows, _, seqL_ref J6.cr, _, seqL_ref cx, by rw [sizeLine_eq]; omega, fun q1 nq1 => ?_⟩
            have J6a := (J6.frA (FrA.new (c := .lst (rows4 ++ xs)) nq1)).1
            obtain ⟨J7, F7⟩ := J6.newR nq1 (rows4 ++ xs)
            refine ⟨_, J6a.srows q1, J6a.size, _, J7.llabs, _, seqL_ref J7.cl, by rw [sizeLine_eq]; omega, fun q2 nq2 => ?_⟩
            have cx7 := F7.keep p14 _ nown14 cx
            generalize updD (updD h6 q1 (Cell.lst (rows4 ++ xs))) Z (layC q1 l4 b4 f4) = h7 at J7 F7 nq2 cx7 ⊢
            have q214 : p14 ≠ q2 := fun z => by rw [← z, cx7] at nq2; cases nq2
            have xm : ((xs.length : Int) - 1).toNat = xs.length - 1 := by omega
            refine ⟨xs, seqD_ref (by rw [updD_ne q214]; exact cx7), [D.non], updD_same, by omega, by omega, by rw [xm, sizeLine_eq]; simp; omega, by rw [xm, flat_rep, sizeLine_eq]; simp; omega, fun q3 nq3 => ?_⟩
            rw [delD_upd nq2] at nq3 ⊢
            rw [xm]
            have J7a := (J7.frA (FrA.new (c := .lst (labs4.map labD ++ [D.tup (List.map fmD (fs ++ [((n : Int), (t : Int), sl)]))] ++ (List.replicate (xs.length - 1) [D.non]).flatten)) nq3)).1
            obtain ⟨J8, F8⟩ := J7.newL nq3 (labs4.map labD ++ [D.tup (List.map fmD (fs ++ [((n : Int), (t : Int), sl)]))] ++ (List.replicate (xs.length - 1) [D.non]).flatten)
            obtain ⟨tb8, no8⟩ := tb6.frL no6 (F7.trans F8)
            refine ⟨_, J7a.slabs q3, J7a.size, ?_⟩
            have le8 : labs4.map labD ++ [D.tup (List.map fmD (fs ++ [((n : Int), (t : Int), sl)]))] ++ (List.replicate (xs.length - 1) [D.non]).flatten = (labs4 ++ [some (fs ++ [((n : Int), (t : Int), sl)])] ++ List.replicate (xs.length - 1) none).map labD := by
              rw [rep_flat]
              simp only [List.map_append, List.map_cons, List.map_nil, List.map_replicate, labD]
            have J8' := J8
            rw [le8] at J8'
            have m2' := I5.m2
            have m3' := I5.m3
            refine ⟨a6, _, _, _, _, q1, q3, b4, rows4 ++ xs, labs4 ++ [some (fs ++ [((n : Int), (t : Int), sl)])] ++ List.replicate (xs.length - 1) none, kvs5, f4, rfl, ?_, F4.trans (F5.trans (F6.trans (F7.trans F8))), tb8, no8, fun u hu => ?_, fun q hq => hk5 q (.inl (km4 q hq)), by rw [List.length_append]; omega, sl4, ff4⟩
            · rw [le8]
              refine ⟨J8'.cz, J8'.cr, J8'.cl, J8'.cb, J8'.rl, by simp [I5.len]; omega, fun d hd => ?_, fun x hx => ?_, I5.f0, ?_, ?_, ?_⟩
              · rcases List.mem_append.mp hd with z | z
                · exact I5.row d z
                · exact xfr d z
              · rcases List.mem_append.mp hx with z | z
                · rcases List.mem_append.mp z with z | z
                  · exact I5.lab x z
                  · rw [List.mem_singleton.mp z]
                    exact fun fs' e' => by cases e'; exact ⟨by rw [List.length_append]; simp; omega, fok4⟩
                · rw [(List.mem_replicate.mp z).2]
                  exact fun fs' e' => by cases e'
              · rw [List.length_append, Nat.add_mul, Nat.one_mul]; omega
              · rw [Nat.add_mul, Nat.one_mul]; omega
              · rw [Nat.add_mul, Nat.one_mul]; omega
            · rcases Nat.lt_or_ge u t with z | z
              · exact hk5 _ (.inl (ks4 u z))
              · exact hk5 _ (.inr (by rw [show u = t by omega]))
    · rintro ρ h4 ⟨a, c, d, e, m, r4, l4, b4, rows4, labs4, kvs4, f4, rfl, I4, F4, tb4, no4, ks4, km4, rl4, sl4, ff4⟩
      rw [enD_length, List.length_map] at ks4 I4 rl4
      refine ⟨rfl, ?_⟩
      have r1 := pok.r1
      have ms : p.rows.length * stepM n ≤ 7 * stepM n := Nat.mul_le_mul_right _ r7
      refine k h4 r4 l4 b4 rows4 labs4 kvs4 f4 ?_ F4 (by omega) km4 ff4
      have I4' := I4.monoM (show _ ≤ M + cost n by omega)
      exact ⟨I4'.cz, I4'.cr, I4'.cl, I4'.cb, I4'.rl, I4'.len, fun d hd => (I4'.row d hd).mono fun q z => by
        rcases z with z | z | ⟨u, hu, e⟩
        · exact .inl z
        · exact .inr z
        · rw [e]; exact .inl (ks4 u hu), I4'.lab, I4'.f0, I4'.m1, I4'.m2, I4'.m3⟩
end K26

set_option maxRecDepth 100000
set_option maxHeartbeats 4000000
namespace K26
open PySem PySem.Spec PyProof.Rows L2 DX
theorem m1_1 {x : D} : atI [x] (-1) = some x := rfl
theorem m1_2 {x y : D} : atI [x, y] (-1) = some y := rfl
theorem m1_3 {x y z : D} : atI [x, y, z] (-1) = some z := rfl
theorem cm_2 {x y : D} : DX.cutD [x, y] none (some (-1)) = [x] := rfl
theorem cm_3 {x y z : D} : DX.cutD [x, y, z] none (some (-1)) = [x, y] := rfl
theorem Ft.tup (t : Ft) : ∃ ds, t.d = .tup ds := by cases t <;> exact ⟨_, rfl⟩
/-- the loop of laid -/
def DM (prog : D) (top : Int) (hs : List Hlp) (Z p : Addr) (h0 : DHp) (P : Option D → Prop) (i : Nat) (ρ : DSt) (h : DHp) : Prop :=
  ∃ (a : Option D) (out : List D), ρ = [some prog, some (.int top), some (.tup (hs.map Hlp.d)), some (.ref Z), some (.ref p), a] ∧ P a ∧ h p = some (.lst out) ∧ out.length = i ∧ h0 p = none ∧ FrA h0 h
theorem laid_ok (ds : List D) (h : DHp) (Q : DQ) (hl : ds.length = 1) (hs : sp_laid ds h Q (fun _ _ => False)) : rd_laid (EN Q) (startD N_laid ds) h := by
  obtain ⟨top, hs, e, pg, k⟩ := hs
  subst e
  have l1 := pg.l1
  have l3 := pg.l3
  simp only [rd_laid, N_laid, progD, rSeq, rCut, rAnd, rOr, rNot, rB, rOp, rDG, rDG2, rDIn, rVar, rC, DX.rEqD, DX.rNeD, rLstF, rLstM, rNil, rCons, rTup, rDP, DX.rLP, rRepL', rRepr, rNeg, rEnum, rDictZip, DX.rSortedSet, rBM, rPop0, DX.rAppend, rIf, rAsg, gN, gT, gsC, gs0, rRet, rDrop, DX.rI, rNext, rCont, rBreak, rCB, DX.rLen, rTuple, rTupleN, rTIdx, rList, rAbs, rMax2, rMin2, rIntB, rStrI, DX.rIsi, rIsN, rNotN, DX.rIx, rFrz, rNotV, rAndV, rOrV, rIfE, rSl, rSlT', rSlL', rPt, rNoP, rCatT', rCatL', newL, rCatS, rInD', rIndex', rCall, rSq, rRg1, rRg2, rChain, rYes, rNewK, rNewT, Tg.d, tgsD, wipeD, startD, and_assoc, atI_0, atI_1, atI_2, atI_3, String.reduceEq, Nat.reduceLeDiff, exists_and_left, exists_and_right, resD_int, resD_str, resD_bl, resD_non, resD_tup, resD_lst, resD_ktup, dat_int, dat_str, dat_bl, dat_non, dat_nil, eqv_int, eqv_str, eqv_nil, eqv_tnil, seqD_tup, seqD_lst, seqD_ktup, seqD_klst, resD_klst, seqL_lst, isN_non, isN_int, isN_str, isN_bl, isN_tup, isN_lst, isN_ref, Bool.not_eq_true', Bool.not_eq_true, decide_eq_false_iff_not, Nat.zero_le, List.map, List.length, List.replicate, List.cons_append, List.nil_append, List.getElem?_cons_zero, List.getElem?_cons_succ, List.set_cons_zero, List.set_cons_succ, Nat.sub_self, Nat.reduceAdd, Nat.reduceSub, Option.some.injEq, D.int.injEq, D.ref.injEq, D.bl.injEq, D.str.injEq, D.tup.injEq, D.lst.injEq, List.cons.injEq, and_true, true_and, exists_eq_left, exists_eq_left', exists_eq', exists_eq_right, exists_const, Bool.true_eq_false, Bool.false_eq_true, if_true, if_false, ite_true, ite_false, decide_eq_true_eq]
  intro Z nZ
  simp only [rPairs, rSeq, rCut, rAnd, rOr, rNot, rB, rOp, rDG, rDG2, rDIn, rVar, rC, DX.rEqD, DX.rNeD, rLstF, rLstM, rNil, rCons, rTup, rDP, DX.rLP, rRepL', rRepr, rNeg, rEnum, rDictZip, DX.rSortedSet, rBM, rPop0, DX.rAppend, rIf, rAsg, gN, gT, gsC, gs0, rRet, rDrop, DX.rI, rNext, rCont, rBreak, rCB, DX.rLen, rTuple, rTupleN, rTIdx, rList, rAbs, rMax2, rMin2, rIntB, rStrI, DX.rIsi, rIsN, rNotN, DX.rIx, rFrz, rNotV, rAndV, rOrV, rIfE, rSl, rSlT', rSlL', rPt, rNoP, rCatT', rCatL', newL, rCatS, rInD', rIndex', rCall, rSq, rRg1, rRg2, rChain, rYes, rNewK, rNewT, Tg.d, tgsD, wipeD, startD, and_assoc, atI_0, atI_1, atI_2, atI_3, String.reduceEq, Nat.reduceLeDiff, exists_and_left, exists_and_right, resD_int, resD_str, resD_bl, resD_non, resD_tup, resD_lst, resD_ktup, dat_int, dat_str, dat_bl, dat_non, dat_nil, eqv_int, eqv_str, eqv_nil, eqv_tnil, seqD_tup, seqD_lst, seqD_ktup, seqD_klst, resD_klst, seqL_lst, isN_non, isN_int, isN_str, isN_bl, isN_tup, isN_lst, isN_ref, Bool.not_eq_true', Bool.not_eq_true, decide_eq_false_iff_not, Nat.zero_le, List.map, List.length, List.replicate, List.cons_append, List.nil_append, List.getElem?_cons_zero, List.getElem?_cons_succ, List.set_cons_zero, List.set_cons_succ, Nat.sub_self, Nat.reduceAdd, Nat.reduceSub, Option.some.injEq, D.int.injEq, D.ref.injEq, D.bl.injEq, D.str.injEq, D.tup.injEq, D.lst.injEq, List.cons.injEq, and_true, true_and, exists_eq_left, exists_eq_left', exists_eq', exists_eq_right, exists_const, Bool.true_eq_false, Bool.false_eq_true, if_true, if_false, ite_true, ite_false, decide_eq_true_eq]
  intro r nr l nl b nb
  have rZ : r ≠ Z := fun z => by rw [z, updD_same] at nr; cases nr
  have lr : l ≠ r := fun z => by rw [z, updD_same] at nl; cases nl
  rw [updD_ne lr] at nl
  have lZ : l ≠ Z := fun z => by rw [z, updD_same] at nl; cases nl
  have bl : b ≠ l := fun z => by rw [z, updD_same] at nb; cases nb
  rw [updD_ne bl] at nb
  have br : b ≠ r := fun z => by rw [z, updD_same] at nb; cases nb
  rw [updD_ne br] at nb
  have bZ : b ≠ Z := fun z => by rw [z, updD_same] at nb; cases nb
  rw [updD_ne rZ] at nr
  rw [updD_ne lZ] at nl
  rw [updD_ne bZ] at nb
  refine ⟨by rw [updD_ne bZ.symm, updD_ne lZ.symm, updD_ne rZ.symm]; exact updD_same, [(.inr "rows", .ref r), (.inr "labels", .ref l), (.inr "begins", .ref b), (.inr "free", .int 0)], rfl, by (show 4 ≤ 15); omega, ?_⟩
  have en : ((hs.map Hlp.d).length : Int) - 1 = ((hs.length - 1 : Nat) : Int) := by rw [List.length_map]; omega
  rw [en]
  generalize hh : updD (updD (updD (updD (updD h Z (Cell.dK [])) r (Cell.lst [])) l (Cell.lst [])) b (Cell.dT [])) Z (Cell.dK (mergeD [] [(.inr "rows", .ref r), (.inr "labels", .ref l), (.inr "begins", .ref b), (.inr "free", .int 0)])) = h1
  have I1 : LayI h1 Z r l b (fun _ => False) 0 [] [] [] 0 := by
    refine ⟨by rw [← hh]; exact updD_same, ?_, ?_, ?_, lr.symm, rfl, fun d hd => by simp at hd, fun x hx => by simp at hx, Int.le_refl _, Nat.le_refl _, Nat.le_refl _, Int.le_refl _⟩
    · rw [← hh, updD_ne rZ, updD_ne br.symm, updD_ne lr.symm]; exact updD_same
    · rw [← hh, updD_ne lZ, updD_ne bl.symm]; exact updD_same
    · rw [← hh, updD_ne bZ]; exact updD_same
  have f01 : ∀ a c, h a = some c → h1 a = some c ∧ ¬ own h1 Z a := fun a c e => by
    have aZ : a ≠ Z := fun z => by rw [z, nZ] at e; cases e
    have ar : a ≠ r := fun z => by rw [z, nr] at e; cases e
    have al : a ≠ l := fun z => by rw [z, nl] at e; cases e
    have ab : a ≠ b := fun z => by rw [z, nb] at e; cases e
    refine ⟨by rw [← hh, updD_ne aZ, updD_ne ab, updD_ne al, updD_ne ar, updD_ne aZ]; exact e, fun z => ?_⟩
    rw [I1.j.own] at z
    rcases z with z | z | z | z
    · exact aZ z
    · exact ar z
    · exact al z
    · exact ab z
  have c2 : cost (hs.length - 1) ≤ cost 2 := cost_mono (by omega)
  have c2e : cost 2 = 10000 := rfl
  refine ⟨hs.length - 1, by omega, hs, top, Z, [], [], none, r, l, b, fun _ => False, 0, [], [], [], 0, rfl, pg, by omega, I1, by omega, by simp; omega, by simp; omega, fun x hx => by simp at hx, fun o p e => (by cases e), fun h' r' l' b' rows' labs' kvs' f' I' F' nr' hk' ff' => ?_⟩
  intro p np
  have J' := I'.j
  have m1 := I'.m1
  have f02 : FrA h h' := fun a c e => F'.keep a c (f01 a c e).2 (f01 a c e).1
  have npp : h p = none := by
    cases z : h p with
    | none => rfl
    | some c => rw [f02 p c z] at np; cases np
  refine ⟨DM (.tup [.int top, .tup (hs.map Hlp.d)]) top hs Z p h' (fun _ => True) rows'.length, ?_, ?_⟩
  · obtain ⟨Ja, _⟩ := J'.frA (FrA.new (c := .lst []) np)
    refine for_in rows' (fun h => seqD h (.ref r') = some rows') (fun R rr => ?_) (DM (.tup [.int top, .tup (hs.map Hlp.d)]) top hs Z p h' (fun _ => True)) ⟨none, [], rfl, trivial, updD_same, rfl, np, FrA.new np⟩ ?_ ?_
    · simp only [rSeq, rCut, rAnd, rOr, rNot, rB, rOp, rDG, rDG2, rDIn, rVar, rC, DX.rEqD, DX.rNeD, rLstF, rLstM, rNil, rCons, rTup, rDP, DX.rLP, rRepL', rRepr, rNeg, rEnum, rDictZip, DX.rSortedSet, rBM, rPop0, DX.rAppend, rIf, rAsg, gN, gT, gsC, gs0, rRet, rDrop, DX.rI, rNext, rCont, rBreak, rCB, DX.rLen, rTuple, rTupleN, rTIdx, rList, rAbs, rMax2, rMin2, rIntB, rStrI, DX.rIsi, rIsN, rNotN, DX.rIx, rFrz, rNotV, rAndV, rOrV, rIfE, rSl, rSlT', rSlL', rPt, rNoP, rCatT', rCatL', newL, rCatS, rInD', rIndex', rCall, rSq, rRg1, rRg2, rChain, rYes, rNewK, rNewT, Tg.d, tgsD, wipeD, startD, and_assoc, atI_0, atI_1, atI_2, atI_3, String.reduceEq, Nat.reduceLeDiff, exists_and_left, exists_and_right, resD_int, resD_str, resD_bl, resD_non, resD_tup, resD_lst, resD_ktup, dat_int, dat_str, dat_bl, dat_non, dat_nil, eqv_int, eqv_str, eqv_nil, eqv_tnil, seqD_tup, seqD_lst, seqD_ktup, seqD_klst, resD_klst, seqL_lst, isN_non, isN_int, isN_str, isN_bl, isN_tup, isN_lst, isN_ref, Bool.not_eq_true', Bool.not_eq_true, decide_eq_false_iff_not, Nat.zero_le, List.map, List.length, List.replicate, List.cons_append, List.nil_append, List.getElem?_cons_zero, List.getElem?_cons_succ, List.set_cons_zero, List.set_cons_succ, Nat.sub_self, Nat.reduceAdd, Nat.reduceSub, Option.some.injEq, D.int.injEq, D.ref.injEq, D.bl.injEq, D.str.injEq, D.tup.injEq, D.lst.injEq, List.cons.injEq, and_true, true_and, exists_eq_left, exists_eq_left', exists_eq', exists_eq_right, exists_const, Bool.true_eq_false, Bool.false_eq_true, if_true, if_false, ite_true, ite_false, decide_eq_true_eq]
      exact ⟨_, Ja.lrows, _, seqD_ref Ja.cr, rr⟩
    · rintro i x ρ h2 hx ⟨a, out, rfl, _, cp, lo, np2, fa⟩
      obtain ⟨J2, _⟩ := J'.frA fa
      refine ⟨seqD_ref J2.cr, ?_⟩
      have xr := I'.row x (List.mem_of_getElem? hx)
      have il : i < rows'.length := (List.getElem?_eq_some_iff.mp hx).1
      simp only [rSeq, rCut, rAnd, rOr, rNot, rB, rOp, rDG, rDG2, rDIn, rVar, rC, DX.rEqD, DX.rNeD, rLstF, rLstM, rNil, rCons, rTup, rDP, DX.rLP, rRepL', rRepr, rNeg, rEnum, rDictZip, DX.rSortedSet, rBM, rPop0, DX.rAppend, rIf, rAsg, gN, gT, gsC, gs0, rRet, rDrop, DX.rI, rNext, rCont, rBreak, rCB, DX.rLen, rTuple, rTupleN, rTIdx, rList, rAbs, rMax2, rMin2, rIntB, rStrI, DX.rIsi, rIsN, rNotN, DX.rIx, rFrz, rNotV, rAndV, rOrV, rIfE, rSl, rSlT', rSlL', rPt, rNoP, rCatT', rCatL', newL, rCatS, rInD', rIndex', rCall, rSq, rRg1, rRg2, rChain, rYes, rNewK, rNewT, Tg.d, tgsD, wipeD, startD, and_assoc, atI_0, atI_1, atI_2, atI_3, String.reduceEq, Nat.reduceLeDiff, exists_and_left, exists_and_right, resD_int, resD_str, resD_bl, resD_non, resD_tup, resD_lst, resD_ktup, dat_int, dat_str, dat_bl, dat_non, dat_nil, eqv_int, eqv_str, eqv_nil, eqv_tnil, seqD_tup, seqD_lst, seqD_ktup, seqD_klst, resD_klst, seqL_lst, isN_non, isN_int, isN_str, isN_bl, isN_tup, isN_lst, isN_ref, Bool.not_eq_true', Bool.not_eq_true, decide_eq_false_iff_not, Nat.zero_le, List.map, List.length, List.replicate, List.cons_append, List.nil_append, List.getElem?_cons_zero, List.getElem?_cons_succ, List.set_cons_zero, List.set_cons_succ, Nat.sub_self, Nat.reduceAdd, Nat.reduceSub, Option.some.injEq, D.int.injEq, D.ref.injEq, D.bl.injEq, D.str.injEq, D.tup.injEq, D.lst.injEq, List.cons.injEq, and_true, true_and, exists_eq_left, exists_eq_left', exists_eq', exists_eq_right, exists_const, Bool.true_eq_false, Bool.false_eq_true, if_true, if_false, ite_true, ite_false, decide_eq_true_eq]
      refine ⟨DM (.tup [.int top, .tup (hs.map Hlp.d)]) top hs Z p h' (fun a => ∃ d, a = some d) i, ?_, ?_⟩
      · have stay : ∀ d : D, DM (.tup [.int top, .tup (hs.map Hlp.d)]) top hs Z p h' (fun a => ∃ d, a = some d) i [some (.tup [.int top, .tup (hs.map Hlp.d)]), some (.int top), some (.tup (hs.map Hlp.d)), some (.ref Z), some (.ref p), some d] h2 := fun d => ⟨some d, out, rfl, ⟨d, rfl⟩, cp, lo, np2, fa⟩
        have key : ∀ q, hasK kvs' q ∨ False → ∃ v : Int, lookD h2 b' (pD q) = some (some (.int v)) := fun q z => by
          obtain ⟨v, ev⟩ := z.resolve_right id
          exact ⟨v, by rw [J2.lkey, ev]⟩
        cases xr with
        | goi i' =>
          refine ⟨_, rfl, _, m1_2, "int", "tuple", rfl, rfl, by decide, ?_⟩
          rw [if_neg (by decide)]
          exact stay _
        | gop q hq =>
          obtain ⟨v, ev⟩ := key q hq
          refine ⟨_, rfl, _, m1_2, "tuple", "tuple", rfl, rfl, by decide, ?_⟩
          rw [if_pos (by decide)]
          refine ⟨_, rfl, _, atI_0, dat_str, rfl, ?_⟩
          rw [if_pos (by simp [eqv_str])]
          exact ⟨_, rfl, _, J2.lbeg, _, rfl, _, m1_2, b', rfl, _, ev, (by show 1 + 1 ≤ sizeLine; decide), stay _⟩
        | ifp t q hq =>
          obtain ⟨v, ev⟩ := key q hq
          refine ⟨_, rfl, _, m1_3, "tuple", "tuple", rfl, rfl, by decide, ?_⟩
          rw [if_pos (by decide)]
          refine ⟨_, rfl, _, atI_0, dat_str, rfl, ?_⟩
          rw [if_pos (by simp [eqv_str])]
          exact ⟨_, rfl, _, J2.lbeg, _, rfl, _, m1_3, b', rfl, _, ev, (by show 2 + 1 ≤ sizeLine; decide), stay _⟩
        | set i' t =>
          obtain ⟨dt, edt⟩ := Ft.tup t
          refine ⟨_, rfl, _, m1_3, "tuple", "tuple", rfl, by rw [edt]; rfl, by decide, ?_⟩
          rw [if_pos (by decide)]
          refine ⟨_, rfl, _, atI_0, dat_str, rfl, ?_⟩
          rw [if_neg (by simp [eqv_str])]
          exact stay _
        | ask i' =>
          refine ⟨_, rfl, _, m1_2, "int", "tuple", rfl, rfl, by decide, ?_⟩
          rw [if_neg (by decide)]
          exact stay _
        | tell t =>
          obtain ⟨dt, edt⟩ := Ft.tup t
          refine ⟨_, rfl, _, m1_2, "tuple", "tuple", rfl, by rw [edt]; rfl, by decide, ?_⟩
          rw [if_pos (by decide)]
          refine ⟨_, rfl, _, atI_0, dat_str, rfl, ?_⟩
          rw [if_neg (by simp [eqv_str])]
          exact stay _
        | fin =>
          refine ⟨_, rfl, _, m1_1, "str", "tuple", rfl, rfl, by decide, ?_⟩
          rw [if_neg (by decide)]
          exact stay _
      · rintro ρ h3 ⟨a3, out3, rfl, ⟨d, rfl⟩, cp3, lo3, np3, fa3⟩
        simp only [rSeq, rCut, rAnd, rOr, rNot, rB, rOp, rDG, rDG2, rDIn, rVar, rC, DX.rEqD, DX.rNeD, rLstF, rLstM, rNil, rCons, rTup, rDP, DX.rLP, rRepL', rRepr, rNeg, rEnum, rDictZip, DX.rSortedSet, rBM, rPop0, DX.rAppend, rIf, rAsg, gN, gT, gsC, gs0, rRet, rDrop, DX.rI, rNext, rCont, rBreak, rCB, DX.rLen, rTuple, rTupleN, rTIdx, rList, rAbs, rMax2, rMin2, rIntB, rStrI, DX.rIsi, rIsN, rNotN, DX.rIx, rFrz, rNotV, rAndV, rOrV, rIfE, rSl, rSlT', rSlL', rPt, rNoP, rCatT', rCatL', newL, rCatS, rInD', rIndex', rCall, rSq, rRg1, rRg2, rChain, rYes, rNewK, rNewT, Tg.d, tgsD, wipeD, startD, and_assoc, atI_0, atI_1, atI_2, atI_3, String.reduceEq, Nat.reduceLeDiff, exists_and_left, exists_and_right, resD_int, resD_str, resD_bl, resD_non, resD_tup, resD_lst, resD_ktup, dat_int, dat_str, dat_bl, dat_non, dat_nil, eqv_int, eqv_str, eqv_nil, eqv_tnil, seqD_tup, seqD_lst, seqD_ktup, seqD_klst, resD_klst, seqL_lst, isN_non, isN_int, isN_str, isN_bl, isN_tup, isN_lst, isN_ref, Bool.not_eq_true', Bool.not_eq_true, decide_eq_false_iff_not, Nat.zero_le, List.map, List.length, List.replicate, List.cons_append, List.nil_append, List.getElem?_cons_zero, List.getElem?_cons_succ, List.set_cons_zero, List.set_cons_succ, Nat.sub_self, Nat.reduceAdd, Nat.reduceSub, Option.some.injEq, D.int.injEq, D.ref.injEq, D.bl.injEq, D.str.injEq, D.tup.injEq, D.lst.injEq, List.cons.injEq, and_true, true_and, exists_eq_left, exists_eq_left', exists_eq', exists_eq_right, exists_const, Bool.true_eq_false, Bool.false_eq_true, if_true, if_false, ite_true, ite_false, decide_eq_true_eq]
        exact ⟨isLst_ref cp3, _, cp3, by rw [lo3, sizeLine_eq]; omega, _, out3 ++ [d], rfl, trivial, updD_same, by rw [List.length_append, lo3]; rfl, np3, fa3.upd np3⟩
    · rintro ρ h2 ⟨a, out, rfl, _, cp, lo, np2, fa⟩
      obtain ⟨J2, _⟩ := J'.frA fa
      exact ⟨seqD_ref J2.cr, a, out, rfl, trivial, cp, lo, np2, fa⟩
  · rintro ρ h2 ⟨a, out, rfl, _, cp, lo, np2, fa⟩
    obtain ⟨J2, _⟩ := J'.frA fa
    simp only [rSeq, rCut, rAnd, rOr, rNot, rB, rOp, rDG, rDG2, rDIn, rVar, rC, DX.rEqD, DX.rNeD, rLstF, rLstM, rNil, rCons, rTup, rDP, DX.rLP, rRepL', rRepr, rNeg, rEnum, rDictZip, DX.rSortedSet, rBM, rPop0, DX.rAppend, rIf, rAsg, gN, gT, gsC, gs0, rRet, rDrop, DX.rI, rNext, rCont, rBreak, rCB, DX.rLen, rTuple, rTupleN, rTIdx, rList, rAbs, rMax2, rMin2, rIntB, rStrI, DX.rIsi, rIsN, rNotN, DX.rIx, rFrz, rNotV, rAndV, rOrV, rIfE, rSl, rSlT', rSlL', rPt, rNoP, rCatT', rCatL', newL, rCatS, rInD', rIndex', rCall, rSq, rRg1, rRg2, rChain, rYes, rNewK, rNewT, Tg.d, tgsD, wipeD, startD, and_assoc, atI_0, atI_1, atI_2, atI_3, String.reduceEq, Nat.reduceLeDiff, exists_and_left, exists_and_right, resD_int, resD_str, resD_bl, resD_non, resD_tup, resD_lst, resD_ktup, dat_int, dat_str, dat_bl, dat_non, dat_nil, eqv_int, eqv_str, eqv_nil, eqv_tnil, seqD_tup, seqD_lst, seqD_ktup, seqD_klst, resD_klst, seqL_lst, isN_non, isN_int, isN_str, isN_bl, isN_tup, isN_lst, isN_ref, Bool.not_eq_true', Bool.not_eq_true, decide_eq_false_iff_not, Nat.zero_le, List.map, List.length, List.replicate, List.cons_append, List.nil_append, List.getElem?_cons_zero, List.getElem?_cons_succ, List.set_cons_zero, List.set_cons_succ, Nat.sub_self, Nat.reduceAdd, Nat.reduceSub, Option.some.injEq, D.int.injEq, D.ref.injEq, D.bl.injEq, D.str.injEq, D.tup.injEq, D.lst.injEq, List.cons.injEq, and_true, true_and, exists_eq_left, exists_eq_left', exists_eq', exists_eq_right, exists_const, Bool.true_eq_false, Bool.false_eq_true, if_true, if_false, ite_true, ite_false, decide_eq_true_eq]
    refine ⟨_, J2.lfree, f', rfl, _, seqD_ref cp, _, J2.llabs, _, seqD_ref J2.cl, trivial, k (max 1 f') out labs' h2 ⟨pg.tp, by omega, by have := I'.m3; omega, by rw [lo]; exact I'.len, by have : 1 ≤ rows'.length := nr'; omega, by omega, fun x hx fs e => ?_⟩ (f02.trans fa)⟩
    obtain ⟨o1, o2⟩ := I'.lab x hx fs e
    exact ⟨o1, fun y hy => by
      obtain ⟨a1, a2, a3, a4, a5, a6⟩ := o2 y hy
      exact ⟨a1, a2, a3, a4, a5, fun s hs => by have := a6 s hs; omega⟩⟩
theorem eqv_refl (d : D) {n : Nat} (h : d.dat n = true) : d.eqv d = true := PySem.SeqAt.eqv_refl d.pd (D.lay h).1
theorem shws_of : ∀ {ds : List D}, (∀ d ∈ ds, d.shw) → shws ds
  | [], _ => trivial
  | d :: ds, h => ⟨h d List.mem_cons_self, shws_of fun x hx => h x (List.mem_cons_of_mem _ hx)⟩
theorem bks_le {B : Nat} : ∀ {ds : List D}, (∀ d ∈ ds, d.bk ≤ B) → bks ds ≤ ds.length * (B + 1)
  | [], _ => Nat.zero_le _
  | d :: ds, h => by
    have h1 := h d List.mem_cons_self
    have h2 := bks_le (B := B) (ds := ds) fun x hx => h x (List.mem_cons_of_mem _ hx)
    show d.bk + 1 + bks ds ≤ (ds.length + 1) * (B + 1)
    rw [Nat.add_mul]
    omega
theorem iL_dat {n : Nat} (l : List Int) : dats n (iL l) = true := dats_of fun d hd => by
  obtain ⟨z, _, rfl⟩ := List.mem_map.mp hd
  exact dat_int
theorem oI_dat {n : Nat} (o : Option Int) : (oI o).dat n = true := by
  cases o
  · exact dat_non
  · exact dat_int
theorem dats3 {n : Nat} {a b c : D} (h1 : a.dat n = true) (h2 : b.dat n = true) (h3 : c.dat n = true) : dats n [a, b, c] = true := by
  simp [dats, h1, h2, h3]
theorem sh_dat (shs : List Sh) : D.dat 64 (.lst (shs.map Sh.d)) = true := dats_of fun d hd => by
  obtain ⟨s, _, rfl⟩ := List.mem_map.mp hd
  show dats 62 [D.int _, .tup (s.ws.map oI), .int s.cnt, .tup (iL s.said)] = true
  have e1 : D.dat 62 (.tup (s.ws.map oI)) = true := dats_of fun d hd => by
    obtain ⟨o, _, rfl⟩ := List.mem_map.mp hd
    exact oI_dat o
  have e2 : D.dat 62 (.tup (iL s.said)) = true := iL_dat _
  simp [dats, e1, e2, dat_int]
theorem mom_ok {labs : List Lab} {shs : List Sh} {top fr : Int} (lo : ∀ x ∈ labs, labOk fr x) (so : ∀ s ∈ shs, s.ok top fr labs) (t : topOk top) (sl : shs.length ≤ 14) :
    (∀ n, D.dat (n + 5) (.lst (momD labs shs)) = true) ∧ D.shw (.lst (momD labs shs)) ∧ D.bk (.lst (momD labs shs)) ≤ 2 ^ 20 := by
  obtain ⟨t1, t2⟩ := t
  have each : ∀ d ∈ momD labs shs, ∃ (fs : List Fm) (s : Sh), s ∈ shs ∧ some fs ∈ labs ∧ d = .tup [.tup (fs.map (frD s.ws)), .int s.cnt, .tup (iL s.said)] := fun d hd => by
    unfold momD at hd
    obtain ⟨s, hs, e⟩ := List.mem_filterMap.mp hd
    cases el : (labs[s.row]?).getD none with
    | none => rw [el] at e; cases e
    | some fs =>
      rw [el] at e
      cases e
      refine ⟨fs, s, hs, ?_, rfl⟩
      cases em : labs[s.row]? with
      | none => rw [em] at el; cases el
      | some l => rw [em] at el; cases el; exact List.mem_of_getElem? em
  have wv : ∀ s ∈ shs, ∀ z : Int, (oI ((s.ws[z.toNat]?).getD none)).shw ∧ (oI ((s.ws[z.toNat]?).getD none)).bk = 0 := fun s hs z => by
    cases e : (s.ws[z.toNat]?).getD none with
    | none => exact ⟨trivial, rfl⟩
    | some i =>
      have hi : some i ∈ s.ws := by
        cases em : s.ws[z.toNat]? with
        | none => rw [em] at e; cases e
        | some l => rw [em] at e; cases e; exact List.mem_of_getElem? em
      have := (so s hs).wn i hi
      exact ⟨by show i.natAbs < 10 ^ 12; omega, rfl⟩
  refine ⟨fun n => dats_of fun d hd => ?_, shws_of fun d hd => ?_, ?_⟩
  · obtain ⟨fs, s, hs, hf, rfl⟩ := each d hd
    refine dats3 (dats_of fun x hx => ?_) dat_int (iL_dat _)
    obtain ⟨f, _, rfl⟩ := List.mem_map.mp hx
    refine dats3 dat_int dat_int (dats_of fun y hy => ?_)
    obtain ⟨z, _, rfl⟩ := List.mem_map.mp hy
    exact oI_dat _
  · obtain ⟨fs, s, hs, hf, rfl⟩ := each d hd
    obtain ⟨f3, fok⟩ := lo _ hf fs rfl
    have sk := so s hs
    refine ⟨shws_of fun x hx => ?_, ⟨by show s.cnt.natAbs < 10 ^ 12; have := sk.c0; have := sk.c9; omega, shws_of fun y hy => ?_, trivial⟩⟩
    · obtain ⟨f, hfm, rfl⟩ := List.mem_map.mp hx
      obtain ⟨o1, o2, o3, o4, o5, o6⟩ := fok f hfm
      refine ⟨by show f.1.natAbs < 10 ^ 12; omega, by show f.2.1.natAbs < 10 ^ 12; omega, shws_of fun y hy => ?_, trivial⟩
      obtain ⟨z, _, rfl⟩ := List.mem_map.mp hy
      exact (wv s hs z).1
    · obtain ⟨z, hz, rfl⟩ := List.mem_map.mp hy
      have := sk.sn z hz
      show z.natAbs < 10 ^ 12
      omega
  · have b1 : ∀ d ∈ momD labs shs, d.bk ≤ 100 := fun d hd => by
      obtain ⟨fs, s, hs, hf, rfl⟩ := each d hd
      obtain ⟨f3, fok⟩ := lo _ hf fs rfl
      have sk := so s hs
      have bs : bks (iL s.said) ≤ (iL s.said).length * (0 + 1) := bks_le fun y hy => by
        obtain ⟨z, _, rfl⟩ := List.mem_map.mp hy
        exact Nat.le_refl _
      have bf : bks (fs.map (frD s.ws)) ≤ (fs.map (frD s.ws)).length * (9 + 1) := bks_le fun x hx => by
        obtain ⟨f, hfm, rfl⟩ := List.mem_map.mp hx
        obtain ⟨o1, o2, o3, o4, o5, o6⟩ := fok f hfm
        have bz : bks (f.2.2.map fun z => oI ((s.ws[z.toNat]?).getD none)) ≤ (f.2.2.map fun z => oI ((s.ws[z.toNat]?).getD none)).length * (0 + 1) := bks_le fun y hy => by
          obtain ⟨z, _, rfl⟩ := List.mem_map.mp hy
          rw [(wv s hs z).2]
          exact Nat.le_refl _
        rw [List.length_map] at bz
        show 0 + 1 + (0 + 1 + (bks (f.2.2.map fun z => oI ((s.ws[z.toNat]?).getD none)) + 1 + 0)) ≤ 9
        omega
      have l2 := sk.sl
      rw [List.length_map] at bf
      unfold iL at bs
      rw [List.length_map] at bs
      show bks (fs.map (frD s.ws)) + 1 + (0 + 1 + (bks (iL s.said) + 1 + 0)) ≤ 100
      unfold iL
      omega
    have b2 := bks_le b1
    have ml := mom_len labs shs
    show bks (momD labs shs) ≤ 2 ^ 20
    have : (momD labs shs).length * (100 + 1) ≤ 14 * 101 := Nat.mul_le_mul (by omega) (Nat.le_refl _)
    have e : (2 : Nat) ^ 20 = 1048576 := by decide
    omega
/-- a pair of labels and showings -/
structure PairOk (h : DHp) (S g : Addr) (top fr : Int) (labs : List Lab) (shs : List Sh) (p : Addr) : Prop where
  c : h p = some (.lst (shs.map Sh.d))
  l : ∀ x ∈ labs, labOk fr x
  ll : labs.length ≤ 200000
  sl : shs.length < 15
  so : ∀ s ∈ shs, s.ok top fr labs
  t : topOk top
  pS : p ≠ S
  pg : p ≠ g
theorem PairOk.frA {h h' : DHp} {S g : Addr} {top fr : Int} {labs : List Lab} {shs : List Sh} {p : Addr} (P : PairOk h S g top fr labs shs p) (f : FrA h h') : PairOk h' S g top fr labs shs p := ⟨f _ _ P.c, P.l, P.ll, P.sl, P.so, P.t, P.pS, P.pg⟩
def pairD (labs : List Lab) (p : Addr) : D := .tup [.tup (labs.map labD), .ref p]
def AM (x : D) (S g q : Addr) (i : Nat) (ρ : DSt) (h : DHp) : Prop :=
  ∃ (a b c d e f j : Option D) (ps : List (List Lab × Addr)), ρ = [some x, some (.ref S), some (.ref q), a, b, c, d, e, f, j] ∧ St h S g ∧ h q = some (.lst (ps.map fun p => pairD p.1 p.2)) ∧ ps.length = i ∧ q ≠ S ∧ q ≠ g ∧ ∀ p ∈ ps, p.2 ≠ q ∧ ∃ top fr shs, PairOk h S g top fr p.1 shs p.2
theorem law_ok (ds : List D) (h : DHp) (Q : DQ) (hl : ds.length = 1) (hs : spLaw 63 ds h Q (fun _ _ => False)) : rd_p_law (EN Q) (startD N_p_law ds) h := by
  obtain ⟨x, ns, e, sx, ln, bt, eh, k⟩ := hs
  subst e
  simp only [rd_p_law, N_p_law, rSeq, rCut, rAnd, rOr, rNot, rB, rOp, rDG, rDG2, rDIn, rVar, rC, DX.rEqD, DX.rNeD, rLstF, rLstM, rNil, rCons, rTup, rDP, DX.rLP, rRepL', rRepr, rNeg, rEnum, rDictZip, DX.rSortedSet, rBM, rPop0, DX.rAppend, rIf, rAsg, gN, gT, gsC, gs0, rRet, rDrop, DX.rI, rNext, rCont, rBreak, rCB, DX.rLen, rTuple, rTupleN, rTIdx, rList, rAbs, rMax2, rMin2, rIntB, rStrI, DX.rIsi, rIsN, rNotN, DX.rIx, rFrz, rNotV, rAndV, rOrV, rIfE, rSl, rSlT', rSlL', rPt, rNoP, rCatT', rCatL', newL, rCatS, rInD', rIndex', rCall, rSq, rRg1, rRg2, rChain, rYes, rNewK, rNewT, Tg.d, tgsD, wipeD, startD, and_assoc, atI_0, atI_1, atI_2, atI_3, String.reduceEq, Nat.reduceLeDiff, exists_and_left, exists_and_right, resD_int, resD_str, resD_bl, resD_non, resD_tup, resD_lst, resD_ktup, dat_int, dat_str, dat_bl, dat_non, dat_nil, eqv_int, eqv_str, eqv_nil, eqv_tnil, seqD_tup, seqD_lst, seqD_ktup, seqD_klst, resD_klst, seqL_lst, isN_non, isN_int, isN_str, isN_bl, isN_tup, isN_lst, isN_ref, Bool.not_eq_true', Bool.not_eq_true, decide_eq_false_iff_not, Nat.zero_le, List.map, List.length, List.replicate, List.cons_append, List.nil_append, List.getElem?_cons_zero, List.getElem?_cons_succ, List.set_cons_zero, List.set_cons_succ, Nat.sub_self, Nat.reduceAdd, Nat.reduceSub, Option.some.injEq, D.int.injEq, D.ref.injEq, D.bl.injEq, D.str.injEq, D.tup.injEq, D.lst.injEq, List.cons.injEq, and_true, true_and, exists_eq_left, exists_eq_left', exists_eq', exists_eq_right, exists_const, Bool.true_eq_false, Bool.false_eq_true, if_true, if_false, ite_true, ite_false, decide_eq_true_eq]
  refine ⟨x, ns, rfl, sx, ln, fun S g h1 st1 f1 q nq => ?_⟩
  obtain ⟨qS, qg⟩ := st1.fresh nq
  refine ⟨AM x S g q 2, ?_, ?_⟩
  · refine for_in (rgD 0 2) (fun _ => True) (fun R rr => ?_) (AM x S g q) ⟨_, _, _, _, _, _, _, [], rfl, st1.upd qS qg, updD_same, rfl, qS, qg, fun p hp => by simp at hp⟩ ?_ ?_
    · simp only [rSeq, rCut, rAnd, rOr, rNot, rB, rOp, rDG, rDG2, rDIn, rVar, rC, DX.rEqD, DX.rNeD, rLstF, rLstM, rNil, rCons, rTup, rDP, DX.rLP, rRepL', rRepr, rNeg, rEnum, rDictZip, DX.rSortedSet, rBM, rPop0, DX.rAppend, rIf, rAsg, gN, gT, gsC, gs0, rRet, rDrop, DX.rI, rNext, rCont, rBreak, rCB, DX.rLen, rTuple, rTupleN, rTIdx, rList, rAbs, rMax2, rMin2, rIntB, rStrI, DX.rIsi, rIsN, rNotN, DX.rIx, rFrz, rNotV, rAndV, rOrV, rIfE, rSl, rSlT', rSlL', rPt, rNoP, rCatT', rCatL', newL, rCatS, rInD', rIndex', rCall, rSq, rRg1, rRg2, rChain, rYes, rNewK, rNewT, Tg.d, tgsD, wipeD, startD, and_assoc, atI_0, atI_1, atI_2, atI_3, String.reduceEq, Nat.reduceLeDiff, exists_and_left, exists_and_right, resD_int, resD_str, resD_bl, resD_non, resD_tup, resD_lst, resD_ktup, dat_int, dat_str, dat_bl, dat_non, dat_nil, eqv_int, eqv_str, eqv_nil, eqv_tnil, seqD_tup, seqD_lst, seqD_ktup, seqD_klst, resD_klst, seqL_lst, isN_non, isN_int, isN_str, isN_bl, isN_tup, isN_lst, isN_ref, Bool.not_eq_true', Bool.not_eq_true, decide_eq_false_iff_not, Nat.zero_le, List.map, List.length, List.replicate, List.cons_append, List.nil_append, List.getElem?_cons_zero, List.getElem?_cons_succ, List.set_cons_zero, List.set_cons_succ, Nat.sub_self, Nat.reduceAdd, Nat.reduceSub, Option.some.injEq, D.int.injEq, D.ref.injEq, D.bl.injEq, D.str.injEq, D.tup.injEq, D.lst.injEq, List.cons.injEq, and_true, true_and, exists_eq_left, exists_eq_left', exists_eq', exists_eq_right, exists_const, Bool.true_eq_false, Bool.false_eq_true, if_true, if_false, ite_true, ite_false, decide_eq_true_eq]
      exact ⟨by decide, by decide, rr⟩
    · rintro i y ρ h2 hy ⟨a, b, c, d, e, f, j, ps, rfl, st2, cq, lp, qS, qg, pok⟩
      refine ⟨trivial, ?_⟩
      obtain ⟨i2, _⟩ := rgD_get hy
      simp only [rSeq, rCut, rAnd, rOr, rNot, rB, rOp, rDG, rDG2, rDIn, rVar, rC, DX.rEqD, DX.rNeD, rLstF, rLstM, rNil, rCons, rTup, rDP, DX.rLP, rRepL', rRepr, rNeg, rEnum, rDictZip, DX.rSortedSet, rBM, rPop0, DX.rAppend, rIf, rAsg, gN, gT, gsC, gs0, rRet, rDrop, DX.rI, rNext, rCont, rBreak, rCB, DX.rLen, rTuple, rTupleN, rTIdx, rList, rAbs, rMax2, rMin2, rIntB, rStrI, DX.rIsi, rIsN, rNotN, DX.rIx, rFrz, rNotV, rAndV, rOrV, rIfE, rSl, rSlT', rSlL', rPt, rNoP, rCatT', rCatL', newL, rCatS, rInD', rIndex', rCall, rSq, rRg1, rRg2, rChain, rYes, rNewK, rNewT, Tg.d, tgsD, wipeD, startD, and_assoc, atI_0, atI_1, atI_2, atI_3, String.reduceEq, Nat.reduceLeDiff, exists_and_left, exists_and_right, resD_int, resD_str, resD_bl, resD_non, resD_tup, resD_lst, resD_ktup, dat_int, dat_str, dat_bl, dat_non, dat_nil, eqv_int, eqv_str, eqv_nil, eqv_tnil, seqD_tup, seqD_lst, seqD_ktup, seqD_klst, resD_klst, seqL_lst, isN_non, isN_int, isN_str, isN_bl, isN_tup, isN_lst, isN_ref, Bool.not_eq_true', Bool.not_eq_true, decide_eq_false_iff_not, Nat.zero_le, List.map, List.length, List.replicate, List.cons_append, List.nil_append, List.getElem?_cons_zero, List.getElem?_cons_succ, List.set_cons_zero, List.set_cons_succ, Nat.sub_self, Nat.reduceAdd, Nat.reduceSub, Option.some.injEq, D.int.injEq, D.ref.injEq, D.bl.injEq, D.str.injEq, D.tup.injEq, D.lst.injEq, List.cons.injEq, and_true, true_and, exists_eq_left, exists_eq_left', exists_eq', exists_eq_right, exists_const, Bool.true_eq_false, Bool.false_eq_true, if_true, if_false, ite_true, ite_false, decide_eq_true_eq]
      refine ⟨S, g, rfl, st2, fun dd h3 ⟨top, hs, e3, pg⟩ st3 f3 => ?_⟩
      subst e3
      refine ⟨top, hs, rfl, pg, fun fr rows labs h4 fo fa4 => ?_⟩
      have st4 := fa4.st st3
      have f24 : Fr S g h2 h4 := f3.trans fa4.fr
      simp only [flatD, rSeq, rCut, rAnd, rOr, rNot, rB, rOp, rDG, rDG2, rDIn, rVar, rC, DX.rEqD, DX.rNeD, rLstF, rLstM, rNil, rCons, rTup, rDP, DX.rLP, rRepL', rRepr, rNeg, rEnum, rDictZip, DX.rSortedSet, rBM, rPop0, DX.rAppend, rIf, rAsg, gN, gT, gsC, gs0, rRet, rDrop, DX.rI, rNext, rCont, rBreak, rCB, DX.rLen, rTuple, rTupleN, rTIdx, rList, rAbs, rMax2, rMin2, rIntB, rStrI, DX.rIsi, rIsN, rNotN, DX.rIx, rFrz, rNotV, rAndV, rOrV, rIfE, rSl, rSlT', rSlL', rPt, rNoP, rCatT', rCatL', newL, rCatS, rInD', rIndex', rCall, rSq, rRg1, rRg2, rChain, rYes, rNewK, rNewT, Tg.d, tgsD, wipeD, startD, and_assoc, atI_0, atI_1, atI_2, atI_3, String.reduceEq, Nat.reduceLeDiff, exists_and_left, exists_and_right, resD_int, resD_str, resD_bl, resD_non, resD_tup, resD_lst, resD_ktup, dat_int, dat_str, dat_bl, dat_non, dat_nil, eqv_int, eqv_str, eqv_nil, eqv_tnil, seqD_tup, seqD_lst, seqD_ktup, seqD_klst, resD_klst, seqL_lst, isN_non, isN_int, isN_str, isN_bl, isN_tup, isN_lst, isN_ref, Bool.not_eq_true', Bool.not_eq_true, decide_eq_false_iff_not, Nat.zero_le, List.map, List.length, List.replicate, List.cons_append, List.nil_append, List.getElem?_cons_zero, List.getElem?_cons_succ, List.set_cons_zero, List.set_cons_succ, Nat.sub_self, Nat.reduceAdd, Nat.reduceSub, Option.some.injEq, D.int.injEq, D.ref.injEq, D.bl.injEq, D.str.injEq, D.tup.injEq, D.lst.injEq, List.cons.injEq, and_true, true_and, exists_eq_left, exists_eq_left', exists_eq', exists_eq_right, exists_const, Bool.true_eq_false, Bool.false_eq_true, if_true, if_false, ite_true, ite_false, decide_eq_true_eq]
      have cq4 := f24 q _ qS qg cq
      refine ⟨isLst_ref cq4, S, g, top, fr, rows, labs, rfl, fo, st4, fun shs p h5 np cp ls so pS pg' st5 f5 => ?_⟩
      have cq5 := f5 q _ qS qg cq4
      have pq : p ≠ q := fun z => by rw [z, cq4] at np; cases np
      refine ⟨_, cq5, by rw [List.length_map, lp, sizeLine_eq]; omega, ?_⟩
      refine ⟨_, _, _, _, _, _, _, ps ++ [(labs, p)], rfl, st5.upd qS qg, by rw [List.map_append]; exact updD_same, by rw [List.length_append, lp]; rfl, qS, qg, fun r hr => ?_⟩
      rcases List.mem_append.mp hr with z | z
      · obtain ⟨n1, t', fr', shs', P⟩ := pok r z
        exact ⟨n1, t', fr', shs', ⟨by rw [updD_ne n1]; exact f5 _ _ P.pS P.pg (f24 _ _ P.pS P.pg P.c), P.l, P.ll, P.sl, P.so, P.t, P.pS, P.pg⟩⟩
      · rw [List.mem_singleton.mp z]
        exact ⟨pq, top, fr, shs, ⟨by rw [updD_ne pq]; exact cp, fo.lab, by have := fo.len; have := fo.r2; show labs.length ≤ 200000; omega, ls, so, fo.tp, pS, pg'⟩⟩
    · intro ρ h2 z
      exact ⟨trivial, z⟩
  · rintro ρ h2 ⟨a, b, c, d, e, f, j, ps, rfl, st2, cq, lp, qS, qg, pok⟩
    match ps, lp with
    | [p0, p1], _ =>
      obtain ⟨n0, t0, fr0, shs0, P0⟩ := pok p0 (by simp)
      obtain ⟨n1, t1, fr1, shs1, P1⟩ := pok p1 (by simp)
      refine ⟨fun _ _ => True, ?_, ?_⟩
      · refine for_in [pairD p0.1 p0.2, pairD p1.1 p1.2, pairD p0.1 p0.2] (fun _ => True) (fun R rr => ?_) (fun _ ρ h => ∃ (a b c d e f j : Option D), ρ = [some x, some (.ref S), some (.ref q), a, b, c, d, e, f, j] ∧ PairOk h S g t0 fr0 p0.1 shs0 p0.2 ∧ PairOk h S g t1 fr1 p1.1 shs1 p1.2) ⟨_, _, _, _, _, _, _, rfl, P0, P1⟩ ?_ ?_
        · simp only [rSeq, rCut, rAnd, rOr, rNot, rB, rOp, rDG, rDG2, rDIn, rVar, rC, DX.rEqD, DX.rNeD, rLstF, rLstM, rNil, rCons, rTup, rDP, DX.rLP, rRepL', rRepr, rNeg, rEnum, rDictZip, DX.rSortedSet, rBM, rPop0, DX.rAppend, rIf, rAsg, gN, gT, gsC, gs0, rRet, rDrop, DX.rI, rNext, rCont, rBreak, rCB, DX.rLen, rTuple, rTupleN, rTIdx, rList, rAbs, rMax2, rMin2, rIntB, rStrI, DX.rIsi, rIsN, rNotN, DX.rIx, rFrz, rNotV, rAndV, rOrV, rIfE, rSl, rSlT', rSlL', rPt, rNoP, rCatT', rCatL', newL, rCatS, rInD', rIndex', rCall, rSq, rRg1, rRg2, rChain, rYes, rNewK, rNewT, Tg.d, tgsD, wipeD, startD, and_assoc, atI_0, atI_1, atI_2, atI_3, String.reduceEq, Nat.reduceLeDiff, exists_and_left, exists_and_right, resD_int, resD_str, resD_bl, resD_non, resD_tup, resD_lst, resD_ktup, dat_int, dat_str, dat_bl, dat_non, dat_nil, eqv_int, eqv_str, eqv_nil, eqv_tnil, seqD_tup, seqD_lst, seqD_ktup, seqD_klst, resD_klst, seqL_lst, isN_non, isN_int, isN_str, isN_bl, isN_tup, isN_lst, isN_ref, Bool.not_eq_true', Bool.not_eq_true, decide_eq_false_iff_not, Nat.zero_le, List.map, List.length, List.replicate, List.cons_append, List.nil_append, List.getElem?_cons_zero, List.getElem?_cons_succ, List.set_cons_zero, List.set_cons_succ, Nat.sub_self, Nat.reduceAdd, Nat.reduceSub, Option.some.injEq, D.int.injEq, D.ref.injEq, D.bl.injEq, D.str.injEq, D.tup.injEq, D.lst.injEq, List.cons.injEq, and_true, true_and, exists_eq_left, exists_eq_left', exists_eq', exists_eq_right, exists_const, Bool.true_eq_false, Bool.false_eq_true, if_true, if_false, ite_true, ite_false, decide_eq_true_eq]
          exact ⟨_, seqD_ref cq, _, atI_0, _, seqD_ref cq, _, atI_1, _, seqD_ref cq, _, atI_0, rr⟩
        · rintro i y ρ h3 hy ⟨a, b, c, d, e, f, j, rfl, Q0, Q1⟩
          refine ⟨trivial, ?_⟩
          obtain ⟨labs, p, tp, fr, shs, ey, P⟩ : ∃ labs p tp fr shs, y = pairD labs p ∧ PairOk h3 S g tp fr labs shs p := by
            match i, hy with
            | 0, hy => cases hy; exact ⟨_, _, _, _, _, rfl, Q0⟩
            | 1, hy => cases hy; exact ⟨_, _, _, _, _, rfl, Q1⟩
            | 2, hy => cases hy; exact ⟨_, _, _, _, _, rfl, Q0⟩
          subst ey
          simp only [pairD, rSeq, rCut, rAnd, rOr, rNot, rB, rOp, rDG, rDG2, rDIn, rVar, rC, DX.rEqD, DX.rNeD, rLstF, rLstM, rNil, rCons, rTup, rDP, DX.rLP, rRepL', rRepr, rNeg, rEnum, rDictZip, DX.rSortedSet, rBM, rPop0, DX.rAppend, rIf, rAsg, gN, gT, gsC, gs0, rRet, rDrop, DX.rI, rNext, rCont, rBreak, rCB, DX.rLen, rTuple, rTupleN, rTIdx, rList, rAbs, rMax2, rMin2, rIntB, rStrI, DX.rIsi, rIsN, rNotN, DX.rIx, rFrz, rNotV, rAndV, rOrV, rIfE, rSl, rSlT', rSlL', rPt, rNoP, rCatT', rCatL', newL, rCatS, rInD', rIndex', rCall, rSq, rRg1, rRg2, rChain, rYes, rNewK, rNewT, Tg.d, tgsD, wipeD, startD, and_assoc, atI_0, atI_1, atI_2, atI_3, String.reduceEq, Nat.reduceLeDiff, exists_and_left, exists_and_right, resD_int, resD_str, resD_bl, resD_non, resD_tup, resD_lst, resD_ktup, dat_int, dat_str, dat_bl, dat_non, dat_nil, eqv_int, eqv_str, eqv_nil, eqv_tnil, seqD_tup, seqD_lst, seqD_ktup, seqD_klst, resD_klst, seqL_lst, isN_non, isN_int, isN_str, isN_bl, isN_tup, isN_lst, isN_ref, Bool.not_eq_true', Bool.not_eq_true, decide_eq_false_iff_not, Nat.zero_le, List.map, List.length, List.replicate, List.cons_append, List.nil_append, List.getElem?_cons_zero, List.getElem?_cons_succ, List.set_cons_zero, List.set_cons_succ, Nat.sub_self, Nat.reduceAdd, Nat.reduceSub, Option.some.injEq, D.int.injEq, D.ref.injEq, D.bl.injEq, D.str.injEq, D.tup.injEq, D.lst.injEq, List.cons.injEq, and_true, true_and, exists_eq_left, exists_eq_left', exists_eq', exists_eq_right, exists_const, Bool.true_eq_false, Bool.false_eq_true, if_true, if_false, ite_true, ite_false, decide_eq_true_eq]
          refine ⟨_, seqD_ref P.c, fun p1' np1 => ?_⟩
          have sl := P.sl
          have pp1 : p ≠ p1' := fun z => by rw [← z, P.c] at np1; cases np1
          have nw := FrA.new (c := .lst (shs.map Sh.d)) np1
          refine ⟨labs, shs, tp, fr, _, rfl, seqD_ref (nw _ _ P.c), P.l, P.ll, by omega, P.so, fun pd h4 npd cpd f4 => ?_⟩
          have c14 := f4 p1' _ updD_same
          refine ⟨labs, shs, tp, fr, _, rfl, seqD_ref c14, P.l, P.ll, by omega, P.so, fun pf h5 npf cpf f5 => ?_⟩
          have c15 := f5 _ _ c14
          have cd5 := f5 _ _ cpd
          have cp5 := f5 _ _ (f4 _ _ (nw _ _ P.c))
          have pf1 : pf ≠ p1' := fun z => by rw [z, c14] at npf; cases npf
          have pd1 : pd ≠ p1' := fun z => by rw [z, updD_same] at npd; cases npd
          have pfd : pf ≠ pd := fun z => by rw [z, cpd] at npf; cases npf
          have ppf : p ≠ pf := fun z => by rw [← z, f4 _ _ (nw _ _ P.c)] at npf; cases npf
          have f35 : FrA h3 h5 := (nw.trans f4).trans f5
          have npf3 : h3 pf = none := by
            cases z : h3 pf with
            | none => rfl
            | some c => rw [f4 _ _ (nw _ _ z)] at npf; cases npf
          obtain ⟨md, ms, mb⟩ := mom_ok P.l P.so P.t (by omega : shs.length ≤ 14)
          have ml := mom_len labs shs
          refine ⟨"list", "list", rfl, by simp only [tyD, cpf], by decide, ?_⟩
          rw [if_neg (by decide), resD_ref cpf, resD_ref cd5, resD_ref c15, resD_ref cp5]
          refine ⟨trivial, md 55, ms, mb, trivial, md 55, ms, mb, ?_⟩
          rw [if_neg (fun z => z rfl)]
          refine ⟨sh_dat shs, sh_dat shs, ?_⟩
          rw [eqv_refl _ (sh_dat shs), if_neg (by decide)]
          refine ⟨isLst_ref c15, _, c15, by rw [List.length_map, sizeLine_eq]; omega, ?_⟩
          rw [resD_ref (by rw [updD_ne pf1]; exact cpf), resD_ref (by rw [updD_ne pd1]; exact cd5)]
          refine ⟨md 59, md 59, ?_⟩
          rw [eqv_refl _ (md 59), if_neg (by decide)]
          refine ⟨isLst_ref (by rw [updD_ne pf1]; exact cpf), pf, rfl, _, by rw [updD_ne pf1]; exact cpf, by rw [sizeLine_eq]; omega, ?_⟩
          refine ⟨labs, shs, tp, fr, _, rfl, seqD_ref (by rw [updD_ne ppf, updD_ne pp1]; exact cp5), P.l, P.ll, by omega, P.so, fun pg h8 npg cpg f8 => ?_⟩
          have cd8 := f8 pd (.lst (momD labs shs)) (by rw [updD_ne pfd.symm, updD_ne pd1]; exact cd5)
          dsimp only
          rw [resD_ref cpg, resD_ref cd8]
          refine ⟨md 59, md 59, ?_⟩
          rw [eqv_refl _ (md 59), if_neg (by decide)]
          have f38 : FrA h3 h8 := ((f35.upd np1).upd npf3).trans f8
          exact ⟨Q0.frA f38, Q1.frA f38⟩
        · intro ρ h3 z
          exact ⟨trivial, trivial⟩
      · intro ρ h3 _
        refine ⟨[some [(0, 0, [])]], [⟨0, [none], 0, []⟩], 0, 1, _, rfl, rfl, fun l hl => ?_, by decide, by decide, fun s hs => ?_, fun p h4 np cp f4 => ?_⟩
        · rw [List.mem_singleton.mp hl]
          exact fun fs e => by cases e; exact ⟨by decide, fun x hx => by rw [List.mem_singleton.mp hx]; exact ⟨by decide, by decide, by decide, by decide, by decide, fun s hs => by simp at hs⟩⟩
        · rw [List.mem_singleton.mp hs]
          exact ⟨by decide, rfl, fun i hi => by simp at hi, by decide, by decide, by decide, fun i hi => by simp at hi⟩
        · exact ⟨_, seqD_ref cp, k _⟩
end K26

set_option maxRecDepth 100000
set_option maxHeartbeats 4000000
namespace K26
open PySem PySem.Spec PyProof.Rows L2 DX
def DF (K : PySem.W.Frag) (mg : Str → Option Value) (x : Str) (st : Stmt) (ps : List Str) : Prop := ∃ f fd, FunD K x x (defArgs st) (defBody st) (defScope st) [] [] f fd ∧ mg x = some (.ref f) ∧ Binds K fd ps []
structure EnvF (K : PySem.W.Frag) (mg : Str → Option Value) : Prop where
  D_p_moments_of : DF K mg "moments_of" s_p_moments_of P_p_moments_of
  D_begun : DF K mg "_law_begun" s_begun P_begun
  D_take : DF K mg "_law_take" s_take P_take
  D_pick : DF K mg "_law_pick" s_pick P_pick
  D_top : DF K mg "_law_top" s_top P_top
  D_number : DF K mg "_law_number" s_number P_number
  D_reckoning : DF K mg "_law_reckoning" s_reckoning P_reckoning
  D_words : DF K mg "_law_words" s_words P_words
  D_call : DF K mg "_law_call" s_call P_call
  D_row : DF K mg "_law_row" s_row P_row
  D_helper : DF K mg "_law_helper" s_helper P_helper
  D_program : DF K mg "_law_program" s_program P_program
  D_put : DF K mg "_law_put" s_put P_put
  D_cells : DF K mg "_law_cells" s_cells P_cells
  D_names : DF K mg "_law_names" s_names P_names
  D_row_on : DF K mg "_law_row_on" s_row_on P_row_on
  D_lay_call : DF K mg "_law_lay_call" s_lay_call P_lay_call
  D_lay : DF K mg "_law_lay" s_lay P_lay
  D_laid : DF K mg "_law_laid" s_laid P_laid
  D_told_by : DF K mg "_law_told_by" s_told_by P_told_by
  D_showings : DF K mg "_law_showings" s_showings P_showings
  D_p_law : DF K mg "law" s_p_law P_p_law
  b_tuple : mg "tuple" = none
  b_abs : mg "abs" = none
  b_len : mg "len" = none
  b_min : mg "min" = none
  b_range : mg "range" = none
  b_max : mg "max" = none
  b_sorted : mg "sorted" = none
  b_set : mg "set" = none
  b_list : mg "list" = none
  b_isinstance : mg "isinstance" = none
  b_enumerate : mg "enumerate" = none
  b_dict : mg "dict" = none
  b_zip : mg "zip" = none
  b_repr : mg "repr" = none
section
variable {P : Program} {w : World} {K : PySem.W.Frag} {mg : Str → Option Value} {base : Heap}
theorem has_false {x : Str} {st : Stmt} {ps : List Str} {n k : Nat} {dsp : DSp} (D : DF K mg x st ps) (no : ∀ ds h Q E, ¬ dsp ds h Q E) : Has P w K mg base x k n dsp := by
  obtain ⟨f, fd, F, gm, hb⟩ := D
  exact ⟨f, fd, ps, ⟨fun vs H Q E z => (by obtain ⟨F', ds, h, Q', E', _, _, _, q, _⟩ := z; exact (no _ _ _ _ q).elim), fun A outer s H args us vs Q E _ _ _ _ _ z => (by obtain ⟨F', ds, h, Q', E', _, _, _, q, _⟩ := z; exact (no _ _ _ _ q).elim)⟩, gm, F.kp, hb⟩
theorem H_begun (E : EnvF K mg) : Has P w K mg base "_law_begun" 1 1 (sp_begun) := by
  obtain ⟨f, fd, F, gm, hb⟩ := E.D_begun
  exact ⟨f, fd, P_begun, xdef F sc_begun rfl (fun X e1 e2 e3 e4 e5 C hfn => by subst e1 e2 e3 e4 e5; exact d_begun C hfn E.b_abs) (begun_ok) (fun _ _ _ _ z => z), gm, F.kp, hb⟩
theorem H_take (E : EnvF K mg) : Has P w K mg base "_law_take" 1 2 (sp_take) := by
  obtain ⟨f, fd, F, gm, hb⟩ := E.D_take
  exact ⟨f, fd, P_take, xdef F sc_take rfl (fun X e1 e2 e3 e4 e5 C hfn => by subst e1 e2 e3 e4 e5; exact d_take C hfn E.b_len) (take_ok) (fun _ _ _ _ z => z), gm, F.kp, hb⟩
theorem H_pick (E : EnvF K mg) : Has P w K mg base "_law_pick" 2 2 (sp_pick) := by
  obtain ⟨f, fd, F, gm, hb⟩ := E.D_pick
  exact ⟨f, fd, P_pick, xdef F sc_pick rfl (fun X e1 e2 e3 e4 e5 C hfn => by subst e1 e2 e3 e4 e5; exact d_pick C hfn E.b_len (j_take := 1) (by omega) (H_take E)) (pick_ok) (fun _ _ _ _ z => z), gm, F.kp, hb⟩
theorem H_top (E : EnvF K mg) : Has P w K mg base "_law_top" 2 1 (sp_top) := by
  obtain ⟨f, fd, F, gm, hb⟩ := E.D_top
  exact ⟨f, fd, P_top, xdef F sc_top rfl (fun X e1 e2 e3 e4 e5 C hfn => by subst e1 e2 e3 e4 e5; exact d_top C hfn  (j_take := 1) (by omega) (H_take E)) (top_ok) (fun _ _ _ _ z => z), gm, F.kp, hb⟩
theorem H_number (E : EnvF K mg) : Has P w K mg base "_law_number" 2 2 (sp_number) := by
  obtain ⟨f, fd, F, gm, hb⟩ := E.D_number
  exact ⟨f, fd, P_number, xdef F sc_number rfl (fun X e1 e2 e3 e4 e5 C hfn => by subst e1 e2 e3 e4 e5; exact d_number C hfn E.b_min (j_take := 1) (by omega) (H_take E)) (number_ok) (fun _ _ _ _ z => z), gm, F.kp, hb⟩
theorem H_rk (E : EnvF K mg) : ∀ n : Nat, Has P w K mg base "_law_reckoning" (2 + n) 4 (spRk n)
  | 0 => has_false E.D_reckoning fun ds h Q E' z => by obtain ⟨S, g, top, names, k, _, kn, _⟩ := z; omega
  | n + 1 => by
    have ih := H_rk E n
    obtain ⟨f, fd, F, gm, hb⟩ := E.D_reckoning
    exact ⟨f, fd, P_reckoning, xdef (k := 2 + n) F sc_reckoning rfl (fun X e1 e2 e3 e4 e5 C hfn => by subst e1 e2 e3 e4 e5; exact d_reckoning C hfn (j_reckoning := 2 + n) (by omega) ih (j_pick := 2) (by omega) (H_pick E) (j_number := 2) (by omega) (H_number E) (j_take := 1) (by omega) (H_take E)) (reckoning_ok n) (fun _ _ _ _ z => z), gm, F.kp, hb⟩
theorem H_reckoning (E : EnvF K mg) : Has P w K mg base "_law_reckoning" 5 4 sp_reckoning := H_rk E 3
theorem H_words (E : EnvF K mg) : Has P w K mg base "_law_words" 3 1 (sp_words) := by
  obtain ⟨f, fd, F, gm, hb⟩ := E.D_words
  exact ⟨f, fd, P_words, xdef F sc_words rfl (fun X e1 e2 e3 e4 e5 C hfn => by subst e1 e2 e3 e4 e5; exact d_words C hfn  (j_take := 1) (by omega) (H_take E) (j_pick := 2) (by omega) (H_pick E)) (words_ok) (fun _ _ _ _ z => z), gm, F.kp, hb⟩
theorem H_call (E : EnvF K mg) : Has P w K mg base "_law_call" 6 4 (sp_call) := by
  obtain ⟨f, fd, F, gm, hb⟩ := E.D_call
  exact ⟨f, fd, P_call, xdef F sc_call rfl (fun X e1 e2 e3 e4 e5 C hfn => by subst e1 e2 e3 e4 e5; exact d_call C hfn E.b_tuple E.b_range (j_pick := 2) (by omega) (H_pick E) (j_reckoning := 5) (by omega) (H_reckoning E)) (call_ok) (fun _ _ _ _ z => z), gm, F.kp, hb⟩
theorem H_row (E : EnvF K mg) : Has P w K mg base "_law_row" 6 5 (sp_row) := by
  obtain ⟨f, fd, F, gm, hb⟩ := E.D_row
  exact ⟨f, fd, P_row, xdef F sc_row rfl (fun X e1 e2 e3 e4 e5 C hfn => by subst e1 e2 e3 e4 e5; exact d_row C hfn  (j_reckoning := 5) (by omega) (H_reckoning E) (j_pick := 2) (by omega) (H_pick E) (j_take := 1) (by omega) (H_take E)) (row_ok) (fun _ _ _ _ z => z), gm, F.kp, hb⟩
theorem H_helper (E : EnvF K mg) : Has P w K mg base "_law_helper" 7 5 (sp_helper) := by
  obtain ⟨f, fd, F, gm, hb⟩ := E.D_helper
  exact ⟨f, fd, P_helper, xdef F sc_helper rfl (fun X e1 e2 e3 e4 e5 C hfn => by subst e1 e2 e3 e4 e5; exact d_helper C hfn E.b_tuple E.b_len E.b_range E.b_max (j_take := 1) (by omega) (H_take E) (j_reckoning := 5) (by omega) (H_reckoning E) (j_call := 6) (by omega) (H_call E) (j_row := 6) (by omega) (H_row E) (j_words := 3) (by omega) (H_words E)) (helper_ok) (fun _ _ _ _ z => z), gm, F.kp, hb⟩
theorem H_program (E : EnvF K mg) : Has P w K mg base "_law_program" 8 1 (sp_program) := by
  obtain ⟨f, fd, F, gm, hb⟩ := E.D_program
  exact ⟨f, fd, P_program, xdef F sc_program rfl (fun X e1 e2 e3 e4 e5 C hfn => by subst e1 e2 e3 e4 e5; exact d_program C hfn E.b_tuple E.b_len E.b_range (j_helper := 7) (by omega) (H_helper E) (j_take := 1) (by omega) (H_take E) (j_words := 3) (by omega) (H_words E) (j_top := 2) (by omega) (H_top E)) (program_ok) (fun _ _ _ _ z => z), gm, F.kp, hb⟩
theorem H_putN (E : EnvF K mg) : ∀ n : Nat, Has P w K mg base "_law_put" (1 + n) 2 (spPut n)
  | 0 => has_false E.D_put fun ds h Q E' z => by obtain ⟨t, names, top, T, f, _, kn, _⟩ := z; omega
  | n + 1 => by
    have ih := H_putN E n
    obtain ⟨f, fd, F, gm, hb⟩ := E.D_put
    exact ⟨f, fd, P_put, xdef (k := 1 + n) F sc_put rfl (fun X e1 e2 e3 e4 e5 C hfn => by subst e1 e2 e3 e4 e5; exact d_put C hfn (j_put := 1 + n) (by omega) ih) (put_ok n) (fun _ _ _ _ z => z), gm, F.kp, hb⟩
theorem H_put (E : EnvF K mg) : Has P w K mg base "_law_put" 4 2 sp_put := H_putN E 3
theorem H_cellsN (E : EnvF K mg) : ∀ n : Nat, n ≤ 3 → Has P w K mg base "_law_cells" (1 + n) 1 (spCells n)
  | 0, _ => has_false E.D_cells fun ds h Q E' z => by obtain ⟨t, names, top, _, kn, _⟩ := z; omega
  | n + 1, hn => by
    have ih := H_cellsN E n (by omega)
    obtain ⟨f, fd, F, gm, hb⟩ := E.D_cells
    exact ⟨f, fd, P_cells, xdef (k := 1 + n) F sc_cells rfl (fun X e1 e2 e3 e4 e5 C hfn => by subst e1 e2 e3 e4 e5; exact d_cells C hfn (j_cells := 1 + n) (by omega) ih) (cells_ok n (by omega)) (fun _ _ _ _ z => z), gm, F.kp, hb⟩
theorem H_cells (E : EnvF K mg) : Has P w K mg base "_law_cells" 4 1 sp_cells := H_cellsN E 3 (Nat.le_refl _)
theorem H_names (E : EnvF K mg) : Has P w K mg base "_law_names" 5 1 (sp_names) := by
  obtain ⟨f, fd, F, gm, hb⟩ := E.D_names
  exact ⟨f, fd, P_names, xdef F sc_names rfl (fun X e1 e2 e3 e4 e5 C hfn => by subst e1 e2 e3 e4 e5; exact d_names C hfn E.b_sorted E.b_set E.b_list E.b_isinstance E.b_tuple (j_cells := 4) (by omega) (H_cells E)) (names_ok) (fun _ _ _ _ z => z), gm, F.kp, hb⟩
theorem H_row_on (E : EnvF K mg) : Has P w K mg base "_law_row_on" 5 3 (sp_row_on) := by
  obtain ⟨f, fd, F, gm, hb⟩ := E.D_row_on
  exact ⟨f, fd, P_row_on, xdef F sc_row_on rfl (fun X e1 e2 e3 e4 e5 C hfn => by subst e1 e2 e3 e4 e5; exact d_row_on C hfn  (j_put := 4) (by omega) (H_put E)) (row_on_ok) (fun _ _ _ _ z => z), gm, F.kp, hb⟩
theorem lay_all (n : Nat) (ds : List D) (h : DHp) (Q : DQ) (hl : ds.length = 4) (hs : spLay (n + 1) ds h Q (fun _ _ => False)) : rd_lay (spLayCall n) (EN Q) (startD N_lay ds) h := by
  obtain ⟨j, hj, q⟩ := hs
  exact lay_ok j n (by omega) ds h Q hl q
theorem call_all (n : Nat) (ds : List D) (h : DHp) (Q : DQ) (hl : ds.length = 4) (hs : spLayCall n ds h Q (fun _ _ => False)) : rd_lay_call (spLay n) (EN Q) (startD N_lay_call ds) h := by
  obtain ⟨j, hj, q⟩ := hs
  exact lay_call_ok j n hj ds h Q hl q
theorem H_layN (E : EnvF K mg) : ∀ n : Nat, Has P w K mg base "_law_lay" (6 + 2 * n) 4 (spLay n)
  | 0 => has_false E.D_lay fun ds h Q E' z => by obtain ⟨j, kn, _⟩ := z; omega
  | n + 1 => by
    have ih := H_layN E n
    have ihc : Has P w K mg base "_law_lay_call" (6 + 2 * n + 1) 4 (spLayCall n) := by
      obtain ⟨f, fd, F, gm, hb⟩ := E.D_lay_call
      exact ⟨f, fd, P_lay_call, xdef (k := 6 + 2 * n) F sc_lay_call rfl (fun X e1 e2 e3 e4 e5 C hfn => by subst e1 e2 e3 e4 e5; exact d_lay_call C hfn E.b_enumerate E.b_len (j_lay := 6 + 2 * n) (by omega) ih (j_names := 5) (by omega) (H_names E) (j_put := 4) (by omega) (H_put E)) (call_all n) (fun _ _ _ _ z => z), gm, F.kp, hb⟩
    obtain ⟨f, fd, F, gm, hb⟩ := E.D_lay
    exact ⟨f, fd, P_lay, xdef (k := 6 + 2 * n + 1) F sc_lay rfl (fun X e1 e2 e3 e4 e5 C hfn => by subst e1 e2 e3 e4 e5; exact d_lay C hfn E.b_enumerate E.b_len E.b_dict E.b_zip E.b_tuple E.b_range (j_put := 4) (by omega) (H_put E) (j_row_on := 5) (by omega) (H_row_on E) (j_lay_call := 6 + 2 * n + 1) (by omega) ihc (j_names := 5) (by omega) (H_names E)) (lay_all n) (fun _ _ _ _ z => z), gm, F.kp, hb⟩
theorem H_lay (E : EnvF K mg) : Has P w K mg base "_law_lay" 12 4 sp_lay := H_layN E 3
theorem H_laid (E : EnvF K mg) : Has P w K mg base "_law_laid" 13 1 (sp_laid) := by
  obtain ⟨f, fd, F, gm, hb⟩ := E.D_laid
  exact ⟨f, fd, P_laid, xdef F sc_laid rfl (fun X e1 e2 e3 e4 e5 C hfn => by subst e1 e2 e3 e4 e5; exact d_laid C hfn E.b_tuple E.b_max E.b_isinstance E.b_len (j_lay := 12) (by omega) (H_lay E)) (laid_ok) (fun _ _ _ _ z => z), gm, F.kp, hb⟩
theorem H_told_by (E : EnvF K mg) : Has P w K mg base "_law_told_by" 1 2 (sp_told_by) := by
  obtain ⟨f, fd, F, gm, hb⟩ := E.D_told_by
  exact ⟨f, fd, P_told_by, xdef F sc_told_by rfl (fun X e1 e2 e3 e4 e5 C hfn => by subst e1 e2 e3 e4 e5; exact d_told_by C hfn E.b_tuple) (told_by_ok) (fun _ _ _ _ z => z), gm, F.kp, hb⟩
theorem H_p_moments_of (E : EnvF K mg) : Has P w K mg base "moments_of" 1 2 (sp_p_moments_of) := by
  obtain ⟨f, fd, F, gm, hb⟩ := E.D_p_moments_of
  exact ⟨f, fd, P_p_moments_of, xdef F sc_p_moments_of rfl (fun X e1 e2 e3 e4 e5 C hfn => by subst e1 e2 e3 e4 e5; exact d_p_moments_of C hfn E.b_tuple) (moments_ok) (fun _ _ _ _ z => z), gm, F.kp, hb⟩
theorem H_showings (E : EnvF K mg) : Has P w K mg base "_law_showings" 3 2 (sp_showings) := by
  obtain ⟨f, fd, F, gm, hb⟩ := E.D_showings
  exact ⟨f, fd, P_showings, xdef F sc_showings rfl (fun X e1 e2 e3 e4 e5 C hfn => by subst e1 e2 e3 e4 e5; exact d_showings C hfn E.b_range E.b_tuple E.b_len (j_take := 1) (by omega) (H_take E) (j_number := 2) (by omega) (H_number E) (j_pick := 2) (by omega) (H_pick E)) (showings_ok) (fun _ _ _ _ z => z), gm, F.kp, hb⟩
theorem H_p_law (E : EnvF K mg) : Has P w K mg base "law" 14 1 (spLaw 63) := by
  obtain ⟨f, fd, F, gm, hb⟩ := E.D_p_law
  exact ⟨f, fd, P_p_law, xdef F sc_p_law rfl (fun X e1 e2 e3 e4 e5 C hfn => by subst e1 e2 e3 e4 e5; exact d_p_law C hfn E.b_len E.b_repr E.b_isinstance E.b_list E.b_range (j_p_moments_of := 1) (by omega) (H_p_moments_of E) (j_told_by := 1) (by omega) (H_told_by E) (j_showings := 3) (by omega) (H_showings E) (j_program := 8) (by omega) (H_program E) (j_laid := 13) (by omega) (H_laid E) (j_begun := 1) (by omega) (H_begun E)) (law_ok) (fun _ _ _ _ z => z), gm, F.kp, hb⟩
end
/-! ### the head -/
def dd_p_moments_of : He.DefD := ⟨("moments_of", none), "moments_of", "moments_of", defArgs s_p_moments_of, defBody s_p_moments_of, defScope s_p_moments_of, [], []⟩
def dd_begun : He.DefD := ⟨("_law_begun", none), "_law_begun", "_law_begun", defArgs s_begun, defBody s_begun, defScope s_begun, [], []⟩
def dd_take : He.DefD := ⟨("_law_take", none), "_law_take", "_law_take", defArgs s_take, defBody s_take, defScope s_take, [], []⟩
def dd_pick : He.DefD := ⟨("_law_pick", none), "_law_pick", "_law_pick", defArgs s_pick, defBody s_pick, defScope s_pick, [], []⟩
def dd_top : He.DefD := ⟨("_law_top", none), "_law_top", "_law_top", defArgs s_top, defBody s_top, defScope s_top, [], []⟩
def dd_number : He.DefD := ⟨("_law_number", none), "_law_number", "_law_number", defArgs s_number, defBody s_number, defScope s_number, [], []⟩
def dd_reckoning : He.DefD := ⟨("_law_reckoning", none), "_law_reckoning", "_law_reckoning", defArgs s_reckoning, defBody s_reckoning, defScope s_reckoning, [], []⟩
def dd_words : He.DefD := ⟨("_law_words", none), "_law_words", "_law_words", defArgs s_words, defBody s_words, defScope s_words, [], []⟩
def dd_call : He.DefD := ⟨("_law_call", none), "_law_call", "_law_call", defArgs s_call, defBody s_call, defScope s_call, [], []⟩
def dd_row : He.DefD := ⟨("_law_row", none), "_law_row", "_law_row", defArgs s_row, defBody s_row, defScope s_row, [], []⟩
def dd_helper : He.DefD := ⟨("_law_helper", none), "_law_helper", "_law_helper", defArgs s_helper, defBody s_helper, defScope s_helper, [], []⟩
def dd_program : He.DefD := ⟨("_law_program", none), "_law_program", "_law_program", defArgs s_program, defBody s_program, defScope s_program, [], []⟩
def dd_put : He.DefD := ⟨("_law_put", none), "_law_put", "_law_put", defArgs s_put, defBody s_put, defScope s_put, [], []⟩
def dd_cells : He.DefD := ⟨("_law_cells", none), "_law_cells", "_law_cells", defArgs s_cells, defBody s_cells, defScope s_cells, [], []⟩
def dd_names : He.DefD := ⟨("_law_names", none), "_law_names", "_law_names", defArgs s_names, defBody s_names, defScope s_names, [], []⟩
def dd_row_on : He.DefD := ⟨("_law_row_on", none), "_law_row_on", "_law_row_on", defArgs s_row_on, defBody s_row_on, defScope s_row_on, [], []⟩
def dd_lay_call : He.DefD := ⟨("_law_lay_call", none), "_law_lay_call", "_law_lay_call", defArgs s_lay_call, defBody s_lay_call, defScope s_lay_call, [], []⟩
def dd_lay : He.DefD := ⟨("_law_lay", none), "_law_lay", "_law_lay", defArgs s_lay, defBody s_lay, defScope s_lay, [], []⟩
def dd_laid : He.DefD := ⟨("_law_laid", none), "_law_laid", "_law_laid", defArgs s_laid, defBody s_laid, defScope s_laid, [], []⟩
def dd_told_by : He.DefD := ⟨("_law_told_by", none), "_law_told_by", "_law_told_by", defArgs s_told_by, defBody s_told_by, defScope s_told_by, [], []⟩
def dd_showings : He.DefD := ⟨("_law_showings", none), "_law_showings", "_law_showings", defArgs s_showings, defBody s_showings, defScope s_showings, [], []⟩
def dd_p_law : He.DefD := ⟨("law", none), "law", "law", defArgs s_p_law, defBody s_p_law, defScope s_p_law, [], []⟩
def fnL : List He.DefD := [dd_p_moments_of, dd_begun, dd_take, dd_pick, dd_top, dd_number, dd_reckoning, dd_words, dd_call, dd_row, dd_helper, dd_program, dd_put, dd_cells, dd_names, dd_row_on, dd_lay_call, dd_lay, dd_laid, dd_told_by, dd_showings, dd_p_law]
def faL : List He.Fa := [.glo "moments_of", .glo "_law_begun", .glo "_law_take", .glo "_law_pick", .glo "_law_top", .glo "_law_number", .glo "_law_reckoning", .glo "_law_words", .glo "_law_call", .glo "_law_row", .glo "_law_helper", .glo "_law_program", .glo "_law_put", .glo "_law_cells", .glo "_law_names", .glo "_law_row_on", .glo "_law_lay_call", .glo "_law_lay", .glo "_law_laid", .glo "_law_told_by", .glo "_law_showings", .glo "law", .free "tuple", .free "abs", .free "len", .free "min", .free "range", .free "max", .free "sorted", .free "set", .free "list", .free "isinstance", .free "enumerate", .free "dict", .free "zip", .free "repr"]
theorem envF {K : PySem.W.Frag} {h : Heap} {mg : Str → Option Value} (X : K.In h) (G : h.Ns mainGlobals mg) (c : He.SaysD faL fnL K) : EnvF K mg where
  D_p_moments_of := by
    obtain ⟨fd, F⟩ := c.def_ 0 (d := dd_p_moments_of) rfl
    exact ⟨_, fd, F, He.glo_ok X G (c.fact 0 (f := .glo "moments_of") rfl), F.bindsN fun _ _ _ _ _ _ us hl => match us, hl with | [_, _], _ => rfl⟩
  D_begun := by
    obtain ⟨fd, F⟩ := c.def_ 1 (d := dd_begun) rfl
    exact ⟨_, fd, F, He.glo_ok X G (c.fact 1 (f := .glo "_law_begun") rfl), F.bindsN fun _ _ _ _ _ _ us hl => match us, hl with | [_], _ => rfl⟩
  D_take := by
    obtain ⟨fd, F⟩ := c.def_ 2 (d := dd_take) rfl
    exact ⟨_, fd, F, He.glo_ok X G (c.fact 2 (f := .glo "_law_take") rfl), F.bindsN fun _ _ _ _ _ _ us hl => match us, hl with | [_, _], _ => rfl⟩
  D_pick := by
    obtain ⟨fd, F⟩ := c.def_ 3 (d := dd_pick) rfl
    exact ⟨_, fd, F, He.glo_ok X G (c.fact 3 (f := .glo "_law_pick") rfl), F.bindsN fun _ _ _ _ _ _ us hl => match us, hl with | [_, _], _ => rfl⟩
  D_top := by
    obtain ⟨fd, F⟩ := c.def_ 4 (d := dd_top) rfl
    exact ⟨_, fd, F, He.glo_ok X G (c.fact 4 (f := .glo "_law_top") rfl), F.bindsN fun _ _ _ _ _ _ us hl => match us, hl with | [_], _ => rfl⟩
  D_number := by
    obtain ⟨fd, F⟩ := c.def_ 5 (d := dd_number) rfl
    exact ⟨_, fd, F, He.glo_ok X G (c.fact 5 (f := .glo "_law_number") rfl), F.bindsN fun _ _ _ _ _ _ us hl => match us, hl with | [_, _], _ => rfl⟩
  D_reckoning := by
    obtain ⟨fd, F⟩ := c.def_ 6 (d := dd_reckoning) rfl
    exact ⟨_, fd, F, He.glo_ok X G (c.fact 6 (f := .glo "_law_reckoning") rfl), F.bindsN fun _ _ _ _ _ _ us hl => match us, hl with | [_, _, _, _], _ => rfl⟩
  D_words := by
    obtain ⟨fd, F⟩ := c.def_ 7 (d := dd_words) rfl
    exact ⟨_, fd, F, He.glo_ok X G (c.fact 7 (f := .glo "_law_words") rfl), F.bindsN fun _ _ _ _ _ _ us hl => match us, hl with | [_], _ => rfl⟩
  D_call := by
    obtain ⟨fd, F⟩ := c.def_ 8 (d := dd_call) rfl
    exact ⟨_, fd, F, He.glo_ok X G (c.fact 8 (f := .glo "_law_call") rfl), F.bindsN fun _ _ _ _ _ _ us hl => match us, hl with | [_, _, _, _], _ => rfl⟩
  D_row := by
    obtain ⟨fd, F⟩ := c.def_ 9 (d := dd_row) rfl
    exact ⟨_, fd, F, He.glo_ok X G (c.fact 9 (f := .glo "_law_row") rfl), F.bindsN fun _ _ _ _ _ _ us hl => match us, hl with | [_, _, _, _, _], _ => rfl⟩
  D_helper := by
    obtain ⟨fd, F⟩ := c.def_ 10 (d := dd_helper) rfl
    exact ⟨_, fd, F, He.glo_ok X G (c.fact 10 (f := .glo "_law_helper") rfl), F.bindsN fun _ _ _ _ _ _ us hl => match us, hl with | [_, _, _, _, _], _ => rfl⟩
  D_program := by
    obtain ⟨fd, F⟩ := c.def_ 11 (d := dd_program) rfl
    exact ⟨_, fd, F, He.glo_ok X G (c.fact 11 (f := .glo "_law_program") rfl), F.bindsN fun _ _ _ _ _ _ us hl => match us, hl with | [_], _ => rfl⟩
  D_put := by
    obtain ⟨fd, F⟩ := c.def_ 12 (d := dd_put) rfl
    exact ⟨_, fd, F, He.glo_ok X G (c.fact 12 (f := .glo "_law_put") rfl), F.bindsN fun _ _ _ _ _ _ us hl => match us, hl with | [_, _], _ => rfl⟩
  D_cells := by
    obtain ⟨fd, F⟩ := c.def_ 13 (d := dd_cells) rfl
    exact ⟨_, fd, F, He.glo_ok X G (c.fact 13 (f := .glo "_law_cells") rfl), F.bindsN fun _ _ _ _ _ _ us hl => match us, hl with | [_], _ => rfl⟩
  D_names := by
    obtain ⟨fd, F⟩ := c.def_ 14 (d := dd_names) rfl
    exact ⟨_, fd, F, He.glo_ok X G (c.fact 14 (f := .glo "_law_names") rfl), F.bindsN fun _ _ _ _ _ _ us hl => match us, hl with | [_], _ => rfl⟩
  D_row_on := by
    obtain ⟨fd, F⟩ := c.def_ 15 (d := dd_row_on) rfl
    exact ⟨_, fd, F, He.glo_ok X G (c.fact 15 (f := .glo "_law_row_on") rfl), F.bindsN fun _ _ _ _ _ _ us hl => match us, hl with | [_, _, _], _ => rfl⟩
  D_lay_call := by
    obtain ⟨fd, F⟩ := c.def_ 16 (d := dd_lay_call) rfl
    exact ⟨_, fd, F, He.glo_ok X G (c.fact 16 (f := .glo "_law_lay_call") rfl), F.bindsN fun _ _ _ _ _ _ us hl => match us, hl with | [_, _, _, _], _ => rfl⟩
  D_lay := by
    obtain ⟨fd, F⟩ := c.def_ 17 (d := dd_lay) rfl
    exact ⟨_, fd, F, He.glo_ok X G (c.fact 17 (f := .glo "_law_lay") rfl), F.bindsN fun _ _ _ _ _ _ us hl => match us, hl with | [_, _, _, _], _ => rfl⟩
  D_laid := by
    obtain ⟨fd, F⟩ := c.def_ 18 (d := dd_laid) rfl
    exact ⟨_, fd, F, He.glo_ok X G (c.fact 18 (f := .glo "_law_laid") rfl), F.bindsN fun _ _ _ _ _ _ us hl => match us, hl with | [_], _ => rfl⟩
  D_told_by := by
    obtain ⟨fd, F⟩ := c.def_ 19 (d := dd_told_by) rfl
    exact ⟨_, fd, F, He.glo_ok X G (c.fact 19 (f := .glo "_law_told_by") rfl), F.bindsN fun _ _ _ _ _ _ us hl => match us, hl with | [_, _], _ => rfl⟩
  D_showings := by
    obtain ⟨fd, F⟩ := c.def_ 20 (d := dd_showings) rfl
    exact ⟨_, fd, F, He.glo_ok X G (c.fact 20 (f := .glo "_law_showings") rfl), F.bindsN fun _ _ _ _ _ _ us hl => match us, hl with | [_, _], _ => rfl⟩
  D_p_law := by
    obtain ⟨fd, F⟩ := c.def_ 21 (d := dd_p_law) rfl
    exact ⟨_, fd, F, He.glo_ok X G (c.fact 21 (f := .glo "law") rfl), F.bindsN fun _ _ _ _ _ _ us hl => match us, hl with | [_], _ => rfl⟩
  b_tuple := He.free_ok X G (c.fact 22 (f := .free "tuple") rfl)
  b_abs := He.free_ok X G (c.fact 23 (f := .free "abs") rfl)
  b_len := He.free_ok X G (c.fact 24 (f := .free "len") rfl)
  b_min := He.free_ok X G (c.fact 25 (f := .free "min") rfl)
  b_range := He.free_ok X G (c.fact 26 (f := .free "range") rfl)
  b_max := He.free_ok X G (c.fact 27 (f := .free "max") rfl)
  b_sorted := He.free_ok X G (c.fact 28 (f := .free "sorted") rfl)
  b_set := He.free_ok X G (c.fact 29 (f := .free "set") rfl)
  b_list := He.free_ok X G (c.fact 30 (f := .free "list") rfl)
  b_isinstance := He.free_ok X G (c.fact 31 (f := .free "isinstance") rfl)
  b_enumerate := He.free_ok X G (c.fact 32 (f := .free "enumerate") rfl)
  b_dict := He.free_ok X G (c.fact 33 (f := .free "dict") rfl)
  b_zip := He.free_ok X G (c.fact 34 (f := .free "zip") rfl)
  b_repr := He.free_ok X G (c.fact 35 (f := .free "repr") rfl)
end K26

set_option maxRecDepth 100000
set_option maxHeartbeats 0
namespace K26
open PySem PySem.Spec PyProof.Rows L2 DX
abbrev R : PySem.W.OpenRow := PySem.W.OpenLaw.row PySem.Challenge.rw_askthrough_k26_showings_as_moments
abbrev hk : PySem.W.Hook := He.hookD 4 faL fnL
def ob (s : PySem.W.SharedT) : He.AlD := He.obsDG 4 faL fnL (HandSHeadRun.getT s)
theorem ob_eq (s : PySem.W.SharedT) : ob s = hk.obs s.abs := He.obsDG_eq (HandSHeadRun.getT_eq s)
theorem run (w : World) : HandSHeadRun.RunEq R (PySem.W.view R.prog [23]) hk ob 4000 ["moments_of", "_law_begun", "_law_take", "_law_pick", "_law_top", "_law_number", "_law_reckoning", "_law_words", "_law_call", "_law_row", "_law_helper", "_law_program", "_law_put", "_law_cells", "_law_names", "_law_row_on", "_law_lay_call", "_law_lay", "_law_laid", "_law_told_by", "_law_showings"] w := by
  intro os
  kernel_rfl
theorem law_fn {P : Program} {w : World} {K : PySem.W.Frag} {mg : Str → Option Value} {base : Heap} {f : Addr} {fd : FuncData} (E : EnvF K mg) (F : FunD K "law" "law" (defArgs s_p_law) (defBody s_p_law) (defScope s_p_law) [] [] f fd) : FnG P w K mg base CX0 14 f fd ["_law_script"] (spD K 1 (spLaw 63)) :=
  xdef F sc_p_law rfl (fun X e1 e2 e3 e4 e5 C hfn => by subst e1 e2 e3 e4 e5; exact d_p_law C hfn E.b_len E.b_repr E.b_isinstance E.b_list E.b_range (j_p_moments_of := 1) (by omega) (H_p_moments_of E) (j_told_by := 1) (by omega) (H_told_by E) (j_showings := 3) (by omega) (H_showings E) (j_program := 8) (by omega) (H_program E) (j_laid := 13) (by omega) (H_laid E) (j_begun := 1) (by omega) (H_begun E)) (law_ok) (fun _ _ _ _ z => z)
theorem facts {P : Program} {w : World} {K : PySem.W.Frag} {h : Heap} {mg : Str → Option Value} {f : Addr} (X : K.In h) (G : h.Ns mainGlobals mg) (hfa : mg ("law" : Str) = some (.ref f)) (c : He.SaysD faL fnL K) :
    ∃ fd : FuncData, (∀ (s : Shared) (v : Value), BindsTo s fd ⟨[v], []⟩ [("_law_script", v)]) ∧ ∀ base : Heap, K.In base → base.Ns mainGlobals mg → FnG P w K mg base CX0 14 f fd ["_law_script"] (spD K 1 (spLaw 63)) := by
  have E := envF X G c
  obtain ⟨fd0, F0⟩ := c.def_ 21 (d := dd_p_law) rfl
  have e := hfa.symm.trans (He.glo_ok X G (c.fact 21 (f := .glo "law") rfl))
  cases e
  have b := FunD.bindsA (ps := ["_law_script"]) F0 fun _ _ _ _ _ _ us hl => match us, hl with | [_], _ => rfl
  refine ⟨fd0, fun s v => b s [v] rfl, fun base _ _ => ?_⟩
  exact law_fn E F0
end K26
open PySem PySem.W PySem.Calls PyProof.Rows
theorem PySem.Challenge.cw_askthrough_k26_showings_as_moments_holds : PySem.Challenge.rw_askthrough_k26_showings_as_moments.Holds := by
  w_on; o_law
  refine HandSHeadRun.head_any (r := OpenLaw.row PySem.Challenge.rw_askthrough_k26_showings_as_moments) (q := view (OpenLaw.row PySem.Challenge.rw_askthrough_k26_showings_as_moments).prog [23]) (H := K26.hk) (ob := K26.ob) (M := 4000) (loose := ["moments_of", "_law_begun", "_law_take", "_law_pick", "_law_top", "_law_number", "_law_reckoning", "_law_words", "_law_call", "_law_row", "_law_helper", "_law_program", "_law_put", "_law_cells", "_law_names", "_law_row_on", "_law_lay_call", "_law_lay", "_law_laid", "_law_told_by", "_law_showings"]) (d := HandSHeadRun.topDef (OpenLaw.row PySem.Challenge.rw_askthrough_k26_showings_as_moments).prog 23) (kwd := []) K26.ob_eq
    (by kernel_rfl) (fun s => by kernel_rfl) K26.run (by kernel_rfl) (by kernel_rfl) (by kernel_rfl) (by rfl) (by first | assumption | decide +kernel) (by decide +kernel) ⟨rfl, rfl, rfl, rfl, rfl, by decide +kernel⟩ ?hw ?hc
  case hw => w_witness2
  case hc =>
    refine DX.walkG (l := PySem.Challenge.rw_askthrough_k26_showings_as_moments) (n := 63) (k := 14) (x := "_law_script") rfl (by decide) (by kernel_rfl) ⟨rfl, by decide, by decide⟩ ?F
    intro w mg fa h Y G hmg0
    obtain ⟨K, KX, c⟩ := Y
    have hmg : mg ("law" : PySem.Str) = some (.ref fa) := by
      have e : (HandSHeadRun.topDef (OpenLaw.row PySem.Challenge.rw_askthrough_k26_showings_as_moments).prog 23).name = ("law" : PySem.Str) := by kernel_rfl
      rw [← e]
      exact hmg0
    obtain ⟨fd, hb, hF⟩ := K26.facts (P := (PySem.Challenge.rw_askthrough_k26_showings_as_moments).prog) (w := w) KX G hmg c
    exact ⟨K, fd, KX, hb, hF⟩

