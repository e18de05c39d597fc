import PyProof.Rows.All
import Wide.All
import OpenK.AllK
import Wide.FinOn
import HandS.ForMost
import HandS.ForExc
import HandS.TryMany
import HandS.CallSlots
import HandS.Defaults
import HandS.HeadHook4
import HandS.TupAny
import HandS.TupLe
import HandS.IsInst
import HandS.Deep
import HandS.Style
import HandS.Conv
import HandS.SortInts
import HandS.SetFor
import HandS.EndBits
import HandS.Head2
import HandS.Small
import HandS.Strs
import HandS.Flow
import HandS.SortOrd
import HandS.Iter
import KE.GoesEnum
import HandS.DictTup
import HandS.Text
import HandS.StrMore
import PySem.Challenge.RW_heldturns_k19_whole_how_many
set_option Elab.async false
set_option linter.all false
set_option maxRecDepth 100000
set_option maxHeartbeats 2000000
/-! M1: a functional layer: what a def computes, as a function of plain data, over the hand layer. Own work. -/
namespace M
open PySem PySem.Spec PyProof.Rows L2

abbrev Frag := PySem.W.Frag
abbrev Path := List Nat
/-- how an address is held: frozen data, owned by a path, or none of ours -/
inductive Mk where
  | out | frz | own (p : Path)
abbrev Own := Addr → Mk
def setW (W : Own) (a : Addr) (m : Mk) : Own := fun b => if b = a then m else W b
theorem setW_same {W : Own} {a : Addr} {m : Mk} : setW W a m a = m := by unfold setW; rw [if_pos rfl]
theorem setW_ne {W : Own} {a b : Addr} {m : Mk} (h : b ≠ a) : setW W a m b = W b := by unfold setW; rw [if_neg h]

/-! ### data in the heap -/
/-- a tuple of the written part -/
def KT (K : Frag) (a : Addr) (xs : List V) : Prop := ∃ (o : Obj) (its : Array Value) (n : Nat), K.lookup a = some o ∧ o.cls = .type "tuple" ∧ o.data = .seq its n ∧ its.size ≤ sizeLine ∧ Vals xs its.toList
/-- a frozen list, tuple -/
def FrL (K : Frag) (W : Own) (H : Hp) (a : Addr) (xs : List V) : Prop := W a = .frz ∧ Rd H a (.lst xs)
def FrT (K : Frag) (W : Own) (H : Hp) (a : Addr) (xs : List V) : Prop := (W a = .frz ∧ Rd H a (.tup xs)) ∨ KT K a xs
theorem FrL.sq {K : Frag} {W : Own} {H : Hp} {a : Addr} {xs : List V} (h : FrL K W H a xs) : SqL K H a xs := .inl h.2
theorem FrT.sq {K : Frag} {W : Own} {H : Hp} {a : Addr} {xs : List V} (h : FrT K W H a xs) : SqT K H a xs := h.elim (fun h => .inl h.2) .inr

mutual
/-- v is the frozen datum d -/
inductive Rp (K : Frag) (W : Own) (H : Hp) : V → PyData → Prop
  | non : Rp K W H .non .none
  | bl {b : Bool} : Rp K W H (.bl b) (.bool b)
  | int {i : Int} : Rp K W H (.int i) (.int i)
  | str {x : Str} : Rp K W H (.str x) (.str x)
  | lst {a : Addr} {xs : List V} {ds : List PyData} : FrL K W H a xs → RpAll K W H xs ds → Rp K W H (.ref a) (.list ds)
  | tup {a : Addr} {xs : List V} {ds : List PyData} : FrT K W H a xs → RpAll K W H xs ds → Rp K W H (.ref a) (.tuple ds)
inductive RpAll (K : Frag) (W : Own) (H : Hp) : List V → List PyData → Prop
  | nil : RpAll K W H [] []
  | cons {v : V} {vs : List V} {d : PyData} {ds : List PyData} : Rp K W H v d → RpAll K W H vs ds → RpAll K W H (v :: vs) (d :: ds)
end
/-- the frozen stays -/
def Fz (W : Own) (H : Hp) (W' : Own) (H' : Hp) : Prop := ∀ a o, H a = some o → W a = .frz → W' a = .frz ∧ H' a = some o
theorem Fz.refl {W : Own} {H : Hp} : Fz W H W H := fun _ _ h w => ⟨w, h⟩
theorem Fz.trans {W W1 W2 : Own} {H H1 H2 : Hp} (a : Fz W H W1 H1) (b : Fz W1 H1 W2 H2) : Fz W H W2 H2 := fun x o h w =>
  let ⟨w1, h1⟩ := a x o h w
  b x o h1 w1
theorem FrL.fz {K : Frag} {W W' : Own} {H H' : Hp} {a : Addr} {xs : List V} (f : Fz W H W' H') (h : FrL K W H a xs) : FrL K W' H' a xs := by
  rcases h with ⟨w, h | ⟨o, h⟩⟩
  · exact ⟨(f _ _ h w).1, .inl (f _ _ h w).2⟩
  · exact ⟨(f _ _ h w).1, .inr ⟨o, (f _ _ h w).2⟩⟩
theorem FrT.fz {K : Frag} {W W' : Own} {H H' : Hp} {a : Addr} {xs : List V} (f : Fz W H W' H') (h : FrT K W H a xs) : FrT K W' H' a xs := by
  rcases h with ⟨w, h | ⟨o, h⟩⟩ | h
  · exact .inl ⟨(f _ _ h w).1, .inl (f _ _ h w).2⟩
  · exact .inl ⟨(f _ _ h w).1, .inr ⟨o, (f _ _ h w).2⟩⟩
  · exact .inr h
section
variable {K : Frag} {W W' : Own} {H H' : Hp}
mutual
theorem Rp.fz (f : Fz W H W' H') : ∀ (d : PyData) {v : V}, Rp K W H v d → Rp K W' H' v d
  | .none, _, h => by cases h; exact .non
  | .bool _, _, h => by cases h; exact .bl
  | .int _, _, h => by cases h; exact .int
  | .str _, _, h => by cases h; exact .str
  | .list ds, _, h => by cases h with | lst a b => exact .lst (a.fz f) (RpAll.fz f ds b)
  | .tuple ds, _, h => by cases h with | tup a b => exact .tup (a.fz f) (RpAll.fz f ds b)
  | .dict _, _, h => by cases h
theorem RpAll.fz (f : Fz W H W' H') : ∀ (ds : List PyData) {vs : List V}, RpAll K W H vs ds → RpAll K W' H' vs ds
  | [], _, h => by cases h; exact .nil
  | d :: ds, _, h => by cases h with | cons a b => exact .cons (Rp.fz f d a) (RpAll.fz f ds b)
end
mutual
theorem Rp.dp : ∀ (d : PyData) {v : V}, Rp K W H v d → Dp K H v d
  | .none, _, h => by cases h; exact .non
  | .bool _, _, h => by cases h; exact .bl _
  | .int _, _, h => by cases h; exact .int _
  | .str _, _, h => by cases h; exact .str _
  | .list ds, _, h => by cases h with | lst a b => exact .lst a.sq (RpAll.dp ds b)
  | .tuple ds, _, h => by cases h with | tup a b => exact .tup a.sq (RpAll.dp ds b)
  | .dict _, _, h => by cases h
theorem RpAll.dp : ∀ (ds : List PyData) {vs : List V}, RpAll K W H vs ds → DpAll K H vs ds
  | [], _, h => by cases h; exact .nil
  | d :: ds, _, h => by cases h with | cons a b => exact .cons (Rp.dp d a) (RpAll.dp ds b)
end
theorem RpAll.len : ∀ {ds : List PyData} {vs : List V}, RpAll K W H vs ds → vs.length = ds.length
  | [], _, h => by cases h; rfl
  | d :: ds, _, h => by cases h with | cons a b => simp [b.len]
theorem RpAll.get : ∀ {ds : List PyData} {vs : List V} {i : Nat} {d : PyData}, RpAll K W H vs ds → ds[i]? = some d → ∃ v, vs[i]? = some v ∧ Rp K W H v d
  | [], _, _, _, h, e => by simp at e
  | d :: ds, _, 0, _, h, e => by
    cases h with
    | cons a b =>
      simp at e; subst e
      exact ⟨_, rfl, a⟩
  | d :: ds, _, i + 1, _, h, e => by
    cases h with
    | cons a b =>
      obtain ⟨v, h1, h2⟩ := b.get (i := i) (by simpa using e)
      exact ⟨v, by simpa using h1, h2⟩
theorem RpAll.getV : ∀ {ds : List PyData} {vs : List V} {i : Nat} {v : V}, RpAll K W H vs ds → vs[i]? = some v → ∃ d, ds[i]? = some d ∧ Rp K W H v d
  | [], _, _, _, h, e => by cases h; simp at e
  | d :: ds, _, 0, _, h, e => by
    cases h with
    | cons a b =>
      simp at e; subst e
      exact ⟨_, rfl, a⟩
  | d :: ds, _, i + 1, _, h, e => by
    cases h with
    | cons a b =>
      obtain ⟨v, h1, h2⟩ := b.getV (i := i) (by simpa using e)
      exact ⟨v, by simpa using h1, h2⟩
theorem RpAll.app : ∀ {ds es : List PyData} {vs us : List V}, RpAll K W H vs ds → RpAll K W H us es → RpAll K W H (vs ++ us) (ds ++ es)
  | [], _, _, _, h, h' => by cases h; exact h'
  | d :: ds, _, _, _, h, h' => by cases h with | cons a b => exact .cons a (b.app h')
theorem RpAll.one {v : V} {d : PyData} (h : Rp K W H v d) : RpAll K W H [v] [d] := .cons h .nil
theorem RpAll.take : ∀ (n : Nat) {ds : List PyData} {vs : List V}, RpAll K W H vs ds → RpAll K W H (vs.take n) (ds.take n)
  | 0, _, _, _ => by simp; exact .nil
  | n + 1, [], _, h => by cases h; exact .nil
  | n + 1, d :: ds, _, h => by cases h with | cons a b => exact .cons a (b.take n)
theorem RpAll.drop : ∀ (n : Nat) {ds : List PyData} {vs : List V}, RpAll K W H vs ds → RpAll K W H (vs.drop n) (ds.drop n)
  | 0, _, _, h => by simpa using h
  | n + 1, [], _, h => by cases h; exact .nil
  | n + 1, d :: ds, _, h => by cases h with | cons a b => simpa using b.drop n
theorem RpAll.rev : ∀ {ds : List PyData} {vs : List V}, RpAll K W H vs ds → RpAll K W H vs.reverse ds.reverse
  | [], _, h => by cases h; exact .nil
  | d :: ds, _, h => by cases h with | cons a b => simpa using b.rev.app (.one a)
theorem RpAll.set {v : V} {d : PyData} (hv : Rp K W H v d) : ∀ (i : Nat) {ds : List PyData} {vs : List V}, RpAll K W H vs ds → RpAll K W H (vs.set i v) (ds.set i d)
  | _, [], _, h => by cases h; exact .nil
  | 0, _ :: _, _, h => by cases h with | cons a b => exact .cons hv b
  | i + 1, _ :: _, _, h => by cases h with | cons a b => exact .cons a (b.set hv i)
theorem RpAll.eraseIdx : ∀ (i : Nat) {ds : List PyData} {vs : List V}, RpAll K W H vs ds → RpAll K W H (vs.eraseIdx i) (ds.eraseIdx i)
  | _, [], _, h => by cases h; exact .nil
  | 0, _ :: _, _, h => by cases h with | cons a b => exact b
  | i + 1, _ :: _, _, h => by cases h with | cons a b => exact .cons a (b.eraseIdx i)
end

/-! ### trees: what is owned -/
inductive MV where
  | d (x : PyData)
  | lst (ds : List PyData)
  | dic (kvs : List (Key × PyData))
  | obj (c : Str) (fs : List (Str × MV))
  | rcd (fs : List (Str × MV))
  | fdc (kvs : List (Key × PyData))
  | lot (fs : List (Str × MV))
  | tot (fs : List (Str × MV))
/-- a dict's values -/
inductive RpKV (K : Frag) (W : Own) (H : Hp) : List (Key × V) → List (Key × PyData) → Prop
  | nil : RpKV K W H [] []
  | cons {k : Key} {v : V} {vs : List (Key × V)} {d : PyData} {ds : List (Key × PyData)} : Rp K W H v d → RpKV K W H vs ds → RpKV K W H ((k, v) :: vs) ((k, d) :: ds)
def rk (fs : List (Str × V)) : List (Key × V) := fs.map fun p => (Sum.inr p.1, p.2)
mutual
/-- at the path p stands the tree t -/
inductive Tr (K : Frag) (W : Own) (H : Hp) : Path → V → MV → Prop
  | d {p : Path} {v : V} {x : PyData} : Rp K W H v x → Tr K W H p v (.d x)
  | lst {p : Path} {a : Addr} {xs : List V} {ds : List PyData} : W a = .own p → H a = some (.lst xs) → RpAll K W H xs ds → Tr K W H p (.ref a) (.lst ds)
  | dic {p : Path} {a : Addr} {ks : List (Key × V)} {kvs : List (Key × PyData)} : W a = .own p → H a = some (.dK ks) → RpKV K W H ks kvs → Tr K W H p (.ref a) (.dic kvs)
  | obj {p : Path} {a dx : Addr} {c : Str} {vs : List (Str × V)} {fs : List (Str × MV)} : W a = .own p → W dx = .own p → H a = some (.ins (He.ga K c) dx vs) → H dx = some (.own a) → TrF K W H p 0 vs fs → Tr K W H p (.ref a) (.obj c fs)
  | rcd {p : Path} {a : Addr} {vs : List (Str × V)} {fs : List (Str × MV)} : W a = .own p → H a = some (.dK (rk vs)) → TrF K W H p 0 vs fs → Tr K W H p (.ref a) (.rcd fs)
  | fdc {p : Path} {a : Addr} {ks : List (Key × V)} {kvs : List (Key × PyData)} : W a = .frz → (∃ o, H a = some (.frz o (.dK ks))) → RpKV K W H ks kvs → Tr K W H p (.ref a) (.fdc kvs)
  | lot {p : Path} {a : Addr} {vs : List (Str × V)} {fs : List (Str × MV)} : W a = .own p → H a = some (.lst (vs.map (·.2))) → TrF K W H p 0 vs fs → Tr K W H p (.ref a) (.lot fs)
  | tot {p : Path} {a : Addr} {vs : List (Str × V)} {fs : List (Str × MV)} : W a = .own p → H a = some (.tup (vs.map (·.2))) → TrF K W H p 0 vs fs → Tr K W H p (.ref a) (.tot fs)
inductive TrF (K : Frag) (W : Own) (H : Hp) : Path → Nat → List (Str × V) → List (Str × MV) → Prop
  | nil {p : Path} {n : Nat} : TrF K W H p n [] []
  | cons {p : Path} {n : Nat} {f : Str} {v : V} {t : MV} {vs : List (Str × V)} {fs : List (Str × MV)} : Tr K W H (n :: p) v t → TrF K W H p (n + 1) vs fs → TrF K W H p n ((f, v) :: vs) ((f, t) :: fs)
end
theorem rd_fz {W W' : Own} {H H' : Hp} {a : Addr} {u : HO} (f : Fz W H W' H') (w : W a = .frz) (h : Rd H a u) : W' a = .frz ∧ Rd H' a u := by
  rcases h with h | ⟨o, h⟩
  · exact ⟨(f _ _ h w).1, .inl (f _ _ h w).2⟩
  · exact ⟨(f _ _ h w).1, .inr ⟨o, (f _ _ h w).2⟩⟩
theorem RpKV.fz {K : Frag} {W W' : Own} {H H' : Hp} (f : Fz W H W' H') : ∀ {vs : List (Key × V)} {ds : List (Key × PyData)}, RpKV K W H vs ds → RpKV K W' H' vs ds
  | _, _, .nil => .nil
  | _, _, .cons a b => .cons (a.fz f) (b.fz f)
section
variable {K : Frag} {W W' : Own} {H H' : Hp}
mutual
/-- the tree at l ++ q stands, under other marks, at l ++ p: what is owned there stays -/
theorem Tr.ren (f : Fz W H W' H') {q p : Path} (g : ∀ a o l, H a = some o → W a = .own (l ++ q) → W' a = .own (l ++ p) ∧ H' a = some o) : ∀ (t : MV) (l : Path) {v : V}, Tr K W H (l ++ q) v t → Tr K W' H' (l ++ p) v t
  | .d x, l, _, h => by cases h with | d a => exact .d (a.fz f)
  | .lst ds, l, _, h => by
    cases h with
    | lst w e a =>
      obtain ⟨w', e'⟩ := g _ _ l e w
      exact .lst w' e' (a.fz f)
  | .dic kvs, l, _, h => by
    cases h with
    | dic w e a =>
      obtain ⟨w', e'⟩ := g _ _ l e w
      exact .dic w' e' (a.fz f)
  | .obj c fs, l, _, h => by
    cases h with
    | obj w wd e ed a =>
      obtain ⟨w', e'⟩ := g _ _ l e w
      obtain ⟨wd', ed'⟩ := g _ _ l ed wd
      exact .obj w' wd' e' ed' (TrF.ren f g fs l a)
  | .rcd fs, l, _, h => by
    cases h with
    | rcd w e a =>
      obtain ⟨w', e'⟩ := g _ _ l e w
      exact .rcd w' e' (TrF.ren f g fs l a)
  | .fdc kvs, l, _, h => by
    cases h with
    | fdc w e a =>
      obtain ⟨o, e⟩ := e
      exact .fdc (f _ _ e w).1 ⟨o, (f _ _ e w).2⟩ (a.fz f)
  | .lot fs, l, _, h => by
    cases h with
    | lot w e a =>
      obtain ⟨w', e'⟩ := g _ _ l e w
      exact .lot w' e' (TrF.ren f g fs l a)
  | .tot fs, l, _, h => by
    cases h with
    | tot w e a =>
      obtain ⟨w', e'⟩ := g _ _ l e w
      exact .tot w' e' (TrF.ren f g fs l a)
theorem TrF.ren (f : Fz W H W' H') {q p : Path} (g : ∀ a o l, H a = some o → W a = .own (l ++ q) → W' a = .own (l ++ p) ∧ H' a = some o) : ∀ (fs : List (Str × MV)) (l : Path) {n : Nat} {vs : List (Str × V)}, TrF K W H (l ++ q) n vs fs → TrF K W' H' (l ++ p) n vs fs
  | [], l, n, _, h => by cases h; exact .nil
  | (_, t) :: fs, l, n, _, h => by
    cases h with
    | cons a b => exact .cons (Tr.ren f g t (n :: l) a) (TrF.ren f g fs l b)
end
/-- a tree stays where what it owns stays -/
theorem Tr.keep (f : Fz W H W' H') {p : Path} (g : ∀ a o l, H a = some o → W a = .own (l ++ p) → W' a = .own (l ++ p) ∧ H' a = some o) {t : MV} {v : V} (h : Tr K W H p v t) : Tr K W' H' p v t :=
  Tr.ren f (q := p) (p := p) g t [] h
end
end M

set_option maxHeartbeats 2000000
/-! M2: states, results, judgements of the functional layer. Own work. -/
namespace M
open PySem PySem.Spec PyProof.Rows L2

/-! ### what changes -/
def tmpM (m : Mk) : Prop := ∃ l : Path, m = .own (l ++ [0])
/-- an inert step: all objects stay, all marks but those of temporaries -/
def Ext (W : Own) (H : Hp) (W' : Own) (H' : Hp) : Prop := ∀ a o, H a = some o → H' a = some o ∧ (¬ tmpM (W a) → W' a = W a)
/-- any step: what is not owned stays -/
def Mono (W : Own) (H : Hp) (W' : Own) (H' : Hp) : Prop := ∀ a o, H a = some o → (W a = .frz ∨ W a = .out) → W' a = W a ∧ H' a = some o
def Stp (b : Bool) (W : Own) (H : Hp) (W' : Own) (H' : Hp) : Prop := match b with
  | true => Ext W H W' H'
  | false => Mono W H W' H'
theorem ntmp_frz : ¬ tmpM .frz := fun ⟨_, h⟩ => nomatch h
theorem ntmp_out : ¬ tmpM .out := fun ⟨_, h⟩ => nomatch h
theorem last_ne {l l' : Path} {i : Nat} (h : l ++ [i + 1] = l' ++ [0]) : False := by
  have := congrArg List.getLast? h
  simp at this
theorem ntmp_own {l : Path} {i : Nat} : ¬ tmpM (.own (l ++ [i + 1])) := fun ⟨_, h⟩ => last_ne (Mk.own.inj h)
theorem Ext.refl {W : Own} {H : Hp} : Ext W H W H := fun _ _ h => ⟨h, fun _ => rfl⟩
theorem Ext.mono {W W' : Own} {H H' : Hp} (e : Ext W H W' H') : Mono W H W' H' := fun a o h w =>
  ⟨(e a o h).2 (by rcases w with w | w <;> rw [w]; exact ntmp_frz; exact ntmp_out), (e a o h).1⟩
theorem Mono.fz {W W' : Own} {H H' : Hp} (e : Mono W H W' H') : Fz W H W' H' := fun a o h w => ⟨by rw [(e a o h (.inl w)).1, w], (e a o h (.inl w)).2⟩
theorem Ext.fz {W W' : Own} {H H' : Hp} (e : Ext W H W' H') : Fz W H W' H' := e.mono.fz
theorem Mono.refl {W : Own} {H : Hp} : Mono W H W H := Ext.refl.mono
theorem Mono.trans {W W1 W2 : Own} {H H1 H2 : Hp} (a : Mono W H W1 H1) (b : Mono W1 H1 W2 H2) : Mono W H W2 H2 := fun x o h w => by
  obtain ⟨w1, h1⟩ := a x o h w
  obtain ⟨w2, h2⟩ := b x o h1 (by rw [w1]; exact w)
  exact ⟨w2.trans w1, h2⟩
theorem Stp.refl {b : Bool} {W : Own} {H : Hp} : Stp b W H W H := by cases b; exact Mono.refl; exact Ext.refl
theorem Stp.of {b : Bool} {W W' : Own} {H H' : Hp} (e : Ext W H W' H') : Stp b W H W' H' := by cases b; exact e.mono; exact e
theorem Stp.mono {b : Bool} {W W' : Own} {H H' : Hp} (e : Stp b W H W' H') : Mono W H W' H' := by cases b; exact e; exact Ext.mono e
theorem Stp.fz {b : Bool} {W W' : Own} {H H' : Hp} (e : Stp b W H W' H') : Fz W H W' H' := e.mono.fz
/-- temporaries are told frozen -/
noncomputable def frz0 (W : Own) : Own := fun a => open Classical in if tmpM (W a) then .frz else W a
theorem frz0_tmp {W : Own} {a : Addr} (h : tmpM (W a)) : frz0 W a = .frz := if_pos h
theorem frz0_n {W : Own} {a : Addr} (h : ¬ tmpM (W a)) : frz0 W a = W a := if_neg h
theorem ext_frz0 {W : Own} {H : Hp} : Ext W H (frz0 W) H := fun _ _ h => ⟨h, fun n => frz0_n n⟩

/-! ### results -/
inductive RV where
  | d (x : PyData)
  | nw (t : MV)
  | pk (p : Path) (t : MV)
/-- following p from the slots σ one comes to v -/
def Nav (H : Hp) (σ : L2.St) : Path → V → Prop
  | [], _ => False
  | [n], v => ∃ i : Nat, n = i + 1 ∧ σ[i]? = some (some v)
  | k :: n :: p, v => ∃ a f, Nav H σ (n :: p) (.ref a) ∧ ((∃ C dx vs, H a = some (.ins C dx vs) ∧ vs[k]? = some (f, v)) ∨ (∃ vs, H a = some (.dK (rk vs)) ∧ vs[k]? = some (f, v)) ∨ ∃ xs : List V, (H a = some (.lst xs) ∨ H a = some (.tup xs)) ∧ xs[k]? = some v)
def RVal (K : Frag) (σ : L2.St) (W : Own) (H : Hp) (v : V) : RV → Prop
  | .d x => Rp K W H v x
  | .nw t => Tr K W H [0] v t
  | .pk p t => Tr K W H p v t ∧ Nav H σ p v
abbrev MS := List (Option MV)
inductive R (α : Type) where
  | ok (a : α) (S : MS)
  | exc (c : Str) (S : MS)
  | stuck
def R.bind {α β : Type} (m : R α) (k : α → MS → R β) : R β := match m with
  | .ok a S => k a S
  | .exc c S => .exc c S
  | .stuck => .stuck
abbrev ME := MS → R RV
abbrev MT := MS → R Bool
abbrev ML := MS → R (List RV)
inductive RS where
  | nx (S : MS)
  | rt (r : RV) (S : MS)
  | bk (S : MS)
  | ct (S : MS)
  | exc (c : Str) (S : MS)
  | stuck
abbrev MSt := MS → RS


theorem Ext.trans {W W1 W2 : Own} {H H1 H2 : Hp} (a : Ext W H W1 H1) (b : Ext W1 H1 W2 H2) : Ext W H W2 H2 := fun x o h => by
  obtain ⟨h1, w1⟩ := a x o h
  obtain ⟨h2, w2⟩ := b x o h1
  exact ⟨h2, fun n => by rw [w2 (by rw [w1 n]; exact n), w1 n]⟩
theorem Stp.trans {b c : Bool} {W W1 W2 : Own} {H H1 H2 : Hp} (x : Stp b W H W1 H1) (y : Stp c W1 H1 W2 H2) : Stp (b && c) W H W2 H2 := by
  cases b <;> cases c <;> first | exact Ext.trans x y | exact Mono.trans x.mono y.mono
theorem Stp.ext {b : Bool} {W W1 W2 : Own} {H H1 H2 : Hp} (x : Stp b W H W1 H1) (y : Ext W1 H1 W2 H2) : Stp b W H W2 H2 := by
  cases b
  · exact Mono.trans x y.mono
  · exact Ext.trans x y
theorem Nav.last {H : Hp} {σ : L2.St} : ∀ {p : Path} {v : V}, Nav H σ p v → ∃ (q : Path) (i : Nat), p = q ++ [i + 1]
  | [], _, h => h.elim
  | [n], _, h => let ⟨i, e, _⟩ := h; ⟨[], i, by rw [e]; rfl⟩
  | k :: n :: p, _, h => by
    obtain ⟨a, f, h1, _⟩ := h
    obtain ⟨q, i, e⟩ := Nav.last h1
    exact ⟨k :: q, i, by rw [e]; rfl⟩
theorem Nav.ext {W W' : Own} {H H' : Hp} {σ : L2.St} (x : Ext W H W' H') : ∀ {p : Path} {v : V}, Nav H σ p v → Nav H' σ p v
  | [], _, h => h
  | [n], _, h => h
  | k :: n :: p, _, h => by
    obtain ⟨a, f, h1, h2⟩ := h
    refine ⟨a, f, Nav.ext x h1, ?_⟩
    rcases h2 with ⟨C, dx, vs, e, q⟩ | ⟨vs, e, q⟩ | ⟨xs, e, q⟩
    · exact .inl ⟨C, dx, vs, (x _ _ e).1, q⟩
    · exact .inr (.inl ⟨vs, (x _ _ e).1, q⟩)
    · exact .inr (.inr ⟨xs, e.imp (fun e => (x _ _ e).1) (fun e => (x _ _ e).1), q⟩)
theorem Tr.ext {K : Frag} {W W' : Own} {H H' : Hp} {q : Path} {i : Nat} {v : V} {t : MV} (e : Ext W H W' H') (h : Tr K W H (q ++ [i + 1]) v t) : Tr K W' H' (q ++ [i + 1]) v t :=
  h.keep e.fz fun a o l ha hw => ⟨by rw [(e a o ha).2 (by rw [hw, ← List.append_assoc]; exact ntmp_own), hw], (e a o ha).1⟩

/-- what a body starts from: the heap, the marks, the arguments; what is wished of an exception -/
structure GC where
  H0 : Hp
  W0 : Own
  vs0 : List V
  xw : WX
  pins : List (Nat × V)
/-- slots that are not stored to -/
def GC.fx (G : GC) (j : Nat) : Option V := match G.vs0[j]? with
  | some v => some v
  | none => (G.pins.find? fun q => decide (q.1 = j)).map (·.2)
def Free (G : GC) (i : Nat) : Prop := G.fx i = none
theorem free_of {G : GC} {i n : Nat} (h : G.vs0.length = n ∧ G.pins = []) (hi : n ≤ i) : Free G i := by
  unfold Free GC.fx
  rw [List.getElem?_eq_none (by omega), h.2]; rfl
theorem fx_of {G : GC} {i : Nat} {v : V} (h : G.vs0[i]? = some v) : G.fx i = some v := by
  unfold GC.fx; rw [h]
/-- the slots σ, the heap H hold the state S by the marks W -/
structure Conc (K : Frag) (G : GC) (S : MS) (σ : L2.St) (H : Hp) (W : Own) : Prop where
  len : S.length = σ.length
  tr : ∀ (i : Nat) (t : MV), S[i]? = some (some t) → ∃ v, σ[i]? = some (some v) ∧ Tr K W H [i + 1] v t
  mono : Mono G.W0 G.H0 W H
  args : ∀ (j : Nat) (v : V), G.fx j = some v → σ[j]? = some (some v)
theorem Conc.ext {K : Frag} {G : GC} {S : MS} {σ : L2.St} {H H' : Hp} {W W' : Own} (c : Conc K G S σ H W) (e : Ext W H W' H') : Conc K G S σ H' W' :=
  ⟨c.len, fun i t h => let ⟨v, h1, h2⟩ := c.tr i t h; ⟨v, h1, Tr.ext (q := []) e h2⟩, c.mono.trans e.mono, c.args⟩
theorem Conc.frz {K : Frag} {G : GC} {S : MS} {σ : L2.St} {H : Hp} {W : Own} (c : Conc K G S σ H W) : Conc K G S σ H (frz0 W) := c.ext ext_frz0

/-! ### what is wished of a result -/
def okR {α β : Type} (rel : Own → Hp → β → α → Prop) (K : Frag) (G : GC) (b : Bool) (W : Own) (H : Hp) (σ : L2.St) (Q : β → Hp → Prop) : R α → Prop
  | .ok r S' => ∀ v H' W', Stp b W H W' H' → Conc K G S' σ H' W' → rel W' H' v r → Q v H'
  | .exc c S' => ∀ H' W', Mono W H W' H' → Conc K G S' σ H' W' → G.xw (.ref (He.ga K c)) none σ H'
  | .stuck => False
abbrev relV (K : Frag) (σ : L2.St) : Own → Hp → V → RV → Prop := fun W H v r => RVal K σ W H v r
abbrev relB : Own → Hp → Bool → Bool → Prop := fun _ _ b c => b = c
section
variable {α β γ δ : Type} {ra : Own → Hp → β → α → Prop} {rg : Own → Hp → δ → γ → Prop} {K : Frag} {G : GC} {b b1 b2 : Bool} {W W1 : Own} {H H1 : Hp} {σ : L2.St} {Q : δ → Hp → Prop}
theorem okR.shift {z : R γ} (h : okR rg K G (b1 && b2) W H σ Q z) (st : Stp b1 W H W1 H1) : okR rg K G b2 W1 H1 σ Q z := by
  cases z with
  | ok r S' => exact fun v H' W' s c q => h v H' W' (st.trans s) c q
  | exc c S' => exact fun H' W' m c => h H' W' (st.mono.trans m) c
  | stuck => exact h
theorem okR.shift' {z : R γ} (h : okR rg K G b W H σ Q z) (st : Ext W H W1 H1) : okR rg K G b W1 H1 σ Q z := by
  cases z with
  | ok r S' =>
    refine fun v H' W' s c q => h v H' W' ?_ c q
    cases b
    · exact Mono.trans st.mono s
    · exact Ext.trans st s
  | exc c S' => exact fun H' W' m c => h H' W' (st.mono.trans m) c
  | stuck => exact h
theorem okR.bind {m : R α} {k : α → MS → R γ} (h : okR rg K G (b1 && b2) W H σ Q (m.bind k)) :
    okR ra K G b1 W H σ (fun v H1 => ∃ r S1 W1, Stp b1 W H W1 H1 ∧ Conc K G S1 σ H1 W1 ∧ ra W1 H1 v r ∧ okR rg K G b2 W1 H1 σ Q (k r S1)) m := by
  cases m with
  | ok r S' => exact fun v H' W' st c q => ⟨r, S', W', st, c, q, okR.shift h st⟩
  | exc c S' => exact h
  | stuck => exact h
theorem okR.one {m : R α} {k : α → MS → R γ} (h : okR rg K G b W H σ Q (m.bind k)) :
    okR ra K G b W H σ (fun v H1 => ∃ r S1 W1, Stp b W H W1 H1 ∧ Conc K G S1 σ H1 W1 ∧ ra W1 H1 v r ∧ okR rg K G true W1 H1 σ Q (k r S1)) m :=
  okR.bind (b2 := true) (by rw [Bool.and_true]; exact h)
end

/-! ### the judgements -/
def tEV (K : Frag) (G : GC) (b : Bool) (m : ME) : TE := fun σ H Q => ∃ S W, Conc K G S σ H W ∧ okR (relV K σ) K G b W H σ Q (m S)
structure EV (b : Bool) (X : Cx) (G : GC) (e : Expr) (m : ME) : Prop where
  pe : PE X e (tEV X.K G b m)
def tTV (K : Frag) (G : GC) (b : Bool) (m : MT) : TT := fun σ H Q => ∃ S W, Conc K G S σ H W ∧ okR relB K G b W H σ Q (m S)
structure TV (b : Bool) (X : Cx) (G : GC) (e : Expr) (m : MT) : Prop where
  pt : PT X e (tTV X.K G b m)
def okS (K : Frag) (G : GC) (W : Own) (H : Hp) (D : Ends) : RS → Prop
  | .nx S' => ∀ σ' H' W', Mono W H W' H' → Conc K G S' σ' H' W' → D.nx σ' H'
  | .bk S' => ∀ σ' H' W', Mono W H W' H' → Conc K G S' σ' H' W' → D.bk σ' H'
  | .ct S' => ∀ σ' H' W', Mono W H W' H' → Conc K G S' σ' H' W' → D.ct σ' H'
  | .rt r S' => ∀ v σ' H' W', Mono W H W' H' → Conc K G S' σ' H' W' → RVal K σ' W' H' v r → D.rt v H'
  | .exc c S' => ∀ σ' H' W', Mono W H W' H' → Conc K G S' σ' H' W' → G.xw (.ref (He.ga K c)) none σ' H'
  | .stuck => False
theorem okS.shift {K : Frag} {G : GC} {W W1 : Own} {H H1 : Hp} {D : Ends} {z : RS} (h : okS K G W H D z) (st : Mono W H W1 H1) : okS K G W1 H1 D z := by
  cases z with
  | nx S' => exact fun σ' H' W' m c => h σ' H' W' (st.trans m) c
  | bk S' => exact fun σ' H' W' m c => h σ' H' W' (st.trans m) c
  | ct S' => exact fun σ' H' W' m c => h σ' H' W' (st.trans m) c
  | rt r S' => exact fun v σ' H' W' m c => h v σ' H' W' (st.trans m) c
  | exc c S' => exact fun σ' H' W' m c => h σ' H' W' (st.trans m) c
  | stuck => exact h
def tST (K : Frag) (G : GC) (m : MSt) : TS := fun D σ H => ∃ S W, Conc K G S σ H W ∧ okS K G W H D (m S)
structure ST (X : Cx) (G : GC) (st : Stmt) (m : MSt) : Prop where
  ps : PS X st (tST X.K G m)
structure STs (X : Cx) (G : GC) (st : List Stmt) (m : MSt) : Prop where
  ps : PSs X st (tST X.K G m)
end M
namespace L2
open PySem PySem.Spec PyProof.Rows
theorem PE.imp {X : Cx} {e : Expr} {t t' : TE} (h : PE X e t) (i : ∀ σ H Q, t' σ H Q → t σ H Q) : PE X e t' := ⟨fun pins s σ H Q I q => h.run pins s σ H Q I (i σ H Q q)⟩
theorem PT.imp {X : Cx} {e : Expr} {t t' : TT} (h : PT X e t) (i : ∀ σ H Q, t' σ H Q → t σ H Q) : PT X e t' := ⟨fun pins s σ H Q I q => h.run pins s σ H Q I (i σ H Q q)⟩
theorem PS.imp {X : Cx} {e : Stmt} {t t' : TS} (h : PS X e t) (i : ∀ D σ H, t' D σ H → t D σ H) : PS X e t' := ⟨fun pins s σ H D I q => h.run pins s σ H D I (i D σ H q)⟩
theorem PSs.imp {X : Cx} {e : List Stmt} {t t' : TS} (h : PSs X e t) (i : ∀ D σ H, t' D σ H → t D σ H) : PSs X e t' := ⟨fun pins s σ H D I q => h.run pins s σ H D I (i D σ H q)⟩

end L2
namespace M
open PySem PySem.Spec PyProof.Rows L2
/-! ### blocks -/
section
variable {X : Cx} {G : GC} {st : Stmt} {rest : List Stmt}
def mnil : MSt := fun S => .nx S
def mseq (m k : MSt) : MSt := fun S => match m S with
  | .nx S1 => k S1
  | r => r
theorem ss_nil : STs X G [] mnil := ⟨pss_nil.imp fun D σ H ⟨S, W, c, h⟩ => h σ H W Mono.refl c⟩
theorem ss_cons {m k : MSt} (a : ST X G st m) (r : STs X G rest k) : STs X G (st :: rest) (mseq m k) := ⟨(pss_cons a.ps r.ps).imp fun D σ H ⟨S, W, c, h⟩ => by
  refine ⟨S, W, c, ?_⟩
  unfold mseq at h
  cases e : m S with
  | nx S1 =>
    rw [e] at h
    exact fun σ' H' W' mo c' => ⟨S1, W', c', okS.shift h mo⟩
  | bk S1 => rw [e] at h; exact h
  | ct S1 => rw [e] at h; exact h
  | rt r S1 => rw [e] at h; exact h
  | exc c' S1 => rw [e] at h; exact h
  | stuck => rw [e] at h; exact h⟩
theorem ss_one {m : MSt} (a : ST X G st m) : STs X G [st] m := ⟨(pss_one a.ps).imp fun D σ H h => h⟩
def mstuck : MSt := fun _ => .stuck
theorem st_never : ST X G st mstuck := ⟨ps_never.imp fun D σ H ⟨S, W, c, h⟩ => h⟩
theorem ss_never {sts : List Stmt} : STs X G sts mstuck := ⟨pss_never.imp fun D σ H ⟨S, W, c, h⟩ => h⟩
theorem st_pass {pos : Pos} : ST X G (.Pass pos) mnil := ⟨ps_pass.imp fun D σ H ⟨S, W, c, h⟩ => h σ H W Mono.refl c⟩
def mbk : MSt := fun S => .bk S
def mct : MSt := fun S => .ct S
theorem st_break {pos : Pos} : ST X G (.Break pos) mbk := ⟨ps_break.imp fun D σ H ⟨S, W, c, h⟩ => h σ H W Mono.refl c⟩
theorem st_continue {pos : Pos} : ST X G (.Continue pos) mct := ⟨ps_continue.imp fun D σ H ⟨S, W, c, h⟩ => h σ H W Mono.refl c⟩

/-! ### names, constants -/
variable {b b1 b2 : Bool} {e a c : Expr} {pos : Pos}
def mvar (i : Nat) : ME := fun S => match S[i]? with
  | some (some (.d x)) => .ok (.d x) S
  | some (some t) => .ok (.pk [i + 1] t) S
  | _ => .stuck
theorem ev_var {i : Nat} (h : PE X e (tVar i)) : EV true X G e (mvar i) := ⟨h.imp fun σ H Q ⟨S, W, c, q⟩ => by
  unfold mvar at q
  cases hs : S[i]? with
  | none => rw [hs] at q; exact q.elim
  | some o =>
    cases o with
    | none => rw [hs] at q; exact q.elim
    | some t =>
      obtain ⟨v, hv, htr⟩ := c.tr i t hs
      refine ⟨v, hv, ?_⟩
      rw [hs] at q
      cases t with
      | d x => cases htr with | d r => exact q v H W Stp.refl c r
      | lst ds => exact q v H W Stp.refl c ⟨htr, i, rfl, hv⟩
      | dic ds => exact q v H W Stp.refl c ⟨htr, i, rfl, hv⟩
      | obj ds => exact q v H W Stp.refl c ⟨htr, i, rfl, hv⟩
      | rcd ds => exact q v H W Stp.refl c ⟨htr, i, rfl, hv⟩
      | fdc ds => exact q v H W Stp.refl c ⟨htr, i, rfl, hv⟩
      | lot ds => exact q v H W Stp.refl c ⟨htr, i, rfl, hv⟩
      | tot ds => exact q v H W Stp.refl c ⟨htr, i, rfl, hv⟩⟩
def mc (x : PyData) : ME := fun S => .ok (.d x) S
theorem ev_c {v : V} {x : PyData} (h : PE X e (tC v)) (r : ∀ W H, Rp X.K W H v x) : EV true X G e (mc x) := ⟨h.imp fun σ H Q ⟨S, W, c, q⟩ => q v H W Stp.refl c (r W H)⟩
theorem ev_int {i : Int} {j : Nat} : EV true X G (.Constant (.int i) j pos) (mc (.int i)) := ev_c pe_int fun _ _ => .int
theorem ev_bl {i : Bool} {j : Nat} : EV true X G (.Constant (.bool i) j pos) (mc (.bool i)) := ev_c pe_bl fun _ _ => .bl
theorem ev_non {j : Nat} : EV true X G (.Constant .none j pos) (mc .none) := ev_c pe_non fun _ _ => .non
theorem ev_str {x : Str} {j : Nat} : EV true X G (.Constant (.str x) j pos) (mc (.str x)) := ev_c pe_str fun _ _ => .str
/-- an inert expression where any may stand -/
theorem EV.up {m : ME} (h : EV true X G e m) : EV b X G e m := ⟨h.pe.imp fun σ H Q ⟨S, W, c, q⟩ => ⟨S, W, c, by
  cases e : m S with
  | ok r S' =>
    rw [e] at q
    exact fun v H' W' s c' r' => q v H' W' (Stp.of s) c' r'
  | exc c' S' => rw [e] at q; exact q
  | stuck => rw [e] at q; exact q⟩⟩
end
end M

set_option maxHeartbeats 2000000
/-! M3: operators, tests, small statements of the functional layer. Own work. -/
namespace M
open PySem PySem.Spec PyProof.Rows L2

theorem okR.imp {α β : Type} {ra : Own → Hp → β → α → Prop} {K : Frag} {G : GC} {b : Bool} {W : Own} {H : Hp} {σ : L2.St} {Q Q' : β → Hp → Prop} {z : R α} (h : okR ra K G b W H σ Q z) (i : ∀ v H', Q v H' → Q' v H') : okR ra K G b W H σ Q' z := by
  cases z with
  | ok r S' => exact fun v H' W' s c q => i _ _ (h v H' W' s c q)
  | exc c S' => exact h
  | stuck => exact h

/-! ### operands -/
def MV.dat : MV → Option PyData
  | .d x => some x
  | .lst ds => some (.list ds)
  | _ => none
def RV.dat : RV → Option PyData
  | .d x => some x
  | .nw t => t.dat
  | .pk _ t => t.dat
def RV.dic : RV → Option (List (Key × PyData))
  | .nw (.dic k) => some k
  | .pk _ (.dic k) => some k
  | _ => none
def OpT (K : Frag) (W : Own) (H : Hp) (v : V) : MV → Prop
  | .d x => Rp K W H v x
  | .lst ds => ∃ a xs, v = .ref a ∧ H a = some (.lst xs) ∧ RpAll K W H xs ds
  | .dic kvs => ∃ a ks, v = .ref a ∧ H a = some (.dK ks) ∧ RpKV K W H ks kvs
  | .fdc kvs => ∃ a ks, v = .ref a ∧ (W a = .frz ∧ Rd H a (.dK ks)) ∧ RpKV K W H ks kvs
  | _ => True
def Opd (K : Frag) (W : Own) (H : Hp) (v : V) : RV → Prop
  | .d x => Rp K W H v x
  | .nw t => OpT K W H v t
  | .pk _ t => OpT K W H v t
/-- v can be read as d -/
def Root (K : Frag) (W : Own) (H : Hp) (v : V) : PyData → Prop
  | .list ds => ∃ a xs, v = .ref a ∧ Rd H a (.lst xs) ∧ RpAll K W H xs ds
  | x => Rp K W H v x
section
variable {K : Frag} {W W' : Own} {H H' : Hp} {v : V}
theorem OpT.of {p : Path} {t : MV} (h : Tr K W H p v t) : OpT K W H v t := by
  cases h with
  | d r => exact r
  | lst w e a => exact ⟨_, _, rfl, e, a⟩
  | dic w e a => exact ⟨_, _, rfl, e, a⟩
  | obj => trivial
  | rcd => trivial
  | fdc w e a => exact ⟨_, _, rfl, ⟨w, .inr e⟩, a⟩
  | lot => trivial
  | tot => trivial
theorem Opd.of {σ : L2.St} {r : RV} (h : RVal K σ W H v r) : Opd K W H v r := by
  cases r with
  | d x => exact h
  | nw t => exact OpT.of h
  | pk p t => exact OpT.of h.1
theorem OpT.ext {t : MV} (e : Ext W H W' H') (h : OpT K W H v t) : OpT K W' H' v t := by
  cases t with
  | d x => exact Rp.fz e.fz x h
  | lst ds =>
    obtain ⟨a, xs, e1, e2, r⟩ := h
    exact ⟨a, xs, e1, (e _ _ e2).1, r.fz e.fz⟩
  | dic ds =>
    obtain ⟨a, xs, e1, e2, r⟩ := h
    exact ⟨a, xs, e1, (e _ _ e2).1, r.fz e.fz⟩
  | obj => trivial
  | rcd => trivial
  | fdc ds =>
    obtain ⟨a, xs, e1, e2, r⟩ := h
    exact ⟨a, xs, e1, rd_fz e.fz e2.1 e2.2, r.fz e.fz⟩
  | lot => trivial
  | tot => trivial
theorem Opd.ext {r : RV} (e : Ext W H W' H') (h : Opd K W H v r) : Opd K W' H' v r := by
  cases r with
  | d x => exact Rp.fz e.fz x h
  | nw t => exact OpT.ext e h
  | pk p t => exact OpT.ext e h
theorem Root.rp {d : PyData} (h : Rp K W H v d) : Root K W H v d := by
  cases h with
  | lst a b => exact ⟨_, _, rfl, a.2, b⟩
  | tup a b => exact .tup a b
  | _ => constructor
theorem OpT.root {t : MV} {d : PyData} (h : OpT K W H v t) (e : t.dat = some d) : Root K W H v d := by
  cases t with
  | d x => cases e; exact Root.rp h
  | lst ds =>
    cases e
    obtain ⟨a, xs, e1, e2, r⟩ := h
    exact ⟨a, xs, e1, .inl e2, r⟩
  | dic ds => cases e
  | obj => cases e
  | rcd => cases e
  | fdc => cases e
  | lot => cases e
  | tot => cases e
theorem Opd.root {r : RV} {d : PyData} (h : Opd K W H v r) (e : r.dat = some d) : Root K W H v d := by
  cases r with
  | d x => cases e; exact Root.rp h
  | nw t => exact OpT.root h e
  | pk p t => exact OpT.root h e
theorem Root.dp {d : PyData} (h : Root K W H v d) : Dp K H v d := by
  cases d with
  | list ds =>
    obtain ⟨a, xs, rfl, s, r⟩ := h
    exact .lst (.inl s) (r.dp)
  | _ => exact Rp.dp _ h
theorem Root.int {i : Int} (h : Root K W H v (.int i)) : v = .int i := by
  have h : Rp K W H v (.int i) := h
  cases h; rfl
theorem Root.bl {i : Bool} (h : Root K W H v (.bool i)) : v = .bl i := by
  have h : Rp K W H v (.bool i) := h
  cases h; rfl
theorem Root.str {i : Str} (h : Root K W H v (.str i)) : v = .str i := by
  have h : Rp K W H v (.str i) := h
  cases h; rfl
theorem Root.non (h : Root K W H v .none) : v = .non := by
  have h : Rp K W H v .none := h
  cases h; rfl
end
/-- a value that stays while the next is reckoned -/
def stab (fl : Bool) (r : RV) : Option RV := match fl with
  | true => some r
  | false => match r with
    | .d x => some (.d x)
    | .nw (.lst ds) => some (.d (.list ds))
    | .nw (.d x) => some (.d x)
    | .pk _ (.d x) => some (.d x)
    | _ => none
section
variable {K : Frag} {W W' : Own} {H H' : Hp} {v : V}
/-- a new list told frozen -/
theorem frz_list {ds : List PyData} (h : Tr K W H [0] v (.lst ds)) : Rp K (frz0 W) H v (.list ds) := by
  cases h with
  | lst w e a => exact .lst ⟨frz0_tmp ⟨[], w⟩, .inl e⟩ (a.fz ext_frz0.fz)
theorem stab_ok {σ : L2.St} {fl : Bool} {r r' : RV} (h : RVal K σ W H v r) (e : stab fl r = some r') : ∃ W1, Ext W H W1 H ∧ ∀ W2 H2, Stp fl W1 H W2 H2 → Opd K W2 H2 v r' := by
  cases fl with
  | true =>
    cases e
    exact ⟨W, Ext.refl, fun W2 H2 s => (Opd.of h).ext s⟩
  | false =>
    cases r with
    | d x =>
      cases e
      exact ⟨W, Ext.refl, fun W2 H2 s => Rp.fz s.fz x h⟩
    | nw t =>
      cases t with
      | lst ds =>
        cases e
        exact ⟨frz0 W, ext_frz0, fun W2 H2 s => Rp.fz s.fz _ (frz_list h)⟩
      | d x =>
        cases e
        have h : Tr K W H [0] v (.d x) := h
        cases h with
        | d h => exact ⟨W, Ext.refl, fun W2 H2 s => Rp.fz s.fz x h⟩
      | _ => cases e
    | pk p t =>
      cases t with
      | d x =>
        cases e
        have h : Tr K W H p v (.d x) := h.1
        cases h with
        | d h => exact ⟨W, Ext.refl, fun W2 H2 s => Rp.fz s.fz x h⟩
      | _ => cases e
end
/-- a result that is no peek -/
def RNew (K : Frag) (W : Own) (H : Hp) (v : V) : RV → Prop
  | .d x => Rp K W H v x
  | .nw t => Tr K W H [0] v t
  | .pk _ _ => False
theorem RNew.rv {K : Frag} {σ : L2.St} {W : Own} {H : Hp} {v : V} {r : RV} (h : RNew K W H v r) : RVal K σ W H v r := by
  cases r with
  | d x => exact h
  | nw t => exact h
  | pk p t => exact h.elim
/-! ### operators over data -/
def lift1 (g : PyData → Option RV) (x : RV) : Option RV := match x.dat with
  | some d => g d
  | none => none
def lift2 (g : PyData → PyData → Option RV) (x y : RV) : Option RV := match x.dat, y.dat with
  | some d, some e => g d e
  | _, _ => none
def toR (o : Option RV) (S : MS) : R RV := match o with
  | some z => .ok z S
  | none => .stuck
def msel (o : Option RV) (k : RV → R RV) : R RV := match o with
  | some z => k z
  | none => .stuck
/-- what an operation asks of its two values, told by g -/
def Op2 (K : Frag) (r : R2) (g : RV → RV → Option RV) : Prop := ∀ (W : Own) (H : Hp) (v u : V) (x y z : RV) (Q : VK), Opd K W H v x → Opd K W H u y → g x y = some z →
  (∀ v' H' W', Ext W H W' H' → RNew K W' H' v' z → Q v' H') → r v u H Q
def OpD2 (K : Frag) (r : R2) (g : PyData → PyData → Option RV) : Prop := ∀ (W : Own) (H : Hp) (v u : V) (x y : PyData) (z : RV) (Q : VK), Root K W H v x → Root K W H u y → g x y = some z →
  (∀ v' H' W', Ext W H W' H' → RNew K W' H' v' z → Q v' H') → r v u H Q
theorem OpD2.op {K : Frag} {r : R2} {g : PyData → PyData → Option RV} (h : OpD2 K r g) : Op2 K r (lift2 g) := fun W H v u x y z Q ox oy e k => by
  unfold lift2 at e
  split at e
  · rename_i d f e1 e2
    exact h W H v u d f z Q (ox.root e1) (oy.root e2) e k
  · cases e
def mop2 (fl : Bool) (g : RV → RV → Option RV) (m k : ME) : ME := fun S => (m S).bind fun x S1 => msel (stab fl x) fun x1 => (k S1).bind fun y S2 => toR (g x1 y) S2
section
variable {X : Cx} {G : GC} {b b1 b2 : Bool} {a c e : Expr} {m k : ME} {pos : Pos}
theorem run2 {K : Frag} {r : R2} {g : RV → RV → Option RV} (og : Op2 K r g) {σ : L2.St} {H : Hp} {Q : VK} (h : tEV K G (b1 && b2) (mop2 b2 g m k) σ H Q) : tOp r (tEV K G b1 m) (tEV K G b2 k) σ H Q := by
  obtain ⟨S, W, cc, q⟩ := h
  refine ⟨S, W, cc, (okR.bind q).imp fun v H1 ⟨x, S1, W1, st, c1, rv, q1⟩ => ?_⟩
  unfold msel at q1
  split at q1
  · rename_i x1 e1
    obtain ⟨W1', ex, hx⟩ := stab_ok rv e1
    refine ⟨S1, W1', c1.ext ex, (okR.one (q1.shift' ex)).imp fun u H2 ⟨y, S2, W2, st2, c2, rv2, q2⟩ => ?_⟩
    unfold toR at q2
    split at q2
    · rename_i z e2
      exact og W2 H2 v u x1 y z Q (hx _ _ st2) (Opd.of rv2) e2 fun v' H' W' ex' rz => q2 v' H' W' ex' (c2.ext ex') rz.rv
    · exact q2.elim
  · exact q1.elim
theorem ev_bin {op : Operator} {r : R2} {g : RV → RV → Option RV} (ho : OpR X (binaryOp op) r) (og : Op2 X.K r g) (ha : EV b1 X G a m) (hb : EV b2 X G c k) : EV (b1 && b2) X G (.BinOp a op c pos) (mop2 b2 g m k) :=
  ⟨(pe_op ho ha.pe hb.pe).imp fun σ H Q h => run2 og h⟩
theorem ev_cmp {op : CmpOp} {r : R2} {g : RV → RV → Option RV} (ho : OpR X (compareOp op) r) (og : Op2 X.K r g) (ha : EV b1 X G a m) (hb : EV b2 X G c k) (hm : behindInMarks op c = false := by first | exact nomark _ | with_unfolding_all rfl) : EV (b1 && b2) X G (.Compare a [op] [c] pos) (mop2 b2 g m k) :=
  ⟨(pe_cmpR ho ha.pe hb.pe hm).imp fun σ H Q h => run2 og h⟩
theorem ev_ix {r : R2} {g : RV → RV → Option RV} (ho : IxR X r) (og : Op2 X.K r g) (ha : EV b1 X G a m) (hb : EV b2 X G c k) (hs : PlainIx c := by exact fun _ _ => rfl) : EV (b1 && b2) X G (.Subscript a c pos) (mop2 b2 g m k) :=
  ⟨(pe_ix ho ha.pe hb.pe hs).imp fun σ H Q h => run2 og h⟩
/-- a result that is a truth, as a test -/
def tobool (m : ME) : MT := fun S => (m S).bind fun r S1 => match r with
  | .d (.bool c) => .ok c S1
  | _ => .stuck
theorem run_tob {K : Frag} {σ : L2.St} {H : Hp} {Q : Bool → Hp → Prop} (h : tTV K G b (tobool m) σ H Q) : tEV K G b m σ H (fun x H' => ∃ c, x = .bl c ∧ Q c H') := by
  obtain ⟨S, W, cc, q⟩ := h
  refine ⟨S, W, cc, (okR.one q).imp fun v H1 ⟨x, S1, W1, st, c1, rv, q1⟩ => ?_⟩
  split at q1
  · rename_i c
    have rv : Rp K W1 H1 v (.bool c) := rv
    cases rv
    exact ⟨c, rfl, q1 c H1 W1 Stp.refl c1 rfl⟩
  · exact q1.elim
theorem tv_val (h : EV b X G e m) (he : ∀ whole, isTrue e X.env whole = (do let v ← whole; standAt e.pos; holding [v] (truthy v))) : TV b X G e (tobool m) :=
  ⟨(pt_val h.pe he).imp fun σ H Q h => run_tob h⟩
theorem tv_cmp {op : CmpOp} {r : R2} {g : RV → RV → Option RV} (ho : OpR X (compareOp op) r) (og : Op2 X.K r g) (ha : EV b1 X G a m) (hb : EV b2 X G c k) (hm : behindInMarks op c = false := by first | exact nomark _ | with_unfolding_all rfl) : TV (b1 && b2) X G (.Compare a [op] [c] pos) (tobool (mop2 b2 g m k)) :=
  ⟨(pt_cmpR ho ha.pe hb.pe hm).imp fun σ H Q h => by
    have h1 := run_tob h
    exact run2 og h1⟩
/-- truth of any value -/
def truD : PyData → Option Bool
  | .none => some false
  | .bool b => some b
  | .int i => some (i != 0)
  | .str x => if x.length ≤ 16777216 then some ((x.length : Int) != 0) else none
  | .list ds => some (!ds.isEmpty)
  | .tuple ds => some (!ds.isEmpty)
  | .dict _ => none
def truR (r : RV) : Option Bool := match r.dat with
  | some d => truD d
  | none => match r.dic with
    | some kvs => some (!kvs.isEmpty)
    | none => none
def mtru (m : ME) : MT := fun S => (m S).bind fun r S1 => match truR r with
  | some c => .ok c S1
  | none => .stuck
theorem RpAll.isE {K : Frag} {W : Own} {H : Hp} {xs : List V} {ds : List PyData} (h : RpAll K W H xs ds) : xs.isEmpty = ds.isEmpty := by cases h <;> rfl
theorem RpKV.isE {K : Frag} {W : Own} {H : Hp} {xs : List (Key × V)} {ds : List (Key × PyData)} (h : RpKV K W H xs ds) : xs.isEmpty = ds.isEmpty := by cases h <;> rfl
theorem truD_ok {K : Frag} {W : Own} {H : Hp} {v : V} {d : PyData} {c : Bool} (h : Root K W H v d) (e : truD d = some c) : TruV K v H c := by
  cases d with
  | none => cases h.non; cases e; rfl
  | bool b => cases h.bl; cases e; rfl
  | int b => cases h.int; cases e; rfl
  | str x =>
    cases h.str
    have e : (if x.length ≤ 16777216 then some ((x.length : Int) != 0) else none) = some c := e
    by_cases hl : x.length ≤ 16777216
    · rw [if_pos hl] at e
      cases e
      exact ⟨by rw [sizeLine_eq]; exact hl, rfl⟩
    · rw [if_neg hl] at e
      cases e
  | list ds =>
    obtain ⟨a, xs, rfl, s, r⟩ := h
    cases e
    exact .inl ⟨xs, .inl s, by rw [r.isE]⟩
  | tuple ds =>
    have h : Rp K W H v (.tuple ds) := h
    cases h with
    | tup s r =>
      cases e
      exact .inr (.inl ⟨_, s.sq, by rw [r.isE]⟩)
  | dict _ => cases e
theorem truR_ok {K : Frag} {W : Own} {H : Hp} {v : V} {r : RV} {c : Bool} (h : Opd K W H v r) (e : truR r = some c) : TruV K v H c := by
  unfold truR at e
  split at e
  · rename_i d e1
    exact truD_ok (h.root e1) e
  · split at e
    · rename_i kvs e1
      cases e
      have : ∃ a ks, v = .ref a ∧ H a = some (.dK ks) ∧ RpKV K W H ks kvs := by
        unfold RV.dic at e1
        split at e1
        · cases e1; exact h
        · cases e1; exact h
        · cases e1
      obtain ⟨a, ks, rfl, e2, r⟩ := this
      exact .inr (.inr ⟨ks, e2, by rw [r.isE]⟩)
    · cases e
theorem tv_truth (h : EV b X G e m) (he : ∀ whole, isTrue e X.env whole = (do let v ← whole; standAt e.pos; holding [v] (truthy v)) := by intro _; rfl) : TV b X G e (mtru m) :=
  ⟨(pt_truth h.pe he).imp fun σ H Q ⟨S, W, cc, q⟩ => ⟨S, W, cc, (okR.one q).imp fun v H1 ⟨x, S1, W1, st, c1, rv, q1⟩ => by
    split at q1
    · rename_i c e1
      exact ⟨c, truR_ok (Opd.of rv) e1, q1 c H1 W1 Stp.refl c1 rfl⟩
    · exact q1.elim⟩⟩
/-! ### and, or, not, a if t else b -/
variable {mt kt : MT} {rest : List Expr}
def mandT (m k : MT) : MT := fun S => (m S).bind fun c S1 => if c = true then k S1 else .ok false S1
def morT (m k : MT) : MT := fun S => (m S).bind fun c S1 => if c = true then .ok true S1 else k S1
def mnotT (m : MT) : MT := fun S => (m S).bind fun c S1 => .ok (!c) S1
structure TW (b : Bool) (X : Cx) (G : GC) (e : Expr) (m : MT) : Prop where
  pw : PW X e (tTV X.K G b m)
theorem PW.imp {e : Expr} {t t' : TT} (h : PW X e t) (i : ∀ σ H Q, t' σ H Q → t σ H Q) : PW X e t' := ⟨fun wh pins s σ H Q I q => h.run wh pins s σ H Q I (i σ H Q q)⟩
theorem tw_and1 (h : TV b X G a mt) : TW b X G (.BoolOp .And [a] pos) mt := ⟨pw_and1 h.pt⟩
theorem tw_or1 (h : TV b X G a mt) : TW b X G (.BoolOp .Or [a] pos) mt := ⟨pw_or1 h.pt⟩
theorem tw_and (h : TV b1 X G a mt) (h2 : TW b2 X G (.BoolOp .And (c :: rest) pos) kt) : TW (b1 && b2) X G (.BoolOp .And (a :: c :: rest) pos) (mandT mt kt) :=
  ⟨PW.imp (pw_and h.pt h2.pw) fun σ H Q ⟨S, W, cc, q⟩ => ⟨S, W, cc, (okR.bind q).imp fun v H1 ⟨x, S1, W1, st, c1, rv, q1⟩ => by
    have rv : v = x := rv
    subst rv
    cases v with
    | true => exact ⟨S1, W1, c1, q1⟩
    | false => exact q1 false H1 W1 Stp.refl c1 rfl⟩⟩
theorem tw_or (h : TV b1 X G a mt) (h2 : TW b2 X G (.BoolOp .Or (c :: rest) pos) kt) : TW (b1 && b2) X G (.BoolOp .Or (a :: c :: rest) pos) (morT mt kt) :=
  ⟨PW.imp (pw_or h.pt h2.pw) fun σ H Q ⟨S, W, cc, q⟩ => ⟨S, W, cc, (okR.bind q).imp fun v H1 ⟨x, S1, W1, st, c1, rv, q1⟩ => by
    have rv : v = x := rv
    subst rv
    cases v with
    | false => exact ⟨S1, W1, c1, q1⟩
    | true => exact q1 true H1 W1 Stp.refl c1 rfl⟩⟩
theorem TW.tv (h : TW b X G e mt) : TV b X G e mt := ⟨h.pw.pt⟩
theorem tv_not (h : TV b X G a mt) : TV b X G (.UnaryOp .Not a pos) (mnotT mt) :=
  ⟨(pt_not h.pt).imp fun σ H Q ⟨S, W, cc, q⟩ => ⟨S, W, cc, (okR.one q).imp fun v H1 ⟨x, S1, W1, st, c1, rv, q1⟩ => by
    have rv : v = x := rv
    subst rv
    exact q1 (!v) H1 W1 Stp.refl c1 rfl⟩⟩
def mandV (m k : ME) : ME := fun S => (m S).bind fun r S1 => match r with
  | .d (.bool true) => k S1
  | .d (.bool false) => .ok (.d (.bool false)) S1
  | _ => .stuck
def morV (m k : ME) : ME := fun S => (m S).bind fun r S1 => match r with
  | .d (.bool true) => .ok (.d (.bool true)) S1
  | .d (.bool false) => k S1
  | _ => .stuck
def mnotV (m : ME) : ME := fun S => (m S).bind fun r S1 => match r with
  | .d (.bool c) => .ok (.d (.bool !c)) S1
  | _ => .stuck
theorem ev_one {op : BoolOp} (h : EV b X G a m) : EV b X G (.BoolOp op [a] pos) m := ⟨pe_one h.pe⟩
theorem ev_and (h : EV b1 X G a m) (h2 : EV b2 X G (.BoolOp .And (c :: rest) pos) k) : EV (b1 && b2) X G (.BoolOp .And (a :: c :: rest) pos) (mandV m k) :=
  ⟨(pe_and h.pe h2.pe).imp fun σ H Q ⟨S, W, cc, q⟩ => ⟨S, W, cc, (okR.bind q).imp fun v H1 ⟨x, S1, W1, st, c1, rv, q1⟩ => by
    split at q1
    · have rv : Rp _ W1 H1 v (.bool true) := rv
      cases rv
      exact ⟨true, rfl, S1, W1, c1, q1⟩
    · have rv : Rp _ W1 H1 v (.bool false) := rv
      cases rv
      exact ⟨false, rfl, q1 _ H1 W1 Stp.refl c1 .bl⟩
    · exact q1.elim⟩⟩
theorem ev_or (h : EV b1 X G a m) (h2 : EV b2 X G (.BoolOp .Or (c :: rest) pos) k) : EV (b1 && b2) X G (.BoolOp .Or (a :: c :: rest) pos) (morV m k) :=
  ⟨(pe_or h.pe h2.pe).imp fun σ H Q ⟨S, W, cc, q⟩ => ⟨S, W, cc, (okR.bind q).imp fun v H1 ⟨x, S1, W1, st, c1, rv, q1⟩ => by
    split at q1
    · have rv : Rp _ W1 H1 v (.bool true) := rv
      cases rv
      exact ⟨true, rfl, q1 _ H1 W1 Stp.refl c1 .bl⟩
    · have rv : Rp _ W1 H1 v (.bool false) := rv
      cases rv
      exact ⟨false, rfl, S1, W1, c1, q1⟩
    · exact q1.elim⟩⟩
theorem ev_not (h : EV b X G a m) : EV b X G (.UnaryOp .Not a pos) (mnotV m) :=
  ⟨(pe_not h.pe).imp fun σ H Q ⟨S, W, cc, q⟩ => ⟨S, W, cc, (okR.one q).imp fun v H1 ⟨x, S1, W1, st, c1, rv, q1⟩ => by
    split at q1
    · rename_i c
      have rv : Rp _ W1 H1 v (.bool c) := rv
      cases rv
      exact ⟨c, rfl, q1 _ H1 W1 Stp.refl c1 .bl⟩
    · exact q1.elim⟩⟩
def mifE (t : MT) (m k : ME) : ME := fun S => (t S).bind fun c S1 => if c = true then m S1 else k S1
theorem ev_if (ht : TV b1 X G e mt) (ha : EV b2 X G a m) (hb : EV b2 X G c k) : EV (b1 && b2) X G (.IfExp e a c pos) (mifE mt m k) :=
  ⟨(pe_ifExp ht.pt ha.pe hb.pe).imp fun σ H Q ⟨S, W, cc, q⟩ => ⟨S, W, cc, (okR.bind q).imp fun v H1 ⟨x, S1, W1, st, c1, rv, q1⟩ => by
    have rv : v = x := rv
    subst rv
    cases v with
    | true => exact ⟨S1, W1, c1, q1⟩
    | false => exact ⟨S1, W1, c1, q1⟩⟩⟩
/-! ### statements -/
variable {sts sts' : List Stmt} {ms ks : MSt}
def R.toS {α : Type} (z : R α) (f : α → MS → RS) : RS := match z with
  | .ok r S1 => f r S1
  | .exc c S1 => .exc c S1
  | .stuck => .stuck
def mifS (t : MT) (m k : MSt) : MSt := fun S => (t S).toS fun c S1 => if c = true then m S1 else k S1
/-- from a result to what a statement does with it -/
theorem okR_of_S {α β : Type} {ra : Own → Hp → β → α → Prop} {K : Frag} {W : Own} {H : Hp} {σ : L2.St} {D : Ends} {z : R α} {f : α → MS → RS}
    (h : okS K G W H D (z.toS f)) :
    okR ra K G b W H σ (fun v H1 => ∃ r S1 W1, Conc K G S1 σ H1 W1 ∧ ra W1 H1 v r ∧ okS K G W1 H1 D (f r S1)) z := by
  cases z with
  | ok r S1 => exact fun v H' W' st c rv => ⟨r, S1, W', c, rv, okS.shift h st.mono⟩
  | exc c S1 => exact fun H' W' mo c => h σ H' W' mo c
  | stuck => exact h
theorem st_if (ht : TV b X G e mt) (ha : STs X G sts ms) (hb : STs X G sts' ks) : ST X G (.If e sts sts' pos) (mifS mt ms ks) :=
  ⟨(ps_if ht.pt ha.ps hb.ps).imp fun D σ H ⟨S, W, cc, q⟩ => ⟨S, W, cc, (okR_of_S (ra := relB) (f := fun c S1 => if c = true then ms S1 else ks S1) q).imp fun v H1 ⟨r, S1, W1, c1, rv, q1⟩ => by
    have rv : v = r := rv
    subst rv
    cases v with
    | true => exact ⟨S1, W1, c1, q1⟩
    | false => exact ⟨S1, W1, c1, q1⟩⟩⟩
def mret (m : ME) : MSt := fun S => (m S).toS fun r S1 => .rt r S1
theorem st_ret (h : EV b X G e m) : ST X G (.Return (some e) pos) (mret m) :=
  ⟨(ps_ret h.pe).imp fun D σ H ⟨S, W, cc, q⟩ => ⟨S, W, cc, (okR_of_S (f := fun r S1 => .rt r S1) q).imp fun v H1 ⟨r, S1, W1, c1, rv, q1⟩ => q1 v σ H1 W1 Mono.refl c1 rv⟩⟩
def mretN : MSt := fun S => .rt (.d .none) S
theorem st_retN : ST X G (.Return none pos) mretN := ⟨ps_retN.imp fun D σ H ⟨S, W, cc, q⟩ => q _ σ H W Mono.refl cc .non⟩
def mdrop (m : ME) : MSt := fun S => (m S).toS fun _ S1 => .nx S1
theorem st_expr (h : EV b X G e m) (hs : swapsWith e none pos.line X.env = pure false := by rfl) : ST X G (.Expr e pos) (mdrop m) :=
  ⟨(ps_expr h.pe hs).imp fun D σ H ⟨S, W, cc, q⟩ => ⟨S, W, cc, (okR_of_S (f := fun r S1 => .nx S1) q).imp fun v H1 ⟨r, S1, W1, c1, rv, q1⟩ => q1 σ H1 W1 Mono.refl c1⟩⟩
end
end M

set_option maxHeartbeats 2000000
/-! M4: arguments, displays, names stored, calls of defs. Own work. -/
namespace M
open PySem PySem.Spec PyProof.Rows L2

/-! ### a part of a tree put anew -/
def modF (g : MV → MV) : Nat → List (Str × MV) → List (Str × MV)
  | _, [] => []
  | 0, (f, t) :: r => (f, g t) :: r
  | k + 1, x :: r => x :: modF g k r
def updT : List Nat → MV → MV → MV
  | [], n, _ => n
  | k :: ks, n, .obj c fs => .obj c (modF (updT ks n) k fs)
  | k :: ks, n, .rcd fs => .rcd (modF (updT ks n) k fs)
  | k :: ks, n, .lot fs => .lot (modF (updT ks n) k fs)
  | k :: ks, n, .tot fs => .tot (modF (updT ks n) k fs)
  | _ :: _, _, t => t
def updS (p : Path) (n : MV) (S : MS) : MS := match p.reverse with
  | (i + 1) :: ks => match S[i]? with
    | some (some t) => S.set i (some (updT ks n t))
    | _ => S
  | _ => S
def NavT (H : Hp) : V → List Nat → V → Prop
  | v, [], v0 => v = v0
  | v, k :: ks, v0 => ∃ a f v1, v = .ref a ∧ ((∃ C dx vs, H a = some (.ins C dx vs) ∧ vs[k]? = some (f, v1)) ∨ (∃ vs, H a = some (.dK (rk vs)) ∧ vs[k]? = some (f, v1)) ∨ ∃ xs : List V, (H a = some (.lst xs) ∨ H a = some (.tup xs)) ∧ xs[k]? = some v1) ∧ NavT H v1 ks v0
theorem NavT.snoc {H : Hp} {k : Nat} {v1 : V} {a : Addr} {f : Str} (h2 : (∃ C dx vs, H a = some (.ins C dx vs) ∧ vs[k]? = some (f, v1)) ∨ (∃ vs, H a = some (.dK (rk vs)) ∧ vs[k]? = some (f, v1)) ∨ ∃ xs : List V, (H a = some (.lst xs) ∨ H a = some (.tup xs)) ∧ xs[k]? = some v1) : ∀ {ks : List Nat} {v : V}, NavT H v ks (.ref a) → NavT H v (ks ++ [k]) v1
  | [], _, h => ⟨a, f, v1, h, h2, rfl⟩
  | _ :: ks, _, ⟨b, g, w, e, x, y⟩ => ⟨b, g, w, e, x, NavT.snoc h2 y⟩
theorem Nav.tree {H : Hp} {σ : L2.St} : ∀ {p : Path} {v : V}, Nav H σ p v → ∃ ks i v1, p = ks.reverse ++ [i + 1] ∧ σ[i]? = some (some v1) ∧ NavT H v1 ks v
  | [], _, h => h.elim
  | [n], v, ⟨i, e, h⟩ => ⟨[], i, v, by rw [e]; rfl, h, rfl⟩
  | k :: n :: p, v, ⟨a, f, h1, h2⟩ => by
    obtain ⟨ks, i, v1, e, q, t⟩ := Nav.tree h1
    exact ⟨ks ++ [k], i, v1, by rw [e]; simp, q, NavT.snoc h2 t⟩
theorem rk_inj {vs ws : List (Str × V)} (h : rk vs = rk ws) : vs = ws := by
  induction vs generalizing ws with
  | nil => cases ws with
    | nil => rfl
    | cons _ _ => cases h
  | cons x r ih =>
    cases ws with
    | nil => cases h
    | cons y s =>
      obtain ⟨x1, x2⟩ := x
      obtain ⟨y1, y2⟩ := y
      have h1 : (Sum.inr x1, x2) :: rk r = ((Sum.inr y1, y2) :: rk s : List (Key × V)) := h
      injection h1 with h2 h3
      injection h2 with h4 h5
      injection h4 with h6
      subst h6 h5
      rw [ih h3]
theorem snd_get {vs : List (Str × V)} {k : Nat} {v : V} (h : (vs.map (·.2))[k]? = some v) : ∃ f, vs[k]? = some (f, v) := by
  rw [List.getElem?_map] at h
  cases e : vs[k]? with
  | none => rw [e] at h; cases h
  | some p =>
    rw [e] at h
    have h : some p.2 = some v := h
    exact ⟨p.1, by rw [← Option.some.inj h]⟩
theorem path_ne {r l m q : Path} {k j : Nat} (h : r ++ j :: q = l ++ (m ++ k :: q)) : j = k := by
  have h1 : (r ++ [j]) ++ q = (l ++ m ++ [k]) ++ q := by simpa using h
  have h2 := List.append_cancel_right h1
  have := congrArg List.getLast? h2
  simpa using this
section
variable {K : Frag} {W W' : Own} {H H' : Hp}
theorem TrF.rep (f : Fz W H W' H') {g : MV → MV} {k : Nat} {q : Path} {f0 : Str} {v1 : V} (keep : ∀ a o l j, H a = some o → j ≠ k → W a = .own (l ++ j :: q) → W' a = .own (l ++ j :: q) ∧ H' a = some o)
    (hk : ∀ t, Tr K W H (k :: q) v1 t → Tr K W' H' (k :: q) v1 (g t)) : ∀ (fs : List (Str × MV)) {n i : Nat} {vs : List (Str × V)}, n + i = k → vs[i]? = some (f0, v1) → TrF K W H q n vs fs → TrF K W' H' q n vs (modF g i fs)
  | [], n, i, vs, e, h, t => by cases t; simp at h
  | (_, t) :: fs, n, 0, vs, e, h, tt => by
    have e : n = k := e
    subst e
    cases tt with
    | cons a b =>
      simp at h
      obtain ⟨h1, h2⟩ := h
      subst h1 h2
      refine .cons (hk t a) ?_
      have kp : ∀ (gs : List (Str × MV)) {m : Nat} {ws : List (Str × V)}, n < m → TrF K W H q m ws gs → TrF K W' H' q m ws gs := by
        intro gs
        induction gs with
        | nil => intro m ws _ t; cases t; exact .nil
        | cons x r ih =>
          intro m ws hm t
          cases t with
          | cons a b => exact .cons (a.keep f fun a o l h1 h2 => keep a o l m h1 (by omega) h2) (ih (by omega) b)
      exact kp fs (Nat.lt_succ_self n) b
  | (_, t) :: fs, n, i + 1, vs, e, h, tt => by
    cases tt with
    | cons a b => exact .cons (a.keep f fun a o l h1 h2 => keep a o l n h1 (by omega) h2) (TrF.rep f keep hk fs (by omega) (by simpa using h) b)
theorem Tr.rep (f : Fz W H W' H') {n : MV} {v0 : V} : ∀ (ks : List Nat) {q : Path} {v : V} {t : MV},
    (∀ a o r, H a = some o → W a = .own (r ++ q) → (¬ ∃ l, r ++ q = l ++ (ks.reverse ++ q)) → W' a = .own (r ++ q) ∧ H' a = some o) →
    Tr K W H q v t → NavT H v ks v0 → Tr K W' H' (ks.reverse ++ q) v0 n → Tr K W' H' q v (updT ks n t)
  | [], q, v, t, g, h, nv, hn => by
    have nv : v = v0 := nv
    subst nv
    exact hn
  | k :: ks, q, v, t, g, h, nv, hn => by
    obtain ⟨a, f0, v1, e, x, y⟩ := nv
    subst e
    have nself : ¬ ∃ l, ([] : Path) ++ q = l ++ ((k :: ks).reverse ++ q) := fun ⟨l, e⟩ => by
      have := congrArg List.length e
      simp at this
      omega
    have hn' : Tr K W' H' (ks.reverse ++ (k :: q)) v0 n := by simpa using hn
    have sub : ∀ t, Tr K W H (k :: q) v1 t → Tr K W' H' (k :: q) v1 (updT ks n t) := fun t ht => by
      refine Tr.rep f ks (fun a o r h1 h2 h3 => ?_) ht y hn'
      have h2' : W a = .own ((r ++ [k]) ++ q) := by simpa using h2
      have := g a o (r ++ [k]) h1 h2' (fun ⟨l, e⟩ => h3 ⟨l, by simpa using e⟩)
      simpa using this
    have kp : ∀ a o l j, H a = some o → j ≠ k → W a = .own (l ++ j :: q) → W' a = .own (l ++ j :: q) ∧ H' a = some o := fun a o l j h1 h2 h3 => by
      have h3' : W a = .own ((l ++ [j]) ++ q) := by simpa using h3
      have := g a o (l ++ [j]) h1 h3' (fun ⟨l', e⟩ => h2 (path_ne (r := l) (l := l') (m := ks.reverse) (q := q) (by simpa using e)))
      simpa using this
    cases h with
    | d r =>
      -- the datum stays: nothing is put
      exact .d (Rp.fz f _ r)
    | lst w e r =>
      obtain ⟨w', e'⟩ := g _ _ [] e w nself
      exact .lst w' e' (r.fz f)
    | @dic _ _ ks' kvs w e r =>
      obtain ⟨w', e'⟩ := g _ _ [] e w nself
      exact .dic w' e' (r.fz f)
    | fdc w e r =>
      obtain ⟨o, e⟩ := e
      exact .fdc (f _ _ e w).1 ⟨o, (f _ _ e w).2⟩ (r.fz f)
    | obj w wd e ed r =>
      rcases x with ⟨C, dx, vs, e2, q2⟩ | ⟨vs, e2, _⟩ | ⟨xs, e2 | e2, _⟩
      · rw [e] at e2; cases e2
        obtain ⟨w', e'⟩ := g _ _ [] e w nself
        obtain ⟨wd', ed'⟩ := g _ _ [] ed wd nself
        exact .obj w' wd' e' ed' (TrF.rep f kp sub _ (Nat.zero_add k) q2 r)
      · rw [e] at e2; cases e2
      · rw [e] at e2; cases e2
      · rw [e] at e2; cases e2
    | rcd w e r =>
      rcases x with ⟨C, dx, vs, e2, _⟩ | ⟨vs, e2, q2⟩ | ⟨xs, e2 | e2, _⟩
      · rw [e] at e2; cases e2
      · rw [e] at e2
        have e3 := rk_inj (HO.dK.inj (Option.some.inj e2))
        subst e3
        obtain ⟨w', e'⟩ := g _ _ [] e w nself
        exact .rcd w' e' (TrF.rep f kp sub _ (Nat.zero_add k) q2 r)
      · rw [e] at e2; cases e2
      · rw [e] at e2; cases e2
    | lot w e r =>
      rcases x with ⟨C, dx, vs, e2, _⟩ | ⟨vs, e2, q2⟩ | ⟨xs, e2 | e2, q2⟩
      · rw [e] at e2; cases e2
      · rw [e] at e2; cases e2
      · rw [e] at e2
        cases e2
        obtain ⟨w', e'⟩ := g _ _ [] e w nself
        obtain ⟨f1, q3⟩ := snd_get q2
        exact .lot w' e' (TrF.rep f kp sub _ (Nat.zero_add k) q3 r)
      · rw [e] at e2; cases e2
    | tot w e r =>
      rcases x with ⟨C, dx, vs, e2, _⟩ | ⟨vs, e2, q2⟩ | ⟨xs, e2 | e2, q2⟩
      · rw [e] at e2; cases e2
      · rw [e] at e2; cases e2
      · rw [e] at e2; cases e2
      · rw [e] at e2
        cases e2
        obtain ⟨w', e'⟩ := g _ _ [] e w nself
        obtain ⟨f1, q3⟩ := snd_get q2
        exact .tot w' e' (TrF.rep f kp sub _ (Nat.zero_add k) q3 r)
/-- what stands at p is put anew, all else that is owned stays -/
theorem Conc.rep {G : GC} {S : MS} {σ : L2.St} {p : Path} {v : V} {n : MV} (c : Conc K G S σ H W) (mo : Mono W H W' H') (nv : Nav H σ p v)
    (keep : ∀ a o q, H a = some o → W a = .own q → (¬ ∃ l, q = l ++ p) → ¬ tmpM (.own q) → W' a = .own q ∧ H' a = some o) (hn : Tr K W' H' p v n) : Conc K G (updS p n S) σ H' W' := by
  obtain ⟨ks, i, v1, e, hs, nt⟩ := nv.tree
  have er : p.reverse = (i + 1) :: ks := by rw [e]; simp
  have eu : updS p n S = (match S[i]? with | some (some t) => S.set i (some (updT ks n t)) | _ => S) := by
    unfold updS
    rw [er]
  have other : ∀ j t, j ≠ i → S[j]? = some (some t) → ∃ v, σ[j]? = some (some v) ∧ Tr K W' H' [j + 1] v t := fun j t hj h => by
    obtain ⟨v, h1, h2⟩ := c.tr j t h
    refine ⟨v, h1, h2.keep mo.fz fun a o l ha hw => keep a o _ ha hw (fun ⟨l', e'⟩ => ?_) (fun ⟨l', e'⟩ => last_ne (Mk.own.inj e'))⟩
    rw [e, ← List.append_assoc] at e'
    have := congrArg List.getLast? e'
    simp at this
    omega
  rw [eu]
  refine ⟨?_, fun j t h => ?_, c.mono.trans mo, c.args⟩
  · split
    · rw [List.length_set]; exact c.len
    · exact c.len
  · split at h
    · rename_i t0 e0
      by_cases hj : j = i
      · subst hj
        have hlt : j < S.length := by
          have := (List.getElem?_eq_some_iff.mp e0).1
          exact this
        rw [List.getElem?_set_self hlt] at h
        cases h
        obtain ⟨v', h1, h2⟩ := c.tr j t0 e0
        rw [hs] at h1
        cases h1
        refine ⟨v1, hs, Tr.rep mo.fz ks (fun a o r h1 h2 h3 => keep a o _ h1 h2 (fun ⟨l, e'⟩ => h3 ⟨l, by rw [e', e]⟩) (fun ⟨l', e'⟩ => last_ne (Mk.own.inj e'))) h2 nt (by rw [← e]; exact hn)⟩
      · rw [List.getElem?_set_ne (Ne.symm hj)] at h
        exact other j t hj h
    · rename_i hno
      by_cases hj : j = i
      · subst hj
        exact (hno t h).elim
      · exact other j t hj h
end
end M

set_option maxHeartbeats 2000000
/-! M5: arguments, displays, stores into names, calls of defs. Own work. -/
namespace M
open PySem PySem.Spec PyProof.Rows L2

/-! ### arguments -/
inductive RAll (K : Frag) (σ : L2.St) (W : Own) (H : Hp) : List V → List RV → Prop
  | nil : RAll K σ W H [] []
  | d {v : V} {x : PyData} {vs : List V} {rs : List RV} : Rp K W H v x → RAll K σ W H vs rs → RAll K σ W H (v :: vs) (.d x :: rs)
  | pk {v : V} {p : Path} {t : MV} {vs : List V} {rs : List RV} : Tr K W H p v t → Nav H σ p v → RAll K σ W H vs rs → RAll K σ W H (v :: vs) (.pk p t :: rs)
abbrev relA (K : Frag) (σ : L2.St) : Own → Hp → List V → List RV → Prop := fun W H vs rs => RAll K σ W H vs rs
def tAV (K : Frag) (G : GC) (b : Bool) (m : ML) : TA := fun σ H Q => ∃ S W, Conc K G S σ H W ∧ okR (relA K σ) K G b W H σ Q (m S)
structure AV (b : Bool) (X : Cx) (G : GC) (es : List Expr) (m : ML) : Prop where
  pa : PA X es (tAV X.K G b m)
  len : ∀ S rs S', m S = .ok rs S' → rs.length = es.length
def sarg (fl : Bool) (r : RV) : Option RV := match r with
  | .d x => some (.d x)
  | .nw (.lst ds) => some (.d (.list ds))
  | .nw (.d x) => some (.d x)
  | .pk _ (.d x) => some (.d x)
  | .pk p t => if fl then some (.pk p t) else none
  | _ => none
def mnilA : ML := fun S => .ok [] S
def msel' {α : Type} (o : Option RV) (k : RV → R α) : R α := match o with
  | some z => k z
  | none => .stuck
def mconsA (fl : Bool) (m : ME) (k : ML) : ML := fun S => (m S).bind fun x S1 => msel' (sarg fl x) fun x1 => (k S1).bind fun xs S2 => .ok (x1 :: xs) S2
section
variable {K : Frag} {σ : L2.St} {W W' : Own} {H H' : Hp} {v : V}
theorem sarg_ok {fl : Bool} {r r' : RV} (h : RVal K σ W H v r) (e : sarg fl r = some r') : ∃ W1, Ext W H W1 H ∧ ∀ W2 H2, Stp fl W1 H W2 H2 → ∀ vs rs, RAll K σ W2 H2 vs rs → RAll K σ W2 H2 (v :: vs) (r' :: rs) := by
  cases r with
  | d x =>
    cases e
    exact ⟨W, Ext.refl, fun W2 H2 s vs rs t => .d (Rp.fz s.fz x h) t⟩
  | nw t =>
    cases t with
    | lst ds =>
      cases e
      exact ⟨frz0 W, ext_frz0, fun W2 H2 s vs rs t => .d (Rp.fz s.fz _ (frz_list h)) t⟩
    | d x =>
      cases e
      have h : Tr K W H [0] v (.d x) := h
      cases h with
      | d h => exact ⟨W, Ext.refl, fun W2 H2 s vs rs t => .d (Rp.fz s.fz x h) t⟩
    | _ => cases e
  | pk p t =>
    obtain ⟨h1, h2⟩ := h
    have go : ∀ {t : MV}, (if fl then some (RV.pk p t) else none) = some r' → Tr K W H p v t → ∃ W1, Ext W H W1 H ∧ ∀ W2 H2, Stp fl W1 H W2 H2 → ∀ vs rs, RAll K σ W2 H2 vs rs → RAll K σ W2 H2 (v :: vs) (r' :: rs) := fun e h1 => by
      cases fl with
      | false => cases e
      | true =>
        cases e
        refine ⟨W, Ext.refl, fun W2 H2 s vs rs t => .pk ?_ (h2.ext s) t⟩
        obtain ⟨q, i, rfl⟩ := h2.last
        exact Tr.ext s h1
    cases t with
    | d x =>
      cases e
      cases h1 with
      | d h => exact ⟨W, Ext.refl, fun W2 H2 s vs rs t => .d (Rp.fz s.fz x h) t⟩
    | lst ds => exact go e h1
    | dic ds => exact go e h1
    | obj ds => exact go e h1
    | rcd ds => exact go e h1
    | fdc ds => exact go e h1
    | lot ds => exact go e h1
    | tot ds => exact go e h1
end
section
variable {X : Cx} {G : GC} {b b1 b2 : Bool} {a c e : Expr} {es : List Expr} {m k : ME} {ma : ML} {pos : Pos}
theorem av_nil : AV true X G [] mnilA := ⟨⟨fun pos pins s σ H Q I ⟨S, W, c, q⟩ => pa_nil.run pos pins s σ H Q I (q [] H W Stp.refl c .nil)⟩, fun S rs S' h => by cases h; rfl⟩
theorem av_cons (h : EV b1 X G e m) (r : AV b2 X G es ma) (hs : starEach (e :: es) X.env = (false, eval e X.env) :: starEach es X.env := by rfl) : AV (b1 && b2) X G (e :: es) (mconsA b2 m ma) := by
  refine ⟨⟨fun pos pins s σ H Q I ⟨S, W, cc, q⟩ => (pa_cons h.pe r.pa hs).run pos pins s σ H Q I ⟨S, W, cc, (okR.bind q).imp fun v H1 ⟨x, S1, W1, st, c1, rv, q1⟩ => ?_⟩⟩, fun S rs S' h => ?_⟩
  · unfold msel' at q1
    split at q1
    · rename_i x1 e1
      obtain ⟨W1', ex, hx⟩ := sarg_ok rv e1
      exact ⟨S1, W1', c1.ext ex, (okR.one (q1.shift' ex)).imp fun vs H2 ⟨xs, S2, W2, st2, c2, rv2, q2⟩ => q2 _ H2 W2 Stp.refl c2 (hx W2 H2 st2 vs xs rv2)⟩
    · exact q1.elim
  · unfold mconsA at h
    cases e1 : m S with
    | ok x S1 =>
      rw [e1] at h
      have h : msel' (sarg b2 x) (fun x1 => (ma S1).bind fun xs S2 => R.ok (x1 :: xs) S2) = .ok rs S' := h
      unfold msel' at h
      split at h
      · cases e2 : ma S1 with
        | ok xs S2 =>
          rw [e2] at h
          cases h
          simp [r.len _ _ _ e2]
        | exc _ _ => rw [e2] at h; cases h
        | stuck => rw [e2] at h; cases h
      · cases h
    | exc _ _ => rw [e1] at h; cases h
    | stuck => rw [e1] at h; cases h
/-! ### displays -/
def datas : List RV → Option (List PyData)
  | [] => some []
  | .d x :: r => match datas r with
    | some xs => some (x :: xs)
    | none => none
  | _ :: _ => none
theorem RAll.datas {K : Frag} {σ : L2.St} {W : Own} {H : Hp} : ∀ {rs : List RV} {vs : List V} {ds : List PyData}, RAll K σ W H vs rs → datas rs = some ds → RpAll K W H vs ds
  | [], _, _, h, e => by cases h; cases e; exact .nil
  | .d x :: r, _, _, h, e => by
    cases h with
    | d a b =>
      unfold M.datas at e
      split at e
      · rename_i xs e1
        cases e
        exact .cons a (b.datas e1)
      · cases e
  | .pk _ _ :: _, _, _, _, e => by cases e
  | .nw _ :: _, _, _, _, e => by cases e
theorem RAll.length {K : Frag} {σ : L2.St} {W : Own} {H : Hp} : ∀ {rs : List RV} {vs : List V}, RAll K σ W H vs rs → vs.length = rs.length
  | [], _, h => by cases h; rfl
  | .d x :: r, _, h => by cases h with | d a b => simp [b.length]
  | .pk _ _ :: _, _, h => by cases h with | pk _ _ b => simp [b.length]
  | .nw _ :: _, _, h => by cases h
def mdatas {α : Type} (o : Option (List PyData)) (k : List PyData → R α) : R α := match o with
  | some z => k z
  | none => .stuck
def mtup (m : ML) : ME := fun S => (m S).bind fun rs S1 => mdatas (datas rs) fun ds => .ok (.d (.tuple ds)) S1
def mlst (m : ML) : ME := fun S => (m S).bind fun rs S1 => mdatas (datas rs) fun ds => .ok (.nw (.lst ds)) S1
theorem okR.eqn {α β : Type} {ra : Own → Hp → β → α → Prop} {K : Frag} {W : Own} {H : Hp} {σ : L2.St} {Q : β → Hp → Prop} {z : R α} (h : okR ra K G b W H σ Q z) : okR (fun W H v r => ra W H v r ∧ ∃ S', z = .ok r S') K G b W H σ Q z := by
  cases z with
  | ok r S' => exact fun v H' W' s c q => h v H' W' s c q.1
  | exc c S' => exact h
  | stuck => exact h
theorem ext_new {K : Frag} {W : Own} {H : Hp} {p : Addr} {o : HO} {mk : Mk} (np : H p = none) : Ext W H (setW W p mk) (upd H p o) := fun a u e => by
  have : a ≠ p := ne_of_none e np
  exact ⟨by rw [upd_ne this]; exact e, fun _ => setW_ne this⟩
theorem ev_tup {x1} (h : AV b X G es ma) (hl : es.length ≤ 1000000 := by decide) : EV b X G (.Tuple es x1 pos) (mtup ma) :=
  ⟨(pe_tup h.pa).imp fun σ H Q ⟨S, W, cc, q⟩ => ⟨S, W, cc, by
    have h2 := okR.bind (ra := relA X.K σ) (b1 := b) (b2 := true) (by rw [Bool.and_true]; exact q)
    cases em : ma S with
    | ok rs S1 =>
      rw [em] at h2
      intro v H1 W1 st c1 rv
      obtain ⟨rs', S1', W1', st', c1', rv', q1⟩ := h2 v H1 W1 st c1 rv
      have el : v.length = rs'.length := rv'.length
      have el2 : v.length = rs.length := rv.length
      have e3 := h.len _ _ _ em
      refine ⟨by rw [sizeLine_eq]; omega, fun p np => ?_⟩
      unfold mdatas at q1
      split at q1
      · rename_i ds e1
        have ex : Ext W1' H1 (setW W1' p .frz) (upd H1 p (.tup v)) := ext_new (K := X.K) np
        exact q1 (.ref p) _ _ ex (c1'.ext ex) (.tup (.inl ⟨setW_same, .inl upd_same⟩) ((rv'.datas e1).fz ex.fz))
      · exact q1.elim
    | exc c S1 => rw [em] at h2; exact h2
    | stuck => rw [em] at h2; exact h2⟩⟩
theorem ev_lst (h : AV b X G es ma) (hl : es.length ≤ 1000000 := by decide) : EV b X G (.List es pos) (mlst ma) :=
  ⟨(pe_lst h.pa).imp fun σ H Q ⟨S, W, cc, q⟩ => ⟨S, W, cc, by
    have h2 := okR.bind (ra := relA X.K σ) (b1 := b) (b2 := true) (by rw [Bool.and_true]; exact q)
    cases em : ma S with
    | ok rs S1 =>
      rw [em] at h2
      intro v H1 W1 st c1 rv
      obtain ⟨rs', S1', W1', st', c1', rv', q1⟩ := h2 v H1 W1 st c1 rv
      have el2 : v.length = rs.length := rv.length
      have e3 := h.len _ _ _ em
      refine ⟨by rw [sizeLine_eq]; omega, fun p np => ?_⟩
      unfold mdatas at q1
      split at q1
      · rename_i ds e1
        have ex : Ext W1' H1 (setW W1' p (.own [0])) (upd H1 p (.lst v)) := ext_new (K := X.K) np
        exact q1 (.ref p) _ _ ex (c1'.ext ex) (.lst setW_same upd_same ((rv'.datas e1).fz ex.fz))
      · exact q1.elim
    | exc c S1 => rw [em] at h2; exact h2
    | stuck => rw [em] at h2; exact h2⟩⟩
/-! ### x = e -/
/-- what is kept at a path: the marks of a temporary's tree are its own from now on -/
noncomputable def mvW (p : Path) (W : Own) : Own := fun a => open Classical in if h : ∃ l : Path, W a = .own (l ++ [0]) then .own (h.choose ++ p) else W a
theorem mvW_tmp {p : Path} {W : Own} {a : Addr} {l : Path} (h : W a = .own (l ++ [0])) : mvW p W a = .own (l ++ p) := by
  have hx : ∃ l : Path, W a = .own (l ++ [0]) := ⟨l, h⟩
  unfold mvW
  rw [dif_pos hx]
  have e := Mk.own.inj (h.symm.trans hx.choose_spec)
  rw [← List.append_cancel_right e]
theorem mvW_n {p : Path} {W : Own} {a : Addr} (h : ¬ tmpM (W a)) : mvW p W a = W a := by
  unfold mvW
  rw [dif_neg (fun ⟨l, e⟩ => h ⟨l, e⟩)]
theorem ext_mvW {p : Path} {W : Own} {H : Hp} : Ext W H (mvW p W) H := fun _ _ h => ⟨h, fun n => mvW_n n⟩
theorem Tr.moved {K : Frag} {p : Path} {W : Own} {H : Hp} {v : V} {t : MV} (h : Tr K W H [0] v t) : Tr K (mvW p W) H p v t :=
  Tr.ren ext_mvW.fz (q := [0]) (p := p) (fun a o l ha hw => ⟨mvW_tmp hw, ha⟩) t [] h
def RV.keep (r : RV) : Option MV := match r with
  | .d x => some (.d x)
  | .nw t => some t
  | .pk _ (.d x) => some (.d x)
  | .pk _ _ => none
/-- the same, a new list told frozen -/
def RV.keepF (r : RV) : Option MV := match r with
  | .d x => some (.d x)
  | .nw (.lst ds) => some (.d (.list ds))
  | .nw t => some t
  | .pk _ (.d x) => some (.d x)
  | .pk _ _ => none
theorem keep_ok {K : Frag} {σ : L2.St} {W : Own} {H : Hp} {v : V} {r : RV} {t : MV} (p : Path) (h : RVal K σ W H v r) (e : r.keep = some t) : Tr K (mvW p W) H p v t := by
  cases r with
  | d x => cases e; exact .d (Rp.fz ext_mvW.fz x h)
  | nw t => cases e; exact Tr.moved h
  | pk q t =>
    cases t with
    | d x =>
      cases e
      cases h.1 with
      | d h => exact .d (Rp.fz ext_mvW.fz x h)
    | _ => cases e
theorem keepF_ok {K : Frag} {σ : L2.St} {W : Own} {H : Hp} {v : V} {r : RV} {t : MV} (p : Path) (h : RVal K σ W H v r) (e : r.keepF = some t) : ∃ W', Ext W H W' H ∧ Tr K W' H p v t := by
  cases r with
  | d x => cases e; exact ⟨W, Ext.refl, .d h⟩
  | nw t =>
    cases t with
    | lst ds => cases e; exact ⟨frz0 W, ext_frz0, .d (frz_list h)⟩
    | d x => cases e; exact ⟨_, ext_mvW, Tr.moved (p := p) h⟩
    | dic x => cases e; exact ⟨_, ext_mvW, Tr.moved (p := p) h⟩
    | obj c x => cases e; exact ⟨_, ext_mvW, Tr.moved (p := p) h⟩
    | rcd x => cases e; exact ⟨_, ext_mvW, Tr.moved (p := p) h⟩
    | fdc x => cases e; exact ⟨_, ext_mvW, Tr.moved (p := p) h⟩
    | lot x => cases e; exact ⟨_, ext_mvW, Tr.moved (p := p) h⟩
    | tot x => cases e; exact ⟨_, ext_mvW, Tr.moved (p := p) h⟩
  | pk q t =>
    cases t with
    | d x =>
      cases e
      cases h.1 with
      | d h => exact ⟨W, Ext.refl, .d h⟩
    | _ => cases e
theorem Conc.set {K : Frag} {S : MS} {σ : L2.St} {W W' : Own} {H : Hp} {i : Nat} {v : V} {t : MV} (c : Conc K G S σ H W) (hi : Free G i) (ex : Ext W H W' H) (h : Tr K W' H [i + 1] v t) : Conc K G (S.set i (some t)) (σ.set i (some v)) H W' := by
  refine ⟨by rw [List.length_set, List.length_set]; exact c.len, fun j t' hj => ?_, c.mono.trans ex.mono, fun j v' hj => ?_⟩
  · by_cases e : i = j
    · subst e
      have hlt : i < (S.set i (some t)).length := (List.getElem?_eq_some_iff.mp hj).1
      rw [List.length_set] at hlt
      rw [List.getElem?_set_self hlt] at hj
      cases hj
      exact ⟨v, by rw [List.getElem?_set_self (by rw [← c.len]; exact hlt)], h⟩
    · rw [List.getElem?_set_ne e] at hj
      obtain ⟨v', h1, h2⟩ := (c.ext ex).tr j t' hj
      exact ⟨v', by rw [List.getElem?_set_ne e]; exact h1, h2⟩
  · have hne : i ≠ j := fun e => by
      subst e
      have hi : G.fx i = none := hi
      rw [hi] at hj; cases hj
    rw [List.getElem?_set_ne hne]
    exact c.args j v' hj
def setS (i : Nat) (o : Option MV) (S : MS) : RS := match o with
  | some t => .nx (S.set i (some t))
  | none => .stuck
def mset (i : Nat) (m : ME) : MSt := fun S => (m S).toS fun r S1 => setS i r.keep S1
def msetF (i : Nat) (m : ME) : MSt := fun S => (m S).toS fun r S1 => setS i r.keepF S1
/-- h: PS of x = e by any reading of e -/
theorem st_set {i : Nat} {st : Stmt} (hp : ∀ te, PE X e te → PS X st (tAsg te (gName i))) (hi : Free G i) (h : EV b X G e m) : ST X G st (mset i m) :=
  ⟨(hp _ h.pe).imp fun D σ H ⟨S, W, cc, q⟩ => ⟨S, W, cc, (okR_of_S (f := fun r S1 => setS i r.keep S1) q).imp fun v H1 ⟨r, S1, W1, c1, rv, q1⟩ => by
    unfold setS at q1
    split at q1
    · rename_i t e1
      exact q1 _ H1 _ ext_mvW.mono (c1.set hi ext_mvW (keep_ok [i + 1] rv e1))
    · exact q1.elim⟩⟩
theorem st_setF {i : Nat} {st : Stmt} (hp : ∀ te, PE X e te → PS X st (tAsg te (gName i))) (hi : Free G i) (h : EV b X G e m) : ST X G st (msetF i m) :=
  ⟨(hp _ h.pe).imp fun D σ H ⟨S, W, cc, q⟩ => ⟨S, W, cc, (okR_of_S (f := fun r S1 => setS i r.keepF S1) q).imp fun v H1 ⟨r, S1, W1, c1, rv, q1⟩ => by
    unfold setS at q1
    split at q1
    · rename_i t e1
      obtain ⟨W', ex, tr⟩ := keepF_ok [i + 1] rv e1
      exact q1 _ H1 _ ex.mono (c1.set hi ex tr)
    · exact q1.elim⟩⟩
end
end M

set_option maxHeartbeats 2000000
/-! M6: defs by what they compute, and their calls. Own work. -/
namespace M
open PySem PySem.Spec PyProof.Rows L2

inductive TrA (K : Frag) (W : Own) (H : Hp) : Nat → List V → List MV → Prop
  | nil {n : Nat} : TrA K W H n [] []
  | cons {n : Nat} {v : V} {t : MV} {vs : List V} {ts : List MV} : Tr K W H [n + 1] v t → TrA K W H (n + 1) vs ts → TrA K W H n (v :: vs) (t :: ts)
inductive RF where
  | ok (r : RV) (ts : List MV)
  | exc (c : Str) (ts : List MV)
  | stuck
abbrev MF := List MV → RF
def okF (K : Frag) (W : Own) (H : Hp) (vs : List V) (Q : VK) (E : XK) : RF → Prop
  | .ok r ts => ∀ v H' W', Mono W H W' H' → TrA K W' H' 0 vs ts → RNew K W' H' v r → Q v H'
  | .exc c ts => ∀ H' W', Mono W H W' H' → TrA K W' H' 0 vs ts → E (.ref (He.ga K c)) none H'
  | .stuck => False
/-- the promise of a def that computes f -/
def spM (K : Frag) (n : Nat) (f : MF) : Sp := fun vs H Q E => vs.length = n ∧ ∃ W ts, TrA K W H 0 vs ts ∧ okF K W H vs Q E (f ts)
section
variable {K : Frag} {W W' : Own} {H H' : Hp}
theorem TrA.len : ∀ {ts : List MV} {n : Nat} {vs : List V}, TrA K W H n vs ts → vs.length = ts.length
  | [], _, _, h => by cases h; rfl
  | _ :: _, _, _, h => by cases h with | cons a b => simp [b.len]
theorem TrA.get : ∀ {ts : List MV} {n i : Nat} {vs : List V} {t : MV}, TrA K W H n vs ts → ts[i]? = some t → ∃ v, vs[i]? = some v ∧ Tr K W H [n + i + 1] v t
  | [], _, _, _, _, h, e => by simp at e
  | _ :: ts, n, 0, _, _, h, e => by
    cases h with
    | cons a b =>
      simp at e; subst e
      exact ⟨_, rfl, a⟩
  | _ :: ts, n, i + 1, _, _, h, e => by
    cases h with
    | cons a b =>
      obtain ⟨v, h1, h2⟩ := b.get (i := i) (by simpa using e)
      exact ⟨v, by simpa using h1, by rw [show n + (i + 1) + 1 = n + 1 + i + 1 by omega]; exact h2⟩
end
/-! ### a body -/
def tkA : Nat → MS → Option (List MV)
  | 0, _ => some []
  | n + 1, some t :: S => match tkA n S with
    | some ts => some (t :: ts)
    | none => none
  | _ + 1, _ => none
def RV.out (r : RV) : Option RV := match r with
  | .d x => some (.d x)
  | .nw t => some (.nw t)
  | .pk _ (.d x) => some (.d x)
  | .pk _ _ => none
def finF (n : Nat) (S : MS) (k : List MV → RF) : RF := match tkA n S with
  | some ts => k ts
  | none => .stuck
def outF (r : RV) (k : RV → RF) : RF := match r.out with
  | some x => k x
  | none => .stuck
def fnM (n N : Nat) (body : MSt) : MF := fun ts => match body (ts.map some ++ List.replicate (N - n) none) with
  | .rt r S => outF r fun x => finF n S fun us => .ok x us
  | .nx S => finF n S fun us => .ok (.d .none) us
  | .exc c S => finF n S fun us => .exc c us
  | _ => .stuck
theorem tkA_ok {K : Frag} {W : Own} {H : Hp} : ∀ (n : Nat) {S : MS} {ts : List MV} {vs : List V} {k : Nat}, tkA n S = some ts → vs.length = n → (∀ (i : Nat) (t : MV), S[i]? = some (some t) → ∀ v, vs[i]? = some v → Tr K W H [k + i + 1] v t) → TrA K W H k vs ts
  | 0, S, ts, vs, k, e, hl, h => by
    cases e
    cases vs with
    | nil => exact .nil
    | cons _ _ => simp at hl
  | n + 1, [], ts, vs, k, e, hl, h => by cases e
  | n + 1, none :: S, ts, vs, k, e, hl, h => by cases e
  | n + 1, some t :: S, ts, vs, k, e, hl, h => by
    unfold tkA at e
    split at e
    · rename_i ts' e'
      cases e
      cases vs with
      | nil => simp at hl
      | cons v vs =>
        refine .cons (by simpa using h 0 t rfl v rfl) (tkA_ok n e' (by simpa using hl) fun i u hu w hw => ?_)
        have := h (i + 1) u (by simpa using hu) w (by simpa using hw)
        rw [show k + 1 + i + 1 = k + (i + 1) + 1 by omega]
        exact this
    · cases e
theorem out_ok {K : Frag} {σ : L2.St} {W : Own} {H : Hp} {v : V} {r x : RV} (h : RVal K σ W H v r) (e : r.out = some x) : RNew K W H v x := by
  cases r with
  | d y => cases e; exact h
  | nw t => cases e; exact h
  | pk p t =>
    cases t with
    | d y =>
      cases e
      cases h.1 with
      | d h => exact h
    | _ => cases e
section
variable {P : Program} {w : World} {K : Frag} {mg : Str → Option Value} {base : Heap}
theorem start_conc {W : Own} {H : Hp} {vs : List V} {ts : List MV} {N : List Str} {xw : WX} (h : TrA K W H 0 vs ts) : Conc K ⟨H, W, vs, xw, []⟩ (ts.map some ++ List.replicate (N.length - vs.length) none) (start N vs) H W := by
  refine ⟨by simp [L2.start, h.len], fun i t e => ?_, Mono.refl, fun j v e => ?_⟩
  · rw [List.getElem?_append] at e
    split at e
    · rename_i hlt
      rw [List.getElem?_map] at e
      cases e2 : ts[i]? with
      | none => rw [e2] at e; cases e
      | some t' =>
        rw [e2] at e
        cases e
        obtain ⟨v, h1, h2⟩ := h.get e2
        refine ⟨v, ?_, by simpa using h2⟩
        have hv : i < vs.length := (List.getElem?_eq_some_iff.mp h1).1
        unfold L2.start
        rw [List.getElem?_append_left (by simpa using hv), List.getElem?_map, h1]
        rfl
    · rw [List.getElem?_replicate] at e
      split at e <;> cases e
  · have e : vs[j]? = some v := by
      unfold GC.fx at e
      cases e2 : vs[j]? with
      | some w => simp only [e2] at e; exact e
      | none => simp only [e2] at e; cases e
    have hv : j < vs.length := (List.getElem?_eq_some_iff.mp e).1
    unfold L2.start
    rw [List.getElem?_append_left (by simpa using hv), List.getElem?_map, show vs[j]? = some v from e]
    rfl
theorem end_args {G : GC} {S : MS} {σ : L2.St} {H : Hp} {W : Own} {n : Nat} {ts : List MV} (c : Conc K G S σ H W) (hl : G.vs0.length = n) (e : tkA n S = some ts) : TrA K W H 0 G.vs0 ts :=
  tkA_ok n e hl fun i t ht v hv => by
    obtain ⟨v', h1, h2⟩ := c.tr i t ht
    rw [c.args i v (fx_of hv)] at h1
    cases h1
    simpa using h2
/-- a def whose body computes m -/
theorem ok_of {x qual : Str} {params : Arguments} {body : List Stmt} {scope : Scope} {dvs : List V} {kws : List (Str × V)} {f : Addr} {fd : FuncData} {N ps : List Str} {k n NN : Nat} {m : MSt} (F : FunD K x qual params body scope dvs kws f fd) (S : FnScope N ps scope)
    (hn : ps.length = n) (hN : N.length = NN)
    (h : ∀ (cdv : Value) (A : Around) (outer : List Env) (s : Shared) (H : Hp) (E : XK) (G : GC), Room k (A.deeper (envOfC qual scope s.heap.objs.size f cdv)) → (∀ N' : List Str, Takes (cxOf (L2.CX P w) P w K mg base N' qual scope f cdv A outer s H E) G.xw) → G.vs0.length = n ∧ G.pins = [] →
      STs (cxOf (L2.CX P w) P w K mg base N qual scope f cdv A outer s H E) G body m) : FnOk P w K mg base (L2.CX P w) (k + 1) f fd ps (spM K n (fnM n NN m)) := by
  subst hn hN
  refine F.ok S (fun vs H Q E h => h.1) (fun cdv A outer s H vs Q E hr hs => ?_)
  obtain ⟨hl, W, ts, ht, hq⟩ := hs
  let G : GC := ⟨H, W, vs, fun c d _ H' => E c d H', []⟩
  have hST := h cdv A outer s H E G hr (fun _ => takes_of rfl rfl rfl rfl) ⟨hl, rfl⟩
  refine ⟨_, hST.ps, ?_⟩
  have st : Conc K G (ts.map some ++ List.replicate (N.length - ps.length) none) (start N vs) H W := by
    rw [← hl]
    exact start_conc ht
  refine ⟨_, W, st, ?_⟩
  unfold fnM at hq
  cases e : m (ts.map some ++ List.replicate (N.length - ps.length) none) with
  | nx S' =>
    rw [e] at hq
    intro σ' H' W' mo c
    have hq : okF K W H vs Q E (finF ps.length S' fun us => .ok (.d .none) us) := hq
    unfold finF at hq
    split at hq
    · rename_i us eu
      exact hq _ H' W' mo (end_args (G := G) c hl eu) .non
    · exact hq.elim
  | rt r S' =>
    rw [e] at hq
    intro v σ' H' W' mo c rv
    have hq : okF K W H vs Q E (outF r fun x => finF ps.length S' fun us => .ok x us) := hq
    unfold outF finF at hq
    split at hq
    · rename_i x ex
      split at hq
      · rename_i us eu
        exact hq v H' W' mo (end_args (G := G) c hl eu) (out_ok rv ex)
      · exact hq.elim
    · exact hq.elim
  | exc c' S' =>
    rw [e] at hq
    intro σ' H' W' mo c
    have hq : okF K W H vs Q E (finF ps.length S' fun us => .exc c' us) := hq
    unfold finF at hq
    split at hq
    · rename_i us eu
      exact hq H' W' mo (end_args (G := G) c hl eu)
    · exact hq.elim
  | bk S' => rw [e] at hq; exact hq.elim
  | ct S' => rw [e] at hq; exact hq.elim
  | stuck => rw [e] at hq; exact hq.elim
/-- the same promise by another function, where it says as much -/
theorem FnOk.as {CX : CXT} {k n : Nat} {f : Addr} {fd : FuncData} {ps : List Str} {g g' : MF} (F : FnOk P w K mg base CX k f fd ps (spM K n g)) (h : ∀ ts, g' ts ≠ .stuck → g ts = g' ts) : FnOk P w K mg base CX k f fd ps (spM K n g') :=
  F.imp fun vs H Q E ⟨hl, W, ts, ht, hq⟩ => ⟨hl, W, ts, ht, by
    rw [h ts (fun e => by rw [e] at hq; exact hq)]
    exact hq⟩
end

/-! ### the marks of a callee -/
section
variable (α β : Path → Option Path)
def downW (W : Own) : Own := fun a => match W a with
  | .own q => match α q with
    | some q' => .own q'
    | none => .out
  | m => m
noncomputable def upW (W : Own) (H : Hp) (Wc : Own) : Own := fun a => open Classical in if (∃ o, H a = some o) ∧ ∃ q, W a = .own q ∧ α q = none then W a else match Wc a with
  | .own q => match β q with
    | some q' => .own q'
    | none => .out
  | m => m
end
section
variable {α β : Path → Option Path} {W Wc : Own} {H H' : Hp} {a : Addr} {o : HO} {q q' : Path}
theorem down_frz (h : W a = .frz) : downW α W a = .frz := by unfold downW; rw [h]
theorem down_out (h : W a = .out) : downW α W a = .out := by unfold downW; rw [h]
theorem down_some (h : W a = .own q) (e : α q = some q') : downW α W a = .own q' := by unfold downW; rw [h]; simp only [e]
theorem down_none (h : W a = .own q) (e : α q = none) : downW α W a = .out := by unfold downW; rw [h]; simp only [e]
theorem down_fz : Fz W H (downW α W) H := fun a o h w => ⟨down_frz w, h⟩
theorem up_kept (mo : Mono (downW α W) H Wc H') (ha : H a = some o) (h : W a = .own q) (e : α q = none) : upW α β W H Wc a = .own q ∧ H' a = some o := by
  refine ⟨?_, (mo a o ha (.inr (down_none h e))).2⟩
  unfold upW
  rw [if_pos ⟨⟨o, ha⟩, q, h, e⟩, h]
theorem up_mono (mo : Mono (downW α W) H Wc H') : Mono W H (upW α β W H Wc) H' := fun a o ha w => by
  rcases w with w | w
  · obtain ⟨h1, h2⟩ := mo a o ha (.inl (down_frz w))
    rw [down_frz w] at h1
    refine ⟨?_, h2⟩
    unfold upW
    rw [if_neg (fun ⟨_, q, e, _⟩ => by rw [w] at e; cases e), h1, w]
  · obtain ⟨h1, h2⟩ := mo a o ha (.inr (down_out w))
    rw [down_out w] at h1
    refine ⟨?_, h2⟩
    unfold upW
    rw [if_neg (fun ⟨_, q, e, _⟩ => by rw [w] at e; cases e), h1, w]
theorem up_not (mo : Mono (downW α W) H Wc H') (h : Wc a ≠ .out) : ¬ ((∃ o, H a = some o) ∧ ∃ q, W a = .own q ∧ α q = none) := fun ⟨⟨o, ho⟩, q, e, e2⟩ => by
  have := (mo a o ho (.inr (down_none e e2))).1
  rw [down_none e e2] at this
  exact h this
theorem up_fz (mo : Mono (downW α W) H Wc H') : Fz Wc H' (upW α β W H Wc) H' := fun a o ha w => by
  refine ⟨?_, ha⟩
  unfold upW
  rw [if_neg (up_not mo (by rw [w]; exact fun z => nomatch z)), w]
theorem up_own (mo : Mono (downW α W) H Wc H') (h : Wc a = .own q) (e : β q = some q') : upW α β W H Wc a = .own q' := by
  unfold upW
  rw [if_neg (up_not mo (by rw [h]; exact fun z => nomatch z)), h]
  simp only [e]
theorem up_ext (mo : Mono (downW α W) H Wc H') (n : ∀ q, α q = none) : Ext W H (upW α β W H Wc) H' := fun a o ha => by
  cases e : W a with
  | own q =>
    obtain ⟨h1, h2⟩ := up_kept (β := β) mo ha e (n q)
    exact ⟨h2, fun _ => h1⟩
  | frz =>
    obtain ⟨h1, h2⟩ := up_mono (β := β) mo a o ha (.inl e)
    exact ⟨h2, fun _ => by rw [h1, e]⟩
  | out =>
    obtain ⟨h1, h2⟩ := up_mono (β := β) mo a o ha (.inr e)
    exact ⟨h2, fun _ => by rw [h1, e]⟩
theorem up_new {K : Frag} {v : V} {r : RV} (mo : Mono (downW α W) H Wc H') (hβ : ∀ l : Path, β (l ++ [0]) = some (l ++ [0])) (h : RNew K Wc H' v r) : RNew K (upW α β W H Wc) H' v r := by
  cases r with
  | d x => exact Rp.fz (up_fz mo) x h
  | nw t => exact Tr.ren (up_fz mo) (q := [0]) (p := [0]) (fun a o l ha hw => ⟨up_own mo hw (hβ l), ha⟩) t [] h
  | pk p t => exact h.elim
end
/-! ### a call -/
def RV.tree : RV → MV
  | .d x => .d x
  | .nw t => t
  | .pk _ t => t
def pks : List RV → Nat → List (Nat × Path)
  | [], _ => []
  | .pk p _ :: r, j => (j, p) :: pks r (j + 1)
  | _ :: r, j => pks r (j + 1)
theorem TrA.of {K : Frag} {σ : L2.St} {W : Own} {H : Hp} {α : Path → Option Path} : ∀ {rs : List RV} {n : Nat} {vs : List V}, (∀ j p, (j, p) ∈ pks rs n → ∀ l : Path, α (l ++ p) = some (l ++ [j + 1])) → RAll K σ W H vs rs → TrA K (downW α W) H n vs (rs.map RV.tree)
  | [], _, _, _, h => by cases h; exact .nil
  | .d x :: r, n, _, hα, h => by
    cases h with
    | d a b => exact .cons (.d (Rp.fz down_fz x a)) (TrA.of (fun j p hj => hα j p hj) b)
  | .pk p t :: r, n, _, hα, h => by
    cases h with
    | pk a _ b =>
      refine .cons ?_ (TrA.of (fun j p hj => hα j p (List.mem_cons_of_mem _ hj)) b)
      exact Tr.ren down_fz (q := p) (p := [n + 1]) (fun a o l ha hw => ⟨down_some hw (hα n p List.mem_cons_self l), ha⟩) t [] a
  | .nw _ :: r, n, _, _, h => by cases h
theorem RAll.pkAt {K : Frag} {σ : L2.St} {W : Own} {H : Hp} {j : Nat} {p : Path} : ∀ {rs : List RV} {n : Nat} {vs : List V}, RAll K σ W H vs rs → (j, p) ∈ pks rs n → ∃ v, n ≤ j ∧ vs[j - n]? = some v ∧ Nav H σ p v
  | [], _, _, _, h => by cases h
  | .d x :: r, n, _, ha, h => by
    cases ha with
    | d a b =>
      obtain ⟨v, h1, h2, h3⟩ := b.pkAt (show (j, p) ∈ pks r (n + 1) from h)
      refine ⟨v, by omega, ?_, h3⟩
      rw [show j - n = (j - (n + 1)) + 1 by omega]
      simpa using h2
  | .pk q t :: r, n, _, ha, h => by
    cases ha with
    | pk a nv b =>
      rcases List.mem_cons.mp h with h | h
      · cases h
        exact ⟨_, Nat.le_refl _, by simp, nv⟩
      · obtain ⟨v, h1, h2, h3⟩ := b.pkAt h
        refine ⟨v, by omega, ?_, h3⟩
        rw [show j - n = (j - (n + 1)) + 1 by omega]
        simpa using h2
  | .nw _ :: r, n, _, ha, _ => by cases ha
def RF.toR (o : Option (Nat × Path)) (z : RF) (S : MS) : R RV := match z, o with
  | .ok r _, none => .ok r S
  | .exc c _, none => .exc c S
  | .ok r ts, some (j, p) => match ts[j]? with
    | some n => .ok r (updS p n S)
    | none => .stuck
  | .exc c ts, some (j, p) => match ts[j]? with
    | some n => .exc c (updS p n S)
    | none => .stuck
  | .stuck, _ => .stuck
/-- α, β where nothing is lent, where p is lent as the j-th argument -/
def a0 : Path → Option Path := fun _ => none
noncomputable def b0 : Path → Option Path := fun q => open Classical in if ∃ l : Path, q = l ++ [0] then some q else none
noncomputable def a1 (j : Nat) (p : Path) : Path → Option Path := fun q => open Classical in if h : ∃ l : Path, q = l ++ p then some (h.choose ++ [j + 1]) else none
noncomputable def b1 (j : Nat) (p : Path) : Path → Option Path := fun q => open Classical in if h : ∃ l : Path, q = l ++ [j + 1] then some (h.choose ++ p) else b0 q
theorem b0_0 (l : Path) : b0 (l ++ [0]) = some (l ++ [0]) := if_pos ⟨l, rfl⟩
theorem a1_p {j : Nat} {p l : Path} : a1 j p (l ++ p) = some (l ++ [j + 1]) := by
  have hx : ∃ l' : Path, l ++ p = l' ++ p := ⟨l, rfl⟩
  unfold a1
  rw [dif_pos hx, ← List.append_cancel_right hx.choose_spec]
theorem a1_n {j : Nat} {p q : Path} (h : ¬ ∃ l : Path, q = l ++ p) : a1 j p q = none := dif_neg h
theorem b1_j {j : Nat} {p l : Path} : b1 j p (l ++ [j + 1]) = some (l ++ p) := by
  have hx : ∃ l' : Path, l ++ [j + 1] = l' ++ [j + 1] := ⟨l, rfl⟩
  unfold b1
  rw [dif_pos hx, ← List.append_cancel_right hx.choose_spec]
theorem b1_0 {j : Nat} {p : Path} (l : Path) : b1 j p (l ++ [0]) = some (l ++ [0]) := by
  unfold b1
  rw [dif_neg (fun ⟨l', e⟩ => last_ne e.symm)]
  exact b0_0 l
/-- the promise of a callee, from what is wished of its result here -/
theorem call_I {K : Frag} {G : GC} {b : Bool} {S : MS} {σ : L2.St} {H : Hp} {W : Own} {Q : VK} {f : MF} {rs : List RV} {vs : List V} {n : Nat} (c : Conc K G S σ H W) (ra : RAll K σ W H vs rs) (hl : rs.length = n) (hp : pks rs 0 = [])
    (h : okR (relV K σ) K G b W H σ Q ((f (rs.map RV.tree)).toR none S)) : spM K n f vs H Q (WE G.xw σ) := by
  refine ⟨by rw [ra.length]; exact hl, downW a0 W, rs.map RV.tree, TrA.of (fun j p hj => by rw [hp] at hj; cases hj) ra, ?_⟩
  cases e : f (rs.map RV.tree) with
  | ok r ts =>
    rw [e] at h
    intro v H' Wc mo _ rn
    have ex := up_ext (β := b0) mo (fun _ => rfl)
    exact h v H' _ (Stp.of ex) (c.ext ex) (up_new mo b0_0 rn).rv
  | exc c' ts =>
    rw [e] at h
    intro H' Wc mo _
    have ex := up_ext (β := b0) mo (fun _ => rfl)
    exact h H' _ ex.mono (c.ext ex)
  | stuck => rw [e] at h; exact h
theorem call_B {K : Frag} {G : GC} {S : MS} {σ : L2.St} {H : Hp} {W : Own} {Q : VK} {f : MF} {rs : List RV} {vs : List V} {n j : Nat} {p : Path} (c : Conc K G S σ H W) (ra : RAll K σ W H vs rs) (hl : rs.length = n) (hp : pks rs 0 = [(j, p)])
    (h : okR (relV K σ) K G false W H σ Q ((f (rs.map RV.tree)).toR (some (j, p)) S)) : spM K n f vs H Q (WE G.xw σ) := by
  refine ⟨by rw [ra.length]; exact hl, downW (a1 j p) W, rs.map RV.tree, TrA.of (fun j' p' hj => ?_) ra, ?_⟩
  · rw [hp] at hj
    have := List.mem_singleton.mp hj
    cases this
    exact fun l => a1_p
  · obtain ⟨v0, _, hv0, nv⟩ := ra.pkAt (j := j) (p := p) (n := 0) (by rw [hp]; exact List.mem_cons_self)
    have fin : ∀ {H' : Hp} {Wc : Own} {ts : List MV} {t : MV}, Mono (downW (a1 j p) W) H Wc H' → TrA K Wc H' 0 vs ts → ts[j]? = some t → Conc K G (updS p t S) σ H' (upW (a1 j p) (b1 j p) W H Wc) := fun {H' Wc ts t} mo ta et => by
      refine c.rep (up_mono mo) nv (fun a o q ha hw hq _ => up_kept mo ha hw (a1_n hq)) ?_
      obtain ⟨v1, h1, h2⟩ := ta.get et
      rw [show j - 0 = j from rfl] at hv0
      rw [hv0] at h1
      cases h1
      rw [Nat.zero_add] at h2
      exact Tr.ren (up_fz mo) (q := [j + 1]) (p := p) (fun a o l ha hw => ⟨up_own mo hw b1_j, ha⟩) t [] h2
    cases e : f (rs.map RV.tree) with
    | ok r ts =>
      rw [e] at h
      intro v H' Wc mo ta rn
      unfold RF.toR at h
      simp only at h
      split at h
      · rename_i t et
        exact h v H' _ (up_mono mo) (fin mo ta et) (up_new mo b1_0 rn).rv
      · exact h.elim
    | exc c' ts =>
      rw [e] at h
      intro H' Wc mo ta
      unfold RF.toR at h
      simp only at h
      split at h
      · rename_i t et
        exact h H' _ (up_mono mo) (fin mo ta et)
      · exact h.elim
    | stuck => rw [e] at h; exact h
/-- what a call computes; fl: inert, nothing is lent -/
def callR (fl : Bool) (f : MF) (rs : List RV) (S : MS) : R RV := match pks rs 0 with
  | [] => (f (rs.map RV.tree)).toR none S
  | [jp] => if fl then .stuck else (f (rs.map RV.tree)).toR (some jp) S
  | _ => .stuck
theorem call_ok {K : Frag} {G : GC} {b : Bool} {S : MS} {σ : L2.St} {H : Hp} {W : Own} {Q : VK} {f : MF} {rs : List RV} {vs : List V} {n : Nat} (c : Conc K G S σ H W) (ra : RAll K σ W H vs rs) (hl : rs.length = n)
    (h : okR (relV K σ) K G b W H σ Q (callR b f rs S)) : spM K n f vs H Q (WE G.xw σ) := by
  unfold callR at h
  split at h
  · rename_i hp
    exact call_I c ra hl hp h
  · rename_i jp hp
    cases b with
    | true => exact h.elim
    | false => exact call_B c ra hl hp h
  · exact h.elim
def mcall (fl : Bool) (f : MF) (ma : ML) : ME := fun S => (ma S).bind fun rs S1 => callR fl f rs S1
section
variable {X : Cx} {G : GC} {b : Bool} {e : Expr} {es : List Expr} {ma : ML} {x : Str} {p pos : Pos} {k n : Nat} {f : Addr} {fd : FuncData} {ps : List Str} {g : MF}
theorem ev_call (F : FnOk X.prog X.w X.K X.mg X.base (L2.CX X.prog X.w) k f fd ps (spM X.K n g)) (hr : Room k X.A) (hm : X.mg x = some (.ref f)) (hk : PySem.W.keepIn X.K (.ref f) = true) (hb : Binds X.K fd ps []) (tk : Takes X G.xw)
    (ha : AV b X G (e :: es) ma) (hg : Gl X x := by rfl) (hn : (e :: es).length = n := by rfl) (hdb : (x == ("__debug__" : Str)) = false := by decide) (he : starEach (e :: es) X.env = (false, eval e X.env) :: starEach es X.env := by rfl) (hpl : (backTo pos (starEach es X.env)).any (·.1) = false := by rfl) :
    EV b X G (.Call (.Name x p) (e :: es) [] pos) (mcall b g ma) :=
  ⟨(pe_callS F hr hg hm hk hb (fun σ => passAt tk σ) ha.pa hdb he hpl).imp fun σ H Q ⟨S, W, cc, q⟩ => ⟨S, W, cc, by
    have h2 := okR.bind (ra := relA X.K σ) (b1 := b) (b2 := b) (by rw [Bool.and_self]; exact q)
    cases em : ma S with
    | ok rs S1 =>
      rw [em] at h2
      intro v H1 W1 st c1 rv
      obtain ⟨rs', S1', W1', st', c1', rv', q1⟩ := h2 v H1 W1 st c1 rv
      refine call_ok c1' rv' ?_ q1
      rw [← rv'.length, rv.length, ha.len _ _ _ em]
      exact hn
    | exc c S1 => rw [em] at h2; exact h2
    | stuck => rw [em] at h2; exact h2⟩⟩
end
end M

set_option maxHeartbeats 2000000
/-! M7: the operators, built-ins over data. Own work. -/
namespace M
open PySem PySem.Spec PyProof.Rows L2

theorem OpR.or {X : Cx} {f : Value → Value → Sem Value} {r r' : R2} (h : OpR X f r) (h' : OpR X f r') : OpR X f (fun x y H Q => r x y H Q ∨ r' x y H Q) := fun pins s σ H x y v u Q I rx ry q =>
  q.elim (h pins s σ H x y v u Q I rx ry) (h' pins s σ H x y v u Q I rx ry)
section
variable {K : Frag}
theorem new_lst {W : Own} {H : Hp} {p : Addr} {xs : List V} {ds : List PyData} (np : H p = none) (r : RpAll K W H xs ds) : Ext W H (setW W p (.own [0])) (upd H p (.lst xs)) ∧ RNew K (setW W p (.own [0])) (upd H p (.lst xs)) (.ref p) (.nw (.lst ds)) :=
  ⟨ext_new (K := K) np, .lst setW_same upd_same (r.fz (ext_new (K := K) np).fz)⟩
theorem new_tup {W : Own} {H : Hp} {p : Addr} {xs : List V} {ds : List PyData} (np : H p = none) (r : RpAll K W H xs ds) : Ext W H (setW W p .frz) (upd H p (.tup xs)) ∧ RNew K (setW W p .frz) (upd H p (.tup xs)) (.ref p) (.d (.tuple ds)) :=
  ⟨ext_new (K := K) np, .tup (.inl ⟨setW_same, .inl upd_same⟩) (r.fz (ext_new (K := K) np).fz)⟩

/-! ### + - * // % ** -/
def gAdd : PyData → PyData → Option RV
  | .int i, .int j => some (.d (.int (i + j)))
  | .str x, .str y => if x.length + y.length ≤ 16777216 then some (.d (.str (x ++ y))) else none
  | .list xs, .list ys => if xs.length + ys.length ≤ 16777216 then some (.nw (.lst (xs ++ ys))) else none
  | .tuple xs, .tuple ys => if xs.length + ys.length ≤ 16777216 then some (.d (.tuple (xs ++ ys))) else none
  | _, _ => none
/-- list + list, also where one is the script's -/
def rCatR : R2 := fun x y H Q => ∃ l b xs zs, x = .ref l ∧ y = .ref b ∧ Rd H l (.lst xs) ∧ Rd H b (.lst zs) ∧ xs.length + zs.length ≤ sizeLine ∧ ∀ p, H p = none → Q (.ref p) (upd H p (.lst (xs ++ zs)))
theorem op_catR {X : Cx} : OpR X (binaryOp .Add) rCatR := by
  intro pins s σ H x y v u Q I rx ry h
  obtain ⟨l, b, xs, zs, rfl, rfl, hH, hB, hz, q⟩ := h
  cases rx
  cases ry
  obtain ⟨z, its, n, r, e⟩ := hH.ok I.hok
  obtain ⟨z2, its2, n2, r2, e2⟩ := hB.ok I.hok
  have hl := r.length
  have hl2 := r2.length
  refine PySem.P.add_list e e2 ?_ (by rw [List.size_toArray, List.size_toArray]; omega)
  have ea : its.toArray ++ its2.toArray = (its ++ its2).toArray := by simp
  rw [ea]
  exact ⟨.ref _, _, I.lnew (t' := s.toks) (r.append r2) (by rw [List.length_append]; omega), rfl, q _ I.fresh⟩
abbrev rAddA (K : Frag) : R2 := fun x y H Q => rI0 (fun i j => .int (i + j)) x y H Q ∨ (∃ i j, x = .str i ∧ y = .str j ∧ i.length + j.length ≤ sizeLine ∧ Q (.str (i ++ j)) H) ∨ rCatR x y H Q ∨ rCatA K x y H Q
theorem op_addA {X : Cx} : OpR X (binaryOp .Add) (rAddA X.K) := OpR.or op_add (OpR.or op_add_str (OpR.or op_catR op_catA))
theorem og_add : OpD2 K (rAddA K) gAdd := by
  intro W H v u x y z Q rx ry e k
  cases x with
  | int i =>
    cases y with
    | int j => cases e; cases rx.int; cases ry.int; exact .inl ⟨i, j, rfl, rfl, k _ H W Ext.refl .int⟩
    | _ => cases e
  | str i =>
    cases y with
    | str j =>
      cases rx.str; cases ry.str
      have e : (if i.length + j.length ≤ 16777216 then some (RV.d (.str (i ++ j))) else none) = some z := e
      split at e
      · rename_i hl
        cases e
        exact .inr (.inl ⟨i, j, rfl, rfl, by rw [sizeLine_eq]; exact hl, k _ H W Ext.refl .str⟩)
      · cases e
    | _ => cases e
  | list xs =>
    cases y with
    | list ys =>
      obtain ⟨a, vs, rfl, ra, rxs⟩ := rx
      obtain ⟨b, us, rfl, rb, rys⟩ := ry
      have e : (if xs.length + ys.length ≤ 16777216 then some (RV.nw (.lst (xs ++ ys))) else none) = some z := e
      split at e
      · rename_i hl
        cases e
        refine .inr (.inr (.inl ⟨a, b, vs, us, rfl, rfl, ra, rb, by rw [sizeLine_eq, rxs.len, rys.len]; exact hl, fun p np => ?_⟩))
        obtain ⟨h1, h2⟩ := new_lst np (rxs.app rys)
        exact k _ _ _ h1 h2
      · cases e
    | _ => cases e
  | tuple xs =>
    cases y with
    | tuple ys =>
      have rx : Rp K W H v (.tuple xs) := rx
      have ry : Rp K W H u (.tuple ys) := ry
      have e : (if xs.length + ys.length ≤ 16777216 then some (RV.d (.tuple (xs ++ ys))) else none) = some z := e
      split at e
      · rename_i hl
        cases e
        have rx0 := rx
        have ry0 := ry
        cases rx with
        | @tup a vs _ ra rxs =>
          cases ry with
          | @tup b us _ rb rys =>
            refine .inr (.inr (.inr ⟨a, b, vs, us, rfl, rfl, ra.sq, rb.sq, by rw [sizeLine_eq, rxs.len, rys.len]; exact hl, fun hx => ?_, fun _ hy => ?_, fun _ _ p np => ?_⟩))
            · subst hx
              cases rxs
              exact k _ H W Ext.refl ry0
            · subst hy
              cases rys
              rw [List.append_nil] at k
              exact k _ H W Ext.refl rx0
            · obtain ⟨h1, h2⟩ := new_tup np (rxs.app rys)
              exact k _ _ _ h1 h2
      · cases e
    | _ => cases e
  | _ => cases e

def gSub : PyData → PyData → Option RV
  | .int i, .int j => some (.d (.int (i - j)))
  | _, _ => none
theorem og_sub : OpD2 K (rI0 fun i j => .int (i - j)) gSub := by
  intro W H v u x y z Q rx ry e k
  unfold gSub at e
  split at e
  · cases e; cases rx.int; cases ry.int
    exact ⟨_, _, rfl, rfl, k _ H W Ext.refl .int⟩
  · cases e
/-- products of ints (one within 2^64), a list some times -/
def mulOk (i j : Int) : Bool := (decide (-(2 ^ 64) < i) && decide (i < 2 ^ 64)) || (decide (-(2 ^ 64) < j) && decide (j < 2 ^ 64))
def gMul : PyData → PyData → Option RV
  | .int i, .int j => if mulOk i j = true then some (.d (.int (i * j))) else none
  | .list xs, .int k => if -(2 ^ 63) ≤ k ∧ k < 2 ^ 63 ∧ xs.length * k.toNat ≤ 16777216 then some (.nw (.lst (List.replicate k.toNat xs).flatten)) else none
  | _, _ => none
theorem RpAll.rep {W : Own} {H : Hp} {vs : List V} {ds : List PyData} (h : RpAll K W H vs ds) : ∀ n : Nat, RpAll K W H (List.replicate n vs).flatten (List.replicate n ds).flatten
  | 0 => .nil
  | n + 1 => by
    rw [List.replicate_succ, List.replicate_succ, List.flatten_cons, List.flatten_cons]
    exact h.app (h.rep n)
def rRepR : R2 := fun x y H Q => ∃ l k xs, x = .ref l ∧ y = .int k ∧ H l = some (.lst xs) ∧ -(2 ^ 63) ≤ k ∧ k < 2 ^ 63 ∧ xs.length * k.toNat ≤ sizeLine ∧ ∀ p, H p = none → Q (.ref p) (upd H p (.lst (List.replicate k.toNat xs).flatten))
theorem mulOk_ok {i j : Int} (h : mulOk i j = true) : CMul i j := by
  unfold mulOk at h
  simp only [Bool.or_eq_true, Bool.and_eq_true, decide_eq_true_eq] at h
  exact h
/-- the list's own place is asked for -/
def Op2L (K : Frag) (r : R2) (g : RV → RV → Option RV) : Prop := Op2 K r g
abbrev rMulA : R2 := fun x y H Q => rI CMul (fun i j => .int (i * j)) x y H Q ∨ rRep x y H Q
theorem op_mulA {X : Cx} : OpR X (binaryOp .Mult) rMulA := OpR.or op_mul op_rep
/-- a list that is lent or new; ints -/
def gMulR (x y : RV) : Option RV := match x, y.dat with
  | .d (.int i), some (.int j) => if mulOk i j = true then some (.d (.int (i * j))) else none
  | .nw (.lst xs), some (.int k) => if -(2 ^ 63) ≤ k ∧ k < 2 ^ 63 ∧ xs.length * k.toNat ≤ 16777216 then some (.nw (.lst (List.replicate k.toNat xs).flatten)) else none
  | .pk _ (.lst xs), some (.int k) => if -(2 ^ 63) ≤ k ∧ k < 2 ^ 63 ∧ xs.length * k.toNat ≤ 16777216 then some (.nw (.lst (List.replicate k.toNat xs).flatten)) else none
  | _, _ => none
theorem og_mul : Op2 K rMulA gMulR := by
  intro W H v u x y z Q rx ry e k
  have lst : ∀ {xs : List PyData} {n : Int}, (∃ a vs, v = .ref a ∧ H a = some (.lst vs) ∧ RpAll K W H vs xs) → y.dat = some (.int n) → (if -(2 ^ 63) ≤ n ∧ n < 2 ^ 63 ∧ xs.length * n.toNat ≤ 16777216 then some (RV.nw (.lst (List.replicate n.toNat xs).flatten)) else none) = some z → rMulA v u H Q := fun {xs n} hx hy e => by
    obtain ⟨a, vs, rfl, ha, rxs⟩ := hx
    cases (ry.root hy).int
    split at e
    · rename_i hl
      cases e
      refine .inr ⟨a, n, vs, rfl, rfl, ha, hl.1, hl.2.1, by rw [sizeLine_eq, rxs.len]; exact hl.2.2, fun p np => ?_⟩
      obtain ⟨h1, h2⟩ := new_lst np (rxs.rep n.toNat)
      exact k _ _ _ h1 h2
    · cases e
  unfold gMulR at e
  split at e
  · rename_i i j hj
    cases (ry.root hj).int
    have rx : Rp K W H v (.int i) := rx
    cases rx
    split at e
    · rename_i hm
      cases e
      exact .inl ⟨i, j, rfl, rfl, mulOk_ok hm, k _ H W Ext.refl .int⟩
    · cases e
  · rename_i xs n hj
    exact lst rx hj e
  · rename_i xs n hj
    exact lst rx hj e
  · cases e
def gMod : PyData → PyData → Option RV
  | .int i, .int j => if 0 < j then some (.d (.int (i % j))) else none
  | _, _ => none
theorem og_mod : OpD2 K (rI (fun _ j => 0 < j) fun i j => .int (i % j)) gMod := by
  intro W H v u x y z Q rx ry e k
  unfold gMod at e
  split at e
  · cases rx.int; cases ry.int
    split at e
    · rename_i h
      cases e
      exact ⟨_, _, rfl, rfl, h, k _ H W Ext.refl .int⟩
    · cases e
  · cases e
def gFdiv : PyData → PyData → Option RV
  | .int i, .int j => if 0 < j ∧ j < 1073741824 then some (.d (.int (i / j))) else none
  | _, _ => none
theorem og_fdiv : OpD2 K (rI CDiv fun i j => .int (i / j)) gFdiv := by
  intro W H v u x y z Q rx ry e k
  unfold gFdiv at e
  split at e
  · cases rx.int; cases ry.int
    split at e
    · rename_i h
      cases e
      exact ⟨_, _, rfl, rfl, h, k _ H W Ext.refl .int⟩
    · cases e
  · cases e
def gPow : PyData → PyData → Option RV
  | .int i, .int j => if 0 ≤ j ∧ j ≤ 1000000 ∧ i.natAbs < 2 ^ 64 then some (.d (.int (i ^ j.toNat))) else none
  | _, _ => none
theorem og_pow : OpD2 K (rI CPow fun i j => .int (i ^ j.toNat)) gPow := by
  intro W H v u x y z Q rx ry e k
  unfold gPow at e
  split at e
  · cases rx.int; cases ry.int
    split at e
    · rename_i h
      cases e
      exact ⟨_, _, rfl, rfl, h, k _ H W Ext.refl .int⟩
    · cases e
  · cases e
/-! ### comparisons -/
def gCmp (p : Int → Int → Bool) : PyData → PyData → Option RV
  | .int i, .int j => some (.d (.bool (p i j)))
  | _, _ => none
theorem og_cmp {p : Int → Int → Bool} : OpD2 K (rI0 fun i j => .bl (p i j)) (gCmp p) := by
  intro W H v u x y z Q rx ry e k
  unfold gCmp at e
  split at e
  · cases e; cases rx.int; cases ry.int
    exact ⟨_, _, rfl, rfl, k _ H W Ext.refl .bl⟩
  · cases e
abbrev gLt := gCmp fun i j => decide (i < j)
abbrev gLe := gCmp fun i j => decide (i ≤ j)
abbrev gGt := gCmp fun i j => decide (j < i)
abbrev gGe := gCmp fun i j => decide (j ≤ i)
/-- == of data: scalars of one kind, or anything shaped -/
def scalD : PyData → PyData → Bool
  | .int _, .int _ => true
  | .str _, .str _ => true
  | .bool _, .bool _ => true
  | .none, .none => true
  | .none, .int _ => true
  | .int _, .none => true
  | .none, .str _ => true
  | .str _, .none => true
  | .int _, .str _ => true
  | .str _, .int _ => true
  | _, _ => false
def gEq (d e : PyData) : Option RV := if (scalD d e || (SeqAt.shaped d && SeqAt.shaped e)) = true then some (.d (.bool (PyData.eqv d e))) else none
def gNe (d e : PyData) : Option RV := if (scalD d e || (SeqAt.shaped d && SeqAt.shaped e)) = true then some (.d (.bool (!PyData.eqv d e))) else none
theorem scal_ok {W : Own} {H : Hp} {v u : V} {x y : PyData} (rx : Root K W H v x) (ry : Root K W H u y) (h : scalD x y = true) : scal v u = true ∧ decide (v = u) = PyData.eqv x y := by
  unfold scalD at h
  split at h
  · cases rx.int; cases ry.int
    exact ⟨rfl, by simp only [PyData.eqv, V.int.injEq]; rw [Bool.beq_eq_decide_eq]⟩
  · cases rx.str; cases ry.str
    exact ⟨rfl, by simp only [PyData.eqv, V.str.injEq]; rw [Bool.beq_eq_decide_eq]⟩
  · cases rx.bl; cases ry.bl
    exact ⟨rfl, by simp only [PyData.eqv, V.bl.injEq]; rw [Bool.beq_eq_decide_eq]⟩
  · cases rx.non; cases ry.non
    exact ⟨rfl, by simp [PyData.eqv]⟩
  · cases rx.non; cases ry.int
    exact ⟨rfl, by simp [PyData.eqv]⟩
  · cases rx.int; cases ry.non
    exact ⟨rfl, by simp [PyData.eqv]⟩
  · cases rx.non; cases ry.str
    exact ⟨rfl, by simp [PyData.eqv]⟩
  · cases rx.str; cases ry.non
    exact ⟨rfl, by simp [PyData.eqv]⟩
  · cases rx.int; cases ry.str
    exact ⟨rfl, by simp [PyData.eqv]⟩
  · cases rx.str; cases ry.int
    exact ⟨rfl, by simp [PyData.eqv]⟩
  · cases h
abbrev rEqA (K : Frag) : R2 := fun x y H Q => rEq x y H Q ∨ rEqD K x y H Q
abbrev rNeA (K : Frag) : R2 := fun x y H Q => rNe x y H Q ∨ rNeD K x y H Q
theorem op_eqA {X : Cx} (hu : X.A.units + 64 < cLine) : OpR X (compareOp .Eq) (rEqA X.K) := OpR.or op_eq (op_eqD hu)
theorem op_neA {X : Cx} (hu : X.A.units + 64 < cLine) : OpR X (compareOp .NotEq) (rNeA X.K) := OpR.or op_ne (op_neD hu)
theorem og_eq : OpD2 K (rEqA K) gEq := by
  intro W H v u x y z Q rx ry e k
  unfold gEq at e
  split at e
  · rename_i h
    cases e
    rw [Bool.or_eq_true, Bool.and_eq_true] at h
    rcases h with h | ⟨h1, h2⟩
    · obtain ⟨s1, s2⟩ := scal_ok rx ry h
      exact .inl ⟨s1, by rw [s2]; exact k _ H W Ext.refl .bl⟩
    · exact .inr ⟨x, y, rx.dp, ry.dp, h1, h2, k _ H W Ext.refl .bl⟩
  · cases e
theorem og_ne : OpD2 K (rNeA K) gNe := by
  intro W H v u x y z Q rx ry e k
  unfold gNe at e
  split at e
  · rename_i h
    cases e
    rw [Bool.or_eq_true, Bool.and_eq_true] at h
    rcases h with h | ⟨h1, h2⟩
    · obtain ⟨s1, s2⟩ := scal_ok rx ry h
      exact .inl ⟨s1, by rw [s2]; exact k _ H W Ext.refl .bl⟩
    · exact .inr ⟨x, y, rx.dp, ry.dp, h1, h2, k _ H W Ext.refl .bl⟩
  · cases e
/-- is None, is not None; is of truths -/
def isN : PyData → Bool
  | .none => true
  | _ => false
def gIs : PyData → PyData → Option RV
  | d, .none => some (.d (.bool (isN d)))
  | .bool a, .bool b => some (.d (.bool (decide (a = b))))
  | _, _ => none
def gIsNot : PyData → PyData → Option RV
  | d, .none => some (.d (.bool (!isN d)))
  | .bool a, .bool b => some (.d (.bool (!decide (a = b))))
  | _, _ => none
theorem isN_ok {W : Own} {H : Hp} {v : V} {x : PyData} (rx : Root K W H v x) : decide (v = V.non) = isN x := by
  cases x with
  | none => cases rx.non; rfl
  | bool _ => cases rx.bl; rfl
  | int _ => cases rx.int; rfl
  | str _ => cases rx.str; rfl
  | list _ => obtain ⟨a, vs, rfl, _, _⟩ := rx; rfl
  | tuple _ =>
    have rx : Rp K W H v (.tuple _) := rx
    cases rx; rfl
  | dict _ =>
    have rx : Rp K W H v (.dict _) := rx
    cases rx
abbrev rIsA : R2 := fun x y H Q => (y = .non ∧ Q (.bl (decide (x = .non))) H) ∨ rIsB x y H Q
abbrev rIsNotA : R2 := fun x y H Q => (y = .non ∧ Q (.bl (!decide (x = .non))) H) ∨ rNotB x y H Q
theorem op_isA {X : Cx} : OpR X (compareOp .Is) rIsA := OpR.or op_isN op_isBl
theorem op_isNotA {X : Cx} : OpR X (compareOp .IsNot) rIsNotA := OpR.or op_notN op_notBl
theorem og_is : OpD2 K rIsA gIs := by
  intro W H v u x y z Q rx ry e k
  unfold gIs at e
  split at e
  · cases e; cases ry.non
    exact .inl ⟨rfl, by rw [isN_ok rx]; exact k _ H W Ext.refl .bl⟩
  · cases e; cases rx.bl; cases ry.bl
    exact .inr ⟨_, _, rfl, rfl, k _ H W Ext.refl .bl⟩
  · cases e
theorem og_isnot : OpD2 K rIsNotA gIsNot := by
  intro W H v u x y z Q rx ry e k
  unfold gIsNot at e
  split at e
  · cases e; cases ry.non
    exact .inl ⟨rfl, by rw [isN_ok rx]; exact k _ H W Ext.refl .bl⟩
  · cases e; cases rx.bl; cases ry.bl
    exact .inr ⟨_, _, rfl, rfl, k _ H W Ext.refl .bl⟩
  · cases e
end
end M

set_option maxHeartbeats 2000000
/-! M8: subscripts, slices, membership, built-in functions. Own work. -/
namespace M
open PySem PySem.Spec PyProof.Rows L2

section
variable {K : Frag}
/-! ### x in xs -/
def gInL (neg : Bool) : PyData → PyData → Option RV
  | d, .list ds => if (SeqAt.shaped d && SeqAt.shaped (.list ds)) = true then some (.d (.bool (xor neg (ds.any fun z => PyData.eqv z d)))) else none
  | d, .tuple ds => if (SeqAt.shaped d && SeqAt.shaped (.tuple ds)) = true then some (.d (.bool (xor neg (ds.any fun z => PyData.eqv z d)))) else none
  | .str x, .str y => some (.d (.bool (xor neg (!(Builtin.Str.occurrences y x 0 y.length 1).isEmpty))))
  | _, _ => none
def rInT (K : Frag) (neg : Bool) : R2 := fun x y H Q => ∃ d ds, Dp K H x d ∧ Dp K H y (.tuple ds) ∧ SeqAt.shaped d = true ∧ SeqAt.shaped (.tuple ds) = true ∧ Q (.bl (xor neg (ds.any fun z => PyData.eqv z d))) H
abbrev rInA (K : Frag) : R2 := fun x y H Q => rInD K x y H Q ∨ rInT K false x y H Q ∨ (∃ i j, x = .str i ∧ y = .str j ∧ Q (.bl (!(Builtin.Str.occurrences j i 0 j.length 1).isEmpty)) H)
abbrev rNotInA (K : Frag) : R2 := fun x y H Q => rNotInD K x y H Q ∨ rInT K true x y H Q ∨ (∃ i j, x = .str i ∧ y = .str j ∧ Q (.bl (!(!(Builtin.Str.occurrences j i 0 j.length 1).isEmpty))) H)
theorem og_in : OpD2 K (rInA K) (gInL false) := by
  intro W H v u x y z Q rx ry e k
  unfold gInL at e
  split at e
  · split at e
    · rename_i h
      cases e
      rw [Bool.and_eq_true] at h
      exact .inl ⟨_, _, rx.dp, ry.dp, h.1, h.2, by simpa using k _ H W Ext.refl .bl⟩
    · cases e
  · split at e
    · rename_i h
      cases e
      rw [Bool.and_eq_true] at h
      exact .inr (.inl ⟨_, _, rx.dp, ry.dp, h.1, h.2, k _ H W Ext.refl .bl⟩)
    · cases e
  · cases e; cases rx.str; cases ry.str
    exact .inr (.inr ⟨_, _, rfl, rfl, by simpa using k _ H W Ext.refl .bl⟩)
  · cases e
theorem og_notin : OpD2 K (rNotInA K) (gInL true) := by
  intro W H v u x y z Q rx ry e k
  unfold gInL at e
  split at e
  · split at e
    · rename_i h
      cases e
      rw [Bool.and_eq_true] at h
      exact .inl ⟨_, _, rx.dp, ry.dp, h.1, h.2, by simpa using k _ H W Ext.refl .bl⟩
    · cases e
  · split at e
    · rename_i h
      cases e
      rw [Bool.and_eq_true] at h
      exact .inr (.inl ⟨_, _, rx.dp, ry.dp, h.1, h.2, k _ H W Ext.refl .bl⟩)
    · cases e
  · cases e; cases rx.str; cases ry.str
    exact .inr (.inr ⟨_, _, rfl, rfl, by simpa using k _ H W Ext.refl .bl⟩)
  · cases e
theorem op_inT {X : Cx} (hu : X.A.units + 65 < cLine) : OpR X (compareOp .In) (rInT X.K false) := by
  intro pins s σ H x y v u Q I rx ry h
  obtain ⟨d, ds, hd, he, sd, se, q⟩ := h
  obtain ⟨as, r1⟩ := Dp.reads I d x v hd rx
  obtain ⟨bs, r2⟩ := Dp.reads I (.tuple ds) y u he ry
  exact SeqAt.in_tuple_reads r2 r1 (SeqAt.canLay_of_shaped se) (SeqAt.canLay_of_shaped sd) (room_in_shaped sd hu) ⟨.bl _, H, I, rfl, by simpa using q⟩
theorem op_notInT {X : Cx} (hu : X.A.units + 65 < cLine) : OpR X (compareOp .NotIn) (rInT X.K true) := by
  intro pins s σ H x y v u Q I rx ry h
  obtain ⟨d, ds, hd, he, sd, se, q⟩ := h
  obtain ⟨as, r1⟩ := Dp.reads I d x v hd rx
  obtain ⟨bs, r2⟩ := Dp.reads I (.tuple ds) y u he ry
  exact SeqAt.notIn_tuple_reads r2 r1 (SeqAt.canLay_of_shaped se) (SeqAt.canLay_of_shaped sd) (room_in_shaped sd hu) ⟨.bl _, H, I, rfl, by simpa using q⟩
theorem op_inA {X : Cx} (hu : X.A.units + 65 < cLine) : OpR X (compareOp .In) (rInA X.K) := OpR.or (op_inD hu) (OpR.or (op_inT hu) L2.op_in_str)
theorem op_notInA {X : Cx} (hu : X.A.units + 65 < cLine) : OpR X (compareOp .NotIn) (rNotInA X.K) := OpR.or (op_notInD hu) (OpR.or (op_notInT hu) L2.op_notIn_str)
/-! ### xs[i] -/
def gIx : PyData → PyData → Option RV
  | .list ds, .int i => (atI ds i).map RV.d
  | .tuple ds, .int i => (atI ds i).map RV.d
  | .str z, .int i => if z.length ≤ 16777216 then (atI z.cps.toList i).map fun c => RV.d (.str ⟨#[c]⟩) else none
  | _, _ => none
theorem RpAll.atI {W : Own} {H : Hp} {vs : List V} {ds : List PyData} {i : Int} {d : PyData} (r : RpAll K W H vs ds) (e : L2.atI ds i = some d) : ∃ v, L2.atI vs i = some v ∧ Rp K W H v d := by
  unfold L2.atI at e ⊢
  rw [r.len]
  cases e1 : ixN ds.length i with
  | none => rw [e1] at e; cases e
  | some j =>
    rw [e1] at e
    exact r.get e
theorem og_ix : OpD2 K (rIx K) gIx := by
  intro W H v u x y z Q rx ry e k
  unfold gIx at e
  split at e
  · rename_i ds i
    obtain ⟨a, vs, rfl, ra, rxs⟩ := rx
    cases ry.int
    cases e1 : L2.atI ds i with
    | none => rw [e1] at e; cases e
    | some d =>
      rw [e1] at e
      cases e
      obtain ⟨w, h1, h2⟩ := rxs.atI e1
      exact .inl ⟨a, vs, i, w, rfl, rfl, .inl ra, h1, k _ H W Ext.refl h2⟩
  · rename_i ds i
    have rx : Rp K W H v (.tuple ds) := rx
    cases ry.int
    cases rx with
    | tup ra rxs =>
      cases e1 : L2.atI ds i with
      | none => rw [e1] at e; cases e
      | some d =>
        rw [e1] at e
        cases e
        obtain ⟨w, h1, h2⟩ := rxs.atI e1
        exact .inr (.inl ⟨_, _, i, w, rfl, rfl, ra.sq, h1, k _ H W Ext.refl h2⟩)
  · rename_i s i
    cases rx.str; cases ry.int
    split at e
    · rename_i hl
      cases e1 : L2.atI s.cps.toList i with
      | none => rw [e1] at e; cases e
      | some c =>
        rw [e1] at e
        cases e
        exact .inr (.inr ⟨_, _, _, rfl, rfl, by rw [sizeLine_eq]; exact hl, e1, k _ H W Ext.refl .str⟩)
    · cases e
  · cases e
/-! ### xs[a:b] -/
def cutD (ds : List PyData) (lo hi : Option Int) : List PyData := (ds.drop (HT.sIx ds.length 0 lo)).take (HT.sIx ds.length ds.length hi - HT.sIx ds.length 0 lo)
theorem RpAll.cut {W : Own} {H : Hp} {vs : List V} {ds : List PyData} (r : RpAll K W H vs ds) (lo hi : Option Int) : RpAll K W H (cutV vs lo hi) (cutD ds lo hi) := by
  unfold cutV cutD
  rw [r.len]
  exact (r.drop _).take _
def gSl (d : PyData) (lo hi : Option Int) : Option RV := match d with
  | .list ds => some (.nw (.lst (cutD ds lo hi)))
  | .tuple ds => some (.d (.tuple (cutD ds lo hi)))
  | .str z => if z.length ≤ 16777216 then some (.d (.str (cutS z lo hi))) else none
  | _ => none
def rSlAny (K : Frag) : V → Option Int → Option Int → Hp → VK → Prop := fun x lo hi H Q => rSlL K x lo hi H Q ∨ rSlA K x lo hi H Q ∨ rSlS x lo hi H Q
theorem sl_any {X : Cx} : SlR X (rSlAny X.K) := SlR.or sl_list (SlR.or sl_tupA sl_str)
theorem cutD_whole {ds : List PyData} {lo hi : Option Int} (h : HT.sIx ds.length 0 lo = 0 ∧ HT.sIx ds.length ds.length hi = ds.length) : cutD ds lo hi = ds := by
  unfold cutD
  rw [h.1, h.2]
  simp
theorem og_sl {W : Own} {H : Hp} {v : V} {d : PyData} {lo hi : Option Int} {z : RV} {Q : VK} (rx : Root K W H v d) (e : gSl d lo hi = some z) (k : ∀ v' H' W', Ext W H W' H' → RNew K W' H' v' z → Q v' H') : rSlAny K v lo hi H Q := by
  unfold gSl at e
  split at e
  · cases e
    obtain ⟨a, vs, rfl, ra, rxs⟩ := rx
    refine .inl ⟨a, vs, rfl, .inl ra, fun p np => ?_⟩
    obtain ⟨h1, h2⟩ := new_lst np (rxs.cut lo hi)
    exact k _ _ _ h1 h2
  · rename_i ds
    cases e
    have rx : Rp K W H v (.tuple ds) := rx
    have rx0 := rx
    cases rx with
    | @tup a vs _ ra rxs =>
      refine .inr (.inl ⟨a, vs, rfl, ra.sq, fun hw => ?_, fun _ p np => ?_⟩)
      · rw [rxs.len] at hw
        rw [cutD_whole hw] at k
        exact k _ H W Ext.refl rx0
      · obtain ⟨h1, h2⟩ := new_tup np (rxs.cut lo hi)
        exact k _ _ _ h1 h2
  · cases rx.str
    split at e
    · rename_i hl
      cases e
      exact .inr (.inr ⟨_, rfl, by rw [sizeLine_eq]; exact hl, k _ H W Ext.refl .str⟩)
    · cases e
  · cases e
end
/-! ### parts of a slice; one-place operations -/
abbrev MO := MS → R (Option Int)
def tOV (K : Frag) (G : GC) (b : Bool) (m : MO) : TO := fun σ H Q => ∃ S W, Conc K G S σ H W ∧ okR (fun _ _ (b c : Option Int) => b = c) K G b W H σ Q (m S)
structure OV (b : Bool) (X : Cx) (G : GC) (e : Option Expr) (m : MO) : Prop where
  po : PO X e (tOV X.K G b m)
theorem PO.imp {X : Cx} {e : Option Expr} {t t' : TO} (h : PO X e t) (i : ∀ σ H Q, t' σ H Q → t σ H Q) : PO X e t' := ⟨fun pins s σ H Q I q => h.run pins s σ H Q I (i σ H Q q)⟩
def mnoO : MO := fun S => .ok none S
def msomeO (m : ME) : MO := fun S => (m S).bind fun r S1 => match r with
  | .d (.int i) => .ok (some i) S1
  | _ => .stuck
section
variable {X : Cx} {G : GC} {b b1 b2 b3 : Bool} {a e : Expr} {lo hi : Option Expr} {m k : ME} {ml mh : MO} {pos p2 : Pos}
theorem ov_none : OV true X G none mnoO := ⟨PO.imp po_none fun σ H Q ⟨S, W, c, q⟩ => q none H W Stp.refl c rfl⟩
theorem ov_some (h : EV b X G e m) : OV b X G (some e) (msomeO m) := ⟨PO.imp (po_some h.pe) fun σ H Q ⟨S, W, c, q⟩ => ⟨S, W, c, (okR.one q).imp fun v H1 ⟨x, S1, W1, st, c1, rv, q1⟩ => by
  split at q1
  · rename_i i
    have rv : Rp _ W1 H1 v (.int i) := rv
    cases rv
    exact ⟨i, rfl, q1 _ H1 W1 Stp.refl c1 rfl⟩
  · exact q1.elim⟩⟩
def toRd (g : PyData → Option RV) (r : RV) (S : MS) : R RV := toR (lift1 g r) S
/-- the parts are inert -/
def msl (m : ME) (l h : MO) : ME := fun S => (m S).bind fun r S1 => (l S1).bind fun i S2 => (h S2).bind fun j S3 => toR (lift1 (fun d => gSl d i j) r) S3
theorem ev_sl (h : EV b X G a m) (hl : OV true X G lo ml) (hh : OV true X G hi mh) : EV b X G (.Subscript a (.Slice lo hi none p2) pos) (msl m ml mh) :=
  ⟨(pe_slice sl_any h.pe hl.po hh.po).imp fun σ H Q ⟨S, W, c, q⟩ => ⟨S, W, c, (okR.one q).imp fun v H1 ⟨x, S1, W1, st, c1, rv, q1⟩ =>
    ⟨S1, W1, c1, (okR.one q1).imp fun i H2 ⟨i', S2, W2, st2, c2, e2, q2⟩ => ⟨S2, W2, c2, (okR.one q2).imp fun j H3 ⟨j', S3, W3, st3, c3, e3, q3⟩ => by
      have e2 : i = i' := e2
      have e3 : j = j' := e3
      subst e2 e3
      unfold toR at q3
      split at q3
      · rename_i z ez
        unfold lift1 at ez
        split at ez
        · rename_i d ed
          exact og_sl ((((Opd.of rv).ext st2).ext st3).root ed) ez fun v' H' W' ex rn => q3 v' H' W' ex (c3.ext ex) rn.rv
        · cases ez
      · exact q3.elim⟩⟩⟩⟩
/-- what a one-place operation, a built-in of one argument asks -/
def Op1 (K : Frag) (r : V → Hp → VK → Prop) (g : RV → Option RV) : Prop := ∀ (W : Own) (H : Hp) (v : V) (x z : RV) (Q : VK), Opd K W H v x → g x = some z → (∀ v' H' W', Ext W H W' H' → RNew K W' H' v' z → Q v' H') → r v H Q
def OpD1 (K : Frag) (r : V → Hp → VK → Prop) (g : PyData → Option RV) : Prop := ∀ (W : Own) (H : Hp) (v : V) (x : PyData) (z : RV) (Q : VK), Root K W H v x → g x = some z → (∀ v' H' W', Ext W H W' H' → RNew K W' H' v' z → Q v' H') → r v H Q
theorem OpD1.op {K : Frag} {r : V → Hp → VK → Prop} {g : PyData → Option RV} (h : OpD1 K r g) : Op1 K r (lift1 g) := fun W H v x z Q ox e k => by
  unfold lift1 at e
  split at e
  · rename_i d ed
    exact h W H v d z Q (ox.root ed) e k
  · cases e
def mop1 (g : RV → Option RV) (m : ME) : ME := fun S => (m S).bind fun x S1 => toR (g x) S1
theorem run1 {K : Frag} {r : V → Hp → VK → Prop} {g : RV → Option RV} (og : Op1 K r g) {σ : L2.St} {H : Hp} {Q : VK} (h : tEV K G b (mop1 g m) σ H Q) : tEV K G b m σ H (fun v H1 => r v H1 Q) := by
  obtain ⟨S, W, c, q⟩ := h
  exact ⟨S, W, c, (okR.one q).imp fun v H1 ⟨x, S1, W1, st, c1, rv, q1⟩ => by
    unfold toR at q1
    split at q1
    · rename_i z ez
      exact og W1 H1 v x z Q (Opd.of rv) ez fun v' H' W' ex rn => q1 v' H' W' ex (c1.ext ex) rn.rv
    · exact q1.elim⟩
theorem ev_un {op : UnaryOp} {r : V → Hp → VK → Prop} {g : RV → Option RV} (ho : UnR X (unaryOp op) r) (og : Op1 X.K r g) (h : EV b X G a m) : EV b X G (.UnaryOp op a pos) (mop1 g m) :=
  ⟨(pe_un ho h.pe).imp fun σ H Q q => run1 og q⟩
variable {x : Str} {p : Pos} {id T : String}
/-- f(e), f a built-in -/
theorem ev_b1 {r : List V → Hp → VK → Prop} {g : RV → Option RV} (hc : CallR X (.builtin id) r) (og : Op1 X.K (fun v H Q => r [v] H Q) g) (hm : X.mg x = none) (h : EV b X G e m) (hg : Gl X x := by rfl) (hv : bootBuiltins x = some (.builtin id) := by decide +kernel)
    (hs : starEach [e] X.env = (false, eval e X.env) :: starEach [] X.env := by rfl) (hn : x ≠ "__name__" := by decide) (hdb : (x == ("__debug__" : Str)) = false := by decide) (hpl : (backTo pos (starEach [] X.env)).any (·.1) = false := by rfl) : EV b X G (.Call (.Name x p) [e] [] pos) (mop1 g m) :=
  ⟨(pe_callB hc hg hm hv (pa_cons h.pe pa_nil hs) hn hdb hs hpl).imp fun σ H Q q => run1 (r := fun v H Q => r [v] H Q) og q⟩
theorem ev_t1 {r : List V → Hp → VK → Prop} {g : RV → Option RV} (hc : CallR X (.type T) r) (og : Op1 X.K (fun v H Q => r [v] H Q) g) (hm : X.mg x = none) (h : EV b X G e m) (hg : Gl X x := by rfl) (hv : bootBuiltins x = some (.type T) := by decide +kernel)
    (hs : starEach [e] X.env = (false, eval e X.env) :: starEach [] X.env := by rfl) (hn : x ≠ "__name__" := by decide) (hdb : (x == ("__debug__" : Str)) = false := by decide) (hpl : (backTo pos (starEach [] X.env)).any (·.1) = false := by rfl) : EV b X G (.Call (.Name x p) [e] [] pos) (mop1 g m) :=
  ⟨(pe_callTy hc hg hm hv (pa_cons h.pe pa_nil hs) hn hdb hs hpl).imp fun σ H Q q => run1 (r := fun v H Q => r [v] H Q) og q⟩
end
section
variable {K : Frag}
def gNeg : PyData → Option RV
  | .int i => some (.d (.int (-i)))
  | _ => none
theorem og_neg : OpD1 K (rU fun i => .int (-i)) gNeg := by
  intro W H v x z Q rx e k
  unfold gNeg at e
  split at e
  · cases e; cases rx.int
    exact ⟨_, rfl, k _ H W Ext.refl .int⟩
  · cases e
def gLen (r : RV) : Option RV := match r.dat with
  | some (.list ds) => some (.d (.int ds.length))
  | some (.tuple ds) => some (.d (.int ds.length))
  | some (.str x) => if x.length ≤ 16777216 then some (.d (.int x.length)) else none
  | _ => none
theorem og_len : Op1 K (fun v H Q => (fun xs H Q => ∃ x n, xs = [x] ∧ LenV K x H n ∧ Q (.int n) H) [v] H Q) gLen := by
  intro W H v x z Q ox e k
  unfold gLen at e
  split at e
  · rename_i ds ed
    cases e
    obtain ⟨a, vs, rfl, ra, rxs⟩ := ox.root ed
    exact ⟨_, vs.length, rfl, .inl ⟨vs, .inl ra, rfl⟩, by rw [rxs.len]; exact k _ H W Ext.refl .int⟩
  · rename_i ds ed
    cases e
    have rx : Rp K W H v (.tuple ds) := ox.root ed
    cases rx with
    | tup ra rxs => exact ⟨_, _, rfl, .inr ⟨_, ra.sq, rfl⟩, by rw [rxs.len]; exact k _ H W Ext.refl .int⟩
  · rename_i y ed
    cases (ox.root ed).str
    split at e
    · rename_i hl
      cases e
      exact ⟨_, y.length, rfl, ⟨by rw [sizeLine_eq]; exact hl, rfl⟩, k _ H W Ext.refl .int⟩
    · cases e
  · cases e
def gList : PyData → Option RV
  | .list ds => some (.nw (.lst ds))
  | .tuple ds => some (.nw (.lst ds))
  | _ => none
theorem og_list : OpD1 K (fun v H Q => (fun xs H Q => ∃ p ys, xs = [V.ref p] ∧ (SqL K H p ys ∨ SqT K H p ys) ∧ ∀ l, H l = none → Q (.ref l) (upd H l (.lst ys))) [v] H Q) gList := by
  intro W H v x z Q rx e k
  unfold gList at e
  split at e
  · cases e
    obtain ⟨a, vs, rfl, ra, rxs⟩ := rx
    refine ⟨a, vs, rfl, .inl (.inl ra), fun p np => ?_⟩
    obtain ⟨h1, h2⟩ := new_lst np rxs
    exact k _ _ _ h1 h2
  · rename_i ds
    cases e
    have rx : Rp K W H v (.tuple ds) := rx
    cases rx with
    | tup ra rxs =>
      refine ⟨_, _, rfl, .inr ra.sq, fun p np => ?_⟩
      obtain ⟨h1, h2⟩ := new_lst np rxs
      exact k _ _ _ h1 h2
  · cases e
def gTuple : PyData → Option RV
  | .list ds => some (.d (.tuple ds))
  | .tuple ds => some (.d (.tuple ds))
  | _ => none
theorem og_tuple : OpD1 K (fun v H Q => (fun xs H Q => ∃ p ys, xs = [V.ref p] ∧ ((SqL K H p ys ∧ ∀ l, H l = none → Q (.ref l) (upd H l (.tup ys))) ∨ (SqT K H p ys ∧ Q (.ref p) H))) [v] H Q) gTuple := by
  intro W H v x z Q rx e k
  unfold gTuple at e
  split at e
  · cases e
    obtain ⟨a, vs, rfl, ra, rxs⟩ := rx
    refine ⟨a, vs, rfl, .inl ⟨.inl ra, fun p np => ?_⟩⟩
    obtain ⟨h1, h2⟩ := new_tup np rxs
    exact k _ _ _ h1 h2
  · rename_i ds
    cases e
    have rx : Rp K W H v (.tuple ds) := rx
    have rx0 := rx
    cases rx with
    | tup ra rxs => exact ⟨_, _, rfl, .inr ⟨ra.sq, k _ H W Ext.refl rx0⟩⟩
  · cases e
def gInt : PyData → Option RV
  | .int i => some (.d (.int i))
  | .bool c => some (.d (.int (if c then 1 else 0)))
  | _ => none
theorem og_int : OpD1 K (fun v H Q => (fun xs H Q => (∃ i, xs = [V.int i] ∧ Q (.int i) H) ∨ ∃ k, xs = [V.bl k] ∧ Q (.int (if k then 1 else 0)) H) [v] H Q) gInt := by
  intro W H v x z Q rx e k
  unfold gInt at e
  split at e
  · cases e; cases rx.int
    exact .inl ⟨_, rfl, k _ H W Ext.refl .int⟩
  · cases e; cases rx.bl
    exact .inr ⟨_, rfl, k _ H W Ext.refl .int⟩
  · cases e
def gStr : PyData → Option RV
  | .int i => if i.natAbs.log2 < 1920 then some (.d (.str (toString i))) else none
  | _ => none
theorem og_str : OpD1 K (fun v H Q => (fun xs H Q => ∃ i : Int, xs = [V.int i] ∧ i.natAbs.log2 < 1920 ∧ Q (.str (toString i)) H) [v] H Q) gStr := by
  intro W H v x z Q rx e k
  unfold gStr at e
  split at e
  · cases rx.int
    split at e
    · rename_i hl
      cases e
      exact ⟨_, rfl, hl, k _ H W Ext.refl .str⟩
    · cases e
  · cases e
/-! ### sorted -/
def ins (i : Int) : List Int → List Int
  | [] => [i]
  | j :: r => if i ≤ j then i :: j :: r else j :: ins i r
def srt : List Int → List Int
  | [] => []
  | i :: r => ins i (srt r)
theorem ins_perm (i : Int) : ∀ l : List Int, (ins i l).Perm (i :: l)
  | [] => .refl _
  | j :: r => by
    unfold ins
    split
    · exact .refl _
    · exact ((ins_perm i r).cons j).trans (.swap i j r)
theorem srt_perm : ∀ l : List Int, (srt l).Perm l
  | [] => .refl _
  | i :: r => (ins_perm i (srt r)).trans ((srt_perm r).cons i)
theorem ins_pair (i : Int) : ∀ l : List Int, l.Pairwise (· ≤ ·) → (ins i l).Pairwise (· ≤ ·)
  | [], _ => List.pairwise_singleton _ _
  | j :: r, h => by
    unfold ins
    rw [List.pairwise_cons] at h
    split
    · rename_i hij
      exact List.pairwise_cons.mpr ⟨fun y hy => by
        rcases List.mem_cons.mp hy with rfl | hy
        · exact hij
        · exact Int.le_trans hij (h.1 y hy), List.pairwise_cons.mpr h⟩
    · rename_i hij
      refine List.pairwise_cons.mpr ⟨fun y hy => ?_, ins_pair i r h.2⟩
      rcases List.mem_cons.mp ((ins_perm i r).mem_iff.mp hy) with rfl | hy
      · omega
      · exact h.1 y hy
theorem srt_pair : ∀ l : List Int, (srt l).Pairwise (· ≤ ·)
  | [] => .nil
  | i :: r => ins_pair i _ (srt_pair r)
theorem srt_eq {a b : List Int} (hp : a.Perm b) (ha : a.Pairwise (· ≤ ·)) : a = srt b :=
  (hp.trans (srt_perm b).symm).eq_of_pairwise (fun x y _ _ h1 h2 => Int.le_antisymm h1 h2) ha (srt_pair b)
def asInts : List PyData → Option (List Int)
  | [] => some []
  | .int i :: r => match asInts r with
    | some l => some (i :: l)
    | none => none
  | _ :: _ => none
theorem asInts_map : ∀ l : List Int, asInts (l.map PyData.int) = some l
  | [] => rfl
  | i :: r => by simp [asInts, asInts_map r]
theorem asInts_ok {W : Own} {H : Hp} : ∀ {ds : List PyData} {vs : List V} {ns : List Int}, RpAll K W H vs ds → asInts ds = some ns → vs = ns.map V.int ∧ ds = ns.map PyData.int
  | [], _, _, h, e => by cases h; cases e; exact ⟨rfl, rfl⟩
  | d :: r, _, _, h, e => by
    cases h with
    | cons a b =>
      cases d with
      | int i =>
        unfold asInts at e
        split at e
        · rename_i l el
          cases e
          cases a
          obtain ⟨h1, h2⟩ := asInts_ok b el
          exact ⟨by rw [h1]; rfl, by rw [h2]; rfl⟩
        · cases e
      | _ => cases e
theorem rpInts {W : Own} {H : Hp} : ∀ ns : List Int, RpAll K W H (ns.map V.int) (ns.map PyData.int)
  | [] => .nil
  | _ :: r => .cons .int (rpInts r)
def gSortedI (ds : List PyData) : Option RV := match asInts ds with
  | some ns => some (.nw (.lst ((srt ns).map PyData.int)))
  | none => none
def keysI : List (Key × PyData) → Option (List Int)
  | [] => some []
  | (.inl i, _) :: r => match keysI r with
    | some l => some (i :: l)
    | none => none
  | _ :: _ => none
theorem keysI_ok {W : Own} {H : Hp} : ∀ {kvs : List (Key × PyData)} {ks : List (Key × V)} {ns : List Int}, RpKV K W H ks kvs → keysI kvs = some ns → ks.map (·.1) = ns.map Sum.inl
  | [], _, _, h, e => by cases h; cases e; rfl
  | (k, d) :: r, _, _, h, e => by
    cases h with
    | cons a b =>
      cases k with
      | inl i =>
        unfold keysI at e
        split at e
        · rename_i l el
          cases e
          have := keysI_ok b el
          simp [this]
        · cases e
      | inr x => cases e
/-- sorted(xs) of ints; sorted(d) of a dict of fewer than 64 ints -/
def gSorted (r : RV) : Option RV := match r.dat with
  | some (.list ds) => gSortedI ds
  | some _ => none
  | none => match r.dic with
    | some kvs => match keysI kvs with
      | some ns => if ns.length < 64 then some (.nw (.lst ((srt ns).map PyData.int))) else none
      | none => none
    | none => none
abbrev rSortedA (K : Frag) : List V → Hp → VK → Prop := fun xs H Q => rSortedI K xs H Q ∨ (∃ (a : Addr) (kvs : List (Key × V)) (ks : List Int), xs = [.ref a] ∧ Rd H a (.dK kvs) ∧ kvs.map (·.1) = ks.map Sum.inl ∧ ks.length < 64 ∧
    ∀ (ys : List Int) (p : Addr), ys.Perm ks → ys.Pairwise (· ≤ ·) → H p = none → Q (.ref p) (upd H p (.lst (ys.map V.int))))
theorem CallR.or {X : Cx} {f : Value} {r r' : List V → Hp → VK → Prop} (h : CallR X f r) (h' : CallR X f r') : CallR X f (fun xs H Q => r xs H Q ∨ r' xs H Q) := fun pins s σ H xs us Q I rx q =>
  q.elim (h pins s σ H xs us Q I rx) (h' pins s σ H xs us Q I rx)
theorem cr_sortedA {X : Cx} (hc : X.calm = true) : CallR X (.builtin "sorted") (rSortedA X.K) := CallR.or cr_sortedI (call_sortedDI hc)
theorem og_sorted : Op1 K (fun v H Q => rSortedA K [v] H Q) gSorted := by
  intro W H v x z Q ox e k
  unfold gSorted at e
  split at e
  · rename_i ds ed
    unfold gSortedI at e
    split at e
    · rename_i ns en
      cases e
      obtain ⟨a, vs, rfl, ra, rxs⟩ := ox.root ed
      obtain ⟨e1, e2⟩ := asInts_ok rxs en
      subst e1
      refine .inl ⟨a, ns, rfl, .inl ra, fun ns' p hp hs np => ?_⟩
      rw [srt_eq hp hs]
      obtain ⟨h1, h2⟩ := new_lst np (rpInts (K := K) (W := W) (H := H) (srt ns))
      exact k _ _ _ h1 h2
    · cases e
  · cases e
  · split at e
    · rename_i kvs ek
      split at e
      · rename_i ns en
        split at e
        · rename_i hl
          cases e
          have : ∃ a ks, v = .ref a ∧ H a = some (.dK ks) ∧ RpKV K W H ks kvs := by
            unfold RV.dic at ek
            split at ek
            · cases ek; exact ox
            · cases ek; exact ox
            · cases ek
          obtain ⟨a, ks, rfl, ha, rks⟩ := this
          refine .inr ⟨a, ks, ns, rfl, .inl ha, keysI_ok rks en, hl, fun ns' p hp hs np => ?_⟩
          rw [srt_eq hp hs]
          obtain ⟨h1, h2⟩ := new_lst np (rpInts (K := K) (W := W) (H := H) (srt ns))
          exact k _ _ _ h1 h2
        · cases e
      · cases e
    · cases e
end
end M

set_option maxHeartbeats 2000000
/-! M9: raise, targets, loops. Own work. -/
namespace M
open PySem PySem.Spec PyProof.Rows L2

section
variable {X : Cx} {G : GC} {b b1 b2 : Bool} {a e tg iter : Expr} {m k : ME} {mt : MT} {pos : Pos} {sts : List Stmt} {ms : MSt}
/-! ### raise -/
def mraise (c : Str) : MSt := fun S => .exc c S
theorem st_raise {c : Str} (tk : Takes X G.xw) (he : PMk X e (fun _ H Q => Q (.ref (He.ga X.K c)) none H)) (hc : X.calm = true := by rfl) : ST X G (.Raise (some e) none pos) (mraise c) :=
  ⟨(ps_raise hc tk he).imp fun D σ H ⟨S, W, cc, q⟩ => q σ H W Mono.refl cc⟩

/-! ### targets -/
abbrev MG := PyData → MS → Option MS
/-- σ' differs from σ at the slots vs alone -/
def SmO (vs : List Nat) (σ σ' : L2.St) : Prop := σ'.length = σ.length ∧ ∀ j, j ∉ vs → σ'[j]? = σ[j]?
theorem SmO.refl {vs : List Nat} {σ : L2.St} : SmO vs σ σ := ⟨rfl, fun _ _ => rfl⟩
theorem SmO.trans {vs ws : List Nat} {σ σ1 σ2 : L2.St} (a : SmO vs σ σ1) (b : SmO ws σ1 σ2) : SmO (vs ++ ws) σ σ2 := ⟨b.1.trans a.1, fun j hj => by
  rw [List.mem_append, not_or] at hj
  rw [b.2 j hj.2, a.2 j hj.1]⟩
def tGV (K : Frag) (G : GC) (vs : List Nat) (f : MG) : TG := fun v σ H Q => ∃ S W d S', Conc K G S σ H W ∧ Rp K W H v d ∧ f d S = some S' ∧ ∀ σ', SmO vs σ σ' → Conc K G S' σ' H W → Q σ' H
structure GV (X : Cx) (G : GC) (tg : Expr) (vs : List Nat) (f : MG) : Prop where
  pg : PG X tg (tGV X.K G vs f)
abbrev MGs := List PyData → MS → Option MS
def tGVs (K : Frag) (G : GC) (ns : List Nat) (f : MGs) : TGs := fun vs σ H Q => ∃ S W ds S', Conc K G S σ H W ∧ RpAll K W H vs ds ∧ f ds S = some S' ∧ ∀ σ', SmO ns σ σ' → Conc K G S' σ' H W → Q σ' H
structure GVs (X : Cx) (G : GC) (tgs : List Expr) (vs : List Nat) (f : MGs) : Prop where
  pgs : PGs X tgs (tGVs X.K G vs f)
theorem PG.imp {t t' : TG} (h : PG X tg t) (i : ∀ v σ H Q, t' v σ H Q → t v σ H Q) : PG X tg t' := ⟨fun pins s σ H v u Q I r q => h.run pins s σ H v u Q I r (i v σ H Q q)⟩
theorem PGs.imp {tgs : List Expr} {t t' : TGs} (h : PGs X tgs t) (i : ∀ v σ H Q, t' v σ H Q → t v σ H Q) : PGs X tgs t' := ⟨fun pins s σ H v u Q I r q => h.run pins s σ H v u Q I r (i v σ H Q q)⟩
def tgN (i : Nat) : MG := fun d S => some (S.set i (some (.d d)))
theorem gv_name {i : Nat} (h : PG X tg (gName i)) (hi : Free G i) : GV X G tg [i] (tgN i) :=
  ⟨PG.imp h fun v σ H Q ⟨S, W, d, S', c, r, e, q⟩ => by
    cases e
    exact q _ ⟨by rw [List.length_set], fun j hj => by rw [List.getElem?_set_ne (fun e => hj (by simp [e]))]⟩ (c.set hi Ext.refl (.d r))⟩
def tgsN : MGs := fun ds S => match ds with
  | [] => some S
  | _ => none
def tgsC (f : MG) (g : MGs) : MGs := fun ds S => match ds with
  | d :: r => (f d S).bind fun S1 => g r S1
  | [] => none
theorem gvs_nil : GVs X G [] [] tgsN := ⟨PGs.imp pgs_nil fun vs σ H Q ⟨S, W, ds, S', c, r, e, q⟩ => by
  unfold tgsN at e
  split at e
  · cases e
    cases r
    exact ⟨rfl, q σ SmO.refl c⟩
  · cases e⟩
theorem gvs_cons {tgs : List Expr} {vs ws : List Nat} {f : MG} {g : MGs} (h : GV X G tg vs f) (r : GVs X G tgs ws g) (hs : (assignEach (tg :: tgs) X.env).map (·.2) = assign tg X.env :: (assignEach tgs X.env).map (·.2) := by rfl) : GVs X G (tg :: tgs) (vs ++ ws) (tgsC f g) :=
  ⟨PGs.imp (pgs_cons h.pg r.pgs hs) fun vs σ H Q ⟨S, W, ds, S', c, r, e, q⟩ => by
    unfold tgsC at e
    split at e
    · rename_i d ds'
      cases r with
      | cons ra rb =>
        cases ef : f d S with
        | none => rw [ef] at e; cases e
        | some S1 =>
          rw [ef] at e
          exact ⟨_, _, rfl, S, W, d, S1, c, ra, ef, fun σ1 s1 c1 => ⟨S1, W, ds', S', c1, rb, e, fun σ2 s2 c2 => q σ2 (s1.trans s2) c2⟩⟩
    · cases e⟩
def tgT (n : Nat) (g : MGs) : MG := fun d S => match d with
  | .tuple ds => if ds.length = n then g ds S else none
  | _ => none
theorem gv_tup {es : List Expr} {vs : List Nat} {kk n : Nat} {g : MGs} (h : GVs X G es vs g) (hc : X.calm = true := by rfl) (hn : (assignEach es X.env).length = n := by rfl) (hst : (assignEach es X.env).findIdx? (·.1) = none := by rfl) : GV X G (.Tuple es kk pos) vs (tgT n g) :=
  ⟨PG.imp (pg_tup hc h.pgs hn hst) fun v σ H Q ⟨S, W, d, S', c, r, e, q⟩ => by
    unfold tgT at e
    split at e
    · rename_i ds
      split at e
      · rename_i hl
        cases r with
        | tup ra rb => exact ⟨_, _, rfl, ra.sq, by rw [rb.len]; exact hl, S, W, ds, S', c, rb, e, q⟩
      · cases e
    · cases e⟩

/-! ### what a loop walks -/
abbrev MI := MS → R (List PyData)
def Yl (K : Frag) (b : Bool) (J : It) (ds : List PyData) (W : Own) (H : Hp) : Prop := ∀ W1 H1, Stp b W H W1 H1 → ∀ i, (∀ d, ds[i]? = some d → J.go i H1 ∧ ∀ x H', J.yld i H1 x H' → ∃ W', Ext W1 H1 W' H' ∧ Rp K W' H' x d) ∧ (ds.length ≤ i → J.stop i H1)
abbrev relI (K : Frag) (bl : Bool) : Own → Hp → It → List PyData → Prop := fun W H J ds => Yl K bl J ds W H
def tIV (K : Frag) (G : GC) (b bl : Bool) (m : MI) : TI := fun σ H R => ∃ S W, Conc K G S σ H W ∧ okR (relI K bl) K G b W H σ R (m S)
structure IV (b bl : Bool) (X : Cx) (G : GC) (tg e : Expr) (m : MI) : Prop where
  pi : PI X tg e (tIV X.K G b bl m)
theorem PI.imp {t t' : TI} (h : PI X tg e t) (i : ∀ σ H R, t' σ H R → t σ H R) : PI X tg e t' := ⟨fun pins s σ H R I q => h.run pins s σ H R I (i σ H R q)⟩
def toI (o : Option (List PyData)) (S : MS) : R (List PyData) := match o with
  | some ds => .ok ds S
  | none => .stuck
def datL (r : RV) : Option (List PyData) := match r.dat with
  | some (.list ds) => some ds
  | _ => none
def datT (r : RV) : Option (List PyData) := match r.dat with
  | some (.tuple ds) => some ds
  | _ => none
def miL (bl : Bool) (m : ME) : MI := fun S => (m S).bind fun r S1 => toI ((stab bl r).bind datL) S1
def miT (m : ME) : MI := fun S => (m S).bind fun r S1 => toI (datT r) S1
theorem opd_list {K : Frag} {W : Own} {H : Hp} {v : V} {r : RV} {ds : List PyData} (h : Opd K W H v r) (e : datL r = some ds) : ∃ a xs, v = .ref a ∧ Rd H a (.lst xs) ∧ RpAll K W H xs ds := by
  unfold datL at e
  split at e
  · rename_i ds' ed
    cases e
    exact h.root ed
  · cases e
theorem opd_tup {K : Frag} {W : Own} {H : Hp} {v : V} {r : RV} {ds : List PyData} (h : Opd K W H v r) (e : datT r = some ds) : Rp K W H v (.tuple ds) := by
  unfold datT at e
  split at e
  · rename_i ds' ed
    cases e
    exact h.root ed
  · cases e
/-- what a list of ours yields; two readings of one list agree by the invariant of the run: here by the place -/
theorem yl_list {K : Frag} {bl : Bool} {W : Own} {H : Hp} {v : V} {a : Addr} {r : RV} {ds : List PyData} (hv : v = .ref a) (e : datL r = some ds) (h : ∀ W1 H1, Stp bl W H W1 H1 → Opd K W1 H1 v r) : Yl K bl (Itl K a) ds W H := fun W1 H1 st i => by
  obtain ⟨a', xs, e1, rd, rp⟩ := opd_list (h W1 H1 st) e
  rw [hv] at e1
  cases e1
  refine ⟨fun d hd => ?_, fun hl => ⟨xs, .inl rd, by rw [rp.len]; exact hl⟩⟩
  obtain ⟨x, hx, rx⟩ := rp.get hd
  refine ⟨⟨xs, x, .inl rd, hx⟩, fun y H' hy => ?_⟩
  obtain ⟨eH, hy⟩ := hy
  subst eH
  have := hy xs (.inl rd)
  rw [hx] at this
  cases this
  exact ⟨W1, Ext.refl, rx⟩
theorem iv_list {bl : Bool} (h : EV b X G e m) : IV b bl X G tg e (miL bl m) :=
  ⟨PI.imp (pi_list h.pe) fun σ H R ⟨S, W, c, q⟩ => ⟨S, W, c, (okR.one q).imp fun v H1 ⟨r, S1, W1, st, c1, rv, q1⟩ => by
    unfold toI at q1
    split at q1
    · rename_i ds ed
      cases es : stab bl r with
      | none => rw [es] at ed; cases ed
      | some r' =>
        rw [es] at ed
        have ed : datL r' = some ds := ed
        obtain ⟨W1', ex, hx⟩ := stab_ok rv es
        obtain ⟨a, xs, ev, rd, rp⟩ := opd_list (hx W1' H1 Stp.refl) ed
        exact ⟨a, ev, ⟨xs, .inl rd⟩, q1 _ H1 W1' (Stp.of ex) (c1.ext ex) (yl_list ev ed hx)⟩
    · exact q1.elim⟩⟩
theorem iv_tup {bl : Bool} (h : EV b X G e m) : IV b bl X G tg e (miT m) :=
  ⟨PI.imp (pi_tup h.pe) fun σ H R ⟨S, W, c, q⟩ => ⟨S, W, c, (okR.one q).imp fun v H1 ⟨r, S1, W1, st, c1, rv, q1⟩ => by
    unfold toI at q1
    split at q1
    · rename_i ds ed
      have rp := opd_tup (Opd.of rv) ed
      have rp0 := rp
      cases rp with
      | @tup a xs _ ra rb =>
        refine ⟨a, rfl, ⟨xs, ra.sq⟩, q1 _ H1 W1 Stp.refl c1 fun W2 H2 st2 i => ?_⟩
        have ra2 := ra.fz st2.fz
        have rb2 := rb.fz st2.fz
        refine ⟨fun d hd => ?_, fun hl => ⟨xs, ra2.sq, by rw [rb2.len]; exact hl⟩⟩
        obtain ⟨x, hx, rx⟩ := rb2.get hd
        refine ⟨⟨xs, x, ra2.sq, hx⟩, fun y H' hy => ?_⟩
        obtain ⟨eH, hy⟩ := hy
        subst eH
        have := hy xs ra2.sq
        rw [hx] at this
        cases this
        exact ⟨W2, Ext.refl, rx⟩
    · exact q1.elim⟩⟩
/-- lo, lo + c, .. -/
def rngD (lo c : Int) (n : Nat) : List PyData := (List.range n).map fun i => .int (lo + (i : Nat) * c)
def inR (i : Int) : Bool := decide (-(2 ^ 62) ≤ i) && decide (i < 2 ^ 62)
def miR1 (m : ME) : MI := fun S => (m S).bind fun r S1 => match r with
  | .d (.int j) => if inR j = true then .ok (rngD 0 1 j.toNat) S1 else .stuck
  | _ => .stuck
def miR2 (m k : ME) : MI := fun S => (m S).bind fun r S1 => match r with
  | .d (.int i) => (k S1).bind fun r2 S2 => match r2 with
    | .d (.int j) => if (inR i && inR j) = true then .ok (rngD i 1 (j - i).toNat) S2 else .stuck
    | _ => .stuck
  | _ => .stuck
theorem rngD_get {lo c : Int} {n i : Nat} {d : PyData} (h : (rngD lo c n)[i]? = some d) : i < n ∧ d = .int (lo + (i : Nat) * c) := by
  unfold rngD at h
  rw [List.getElem?_map] at h
  cases e : (List.range n)[i]? with
  | none => rw [e] at h; cases h
  | some j =>
    rw [e] at h
    obtain ⟨h1, h2⟩ := List.getElem?_eq_some_iff.mp e
    simp at h1 h2
    subst h2
    cases h
    exact ⟨h1, rfl⟩
theorem yl_rng {K : Frag} {bl : Bool} {W : Own} {H : Hp} {lo : Int} {n : Nat} : Yl K bl (Itr lo n) (rngD lo 1 n) W H := fun W1 H1 st i => by
  refine ⟨fun d hd => ?_, fun hl => ?_⟩
  · obtain ⟨h1, h2⟩ := rngD_get hd
    refine ⟨h1, fun y H' hy => ?_⟩
    obtain ⟨eH, ey⟩ := hy
    subst eH ey h2
    exact ⟨W1, Ext.refl, by rw [Int.mul_one]; exact .int⟩
  · unfold rngD at hl
    rw [List.length_map, List.length_range] at hl
    exact hl
theorem inR_ok {i : Int} (h : inR i = true) : -(2 ^ 62) ≤ i ∧ i < 2 ^ 62 := by
  unfold inR at h
  simpa using h
theorem iv_range1 {bl : Bool} {p : Pos} (hm : X.mg "range" = none) (h : EV b X G a m) (hg : Gl X "range" := by rfl) (hs : starEach [a] X.env = [(false, eval a X.env)] := by rfl) : IV b bl X G tg (.Call (.Name "range" p) [a] [] pos) (miR1 m) :=
  ⟨PI.imp (pi_range1 hg hm (pa_cons h.pe pa_nil hs) hs) fun σ H R ⟨S, W, c, q⟩ => ⟨S, W, c, (okR.one q).imp fun v H1 ⟨r, S1, W1, st, c1, rv, q1⟩ => by
    split at q1
    · rename_i j
      have rv : Rp _ W1 H1 v (.int j) := rv
      cases rv
      split at q1
      · rename_i hj
        obtain ⟨h1, h2⟩ := inR_ok hj
        exact ⟨j, rfl, h1, h2, q1 _ H1 W1 Stp.refl c1 yl_rng⟩
      · exact q1.elim
    · exact q1.elim⟩⟩
theorem iv_range2 {bl : Bool} {c : Expr} {p : Pos} (hm : X.mg "range" = none) (h : EV b X G a m) (h2 : EV true X G c k) (hg : Gl X "range" := by rfl) (hs : starEach [a, c] X.env = [(false, eval a X.env), (false, eval c X.env)] := by rfl)
    (hs2 : starEach [c] X.env = [(false, eval c X.env)] := by rfl) : IV b bl X G tg (.Call (.Name "range" p) [a, c] [] pos) (miR2 m k) :=
  ⟨PI.imp (pi_range2 hg hm (pa_cons h.pe (pa_cons h2.pe pa_nil hs2) (by rw [hs, hs2])) hs hs2) fun σ H R ⟨S, W, cc, q⟩ => ⟨S, W, cc, (okR.one q).imp fun v H1 ⟨r, S1, W1, st, c1, rv, q1⟩ => by
    split at q1
    · rename_i i
      have rv : Rp _ W1 H1 v (.int i) := rv
      cases rv
      exact ⟨S1, W1, c1, (okR.one q1).imp fun u H2 ⟨r2, S2, W2, st2, c2, rv2, q2⟩ => by
        split at q2
        · rename_i j
          have rv2 : Rp _ W2 H2 u (.int j) := rv2
          cases rv2
          split at q2
          · rename_i hj
            rw [Bool.and_eq_true] at hj
            obtain ⟨h1, h2⟩ := inR_ok hj.1
            obtain ⟨h3, h4⟩ := inR_ok hj.2
            exact ⟨i, j, rfl, ⟨h1, h2, h3, h4⟩, q2 _ H2 W2 Stp.refl c2 yl_rng⟩
          · exact q2.elim
        · exact q2.elim⟩
    · exact q1.elim⟩⟩
/-- enumerate(xs) -/
def enumD (ds : List PyData) : Nat → List PyData
  | n => ds.zipIdx n |>.map fun p => .tuple [.int (p.2 : Nat), p.1]
def miE (bl : Bool) (m : ME) : MI := fun S => (m S).bind fun r S1 => toI (((stab bl r).bind datL).map fun ds => enumD ds 0) S1
theorem enumD_get {ds : List PyData} {i : Nat} {d : PyData} (h : (enumD ds 0)[i]? = some d) : ∃ x, ds[i]? = some x ∧ d = .tuple [.int (i : Nat), x] := by
  unfold enumD at h
  rw [List.getElem?_map, List.getElem?_zipIdx] at h
  cases e : ds[i]? with
  | none => rw [e] at h; cases h
  | some x =>
    rw [e] at h
    simp at h
    exact ⟨x, rfl, h.symm⟩
theorem enumD_len {ds : List PyData} : (enumD ds 0).length = ds.length := by simp [enumD]
theorem yl_enum {K : Frag} {bl : Bool} {W : Own} {H : Hp} {v : V} {a : Addr} {r : RV} {ds : List PyData} (hv : v = .ref a) (e : datL r = some ds) (h : ∀ W1 H1, Stp bl W H W1 H1 → Opd K W1 H1 v r) : Yl K bl (Ite K a) (enumD ds 0) W H := fun W1 H1 st i => by
  obtain ⟨a', xs, e1, rd, rp⟩ := opd_list (h W1 H1 st) e
  rw [hv] at e1
  cases e1
  refine ⟨fun d hd => ?_, fun hl => ⟨xs, .inl rd, by rw [rp.len]; rw [enumD_len] at hl; exact hl⟩⟩
  obtain ⟨d0, hd0, ed⟩ := enumD_get hd
  obtain ⟨x, hx, rx⟩ := rp.get hd0
  refine ⟨⟨xs, x, .inl rd, hx⟩, fun y H' hy => ?_⟩
  obtain ⟨T, x', ey, nT, eH, hy⟩ := hy
  subst eH ey ed
  have := hy xs (.inl rd)
  rw [hx] at this
  cases this
  obtain ⟨h1, h2⟩ := new_tup (K := K) nT (RpAll.cons (.int (i := (i : Nat))) (.cons rx .nil))
  exact ⟨_, h1, h2⟩
theorem iv_enum {bl : Bool} {p tpos : Pos} {elts : List Expr} {kk : Nat} (hm : X.mg "enumerate" = none) (h : EV b X G e m) (hg : Gl X "enumerate" := by rfl) (hs : starEach [e] X.env = [(false, eval e X.env)] := by rfl) : IV b bl X G (.Tuple elts kk tpos) (.Call (.Name "enumerate" p) [e] [] pos) (miE bl m) :=
  ⟨PI.imp (pi_enum hg hm (pa_cons h.pe pa_nil hs) hs) fun σ H R ⟨S, W, c, q⟩ => ⟨S, W, c, (okR.one q).imp fun v H1 ⟨r, S1, W1, st, c1, rv, q1⟩ => by
    unfold toI at q1
    split at q1
    · rename_i ds ed
      cases es : stab bl r with
      | none => rw [es] at ed; cases ed
      | some r' =>
        rw [es] at ed
        cases el : datL r' with
        | none => simp [el] at ed
        | some ds0 =>
          simp only [Option.bind_some, el, Option.map_some, Option.some.injEq] at ed
          subst ed
          obtain ⟨W1', ex, hx⟩ := stab_ok rv es
          obtain ⟨a, xs, ev, rd, rp⟩ := opd_list (hx W1' H1 Stp.refl) el
          subst ev
          exact ⟨a, xs, rfl, .inl rd, q1 _ H1 W1' (Stp.of ex) (c1.ext ex) (yl_enum rfl el hx)⟩
    · exact q1.elim⟩⟩
/-- a text, sign by sign -/
def chrD (x : Str) : List PyData := x.cps.toList.map fun c => .str ⟨#[c]⟩
def miS (m : ME) : MI := fun S => (m S).bind fun r S1 => match r with
  | .d (.str x) => .ok (chrD x) S1
  | _ => .stuck
theorem iv_str {bl : Bool} (h : EV b X G e m) : IV b bl X G tg e (miS m) :=
  ⟨PI.imp (pi_str h.pe) fun σ H R ⟨S, W, c, q⟩ => ⟨S, W, c, (okR.one q).imp fun v H1 ⟨r, S1, W1, st, c1, rv, q1⟩ => by
    split at q1
    · rename_i x
      have rv : Rp _ W1 H1 v (.str x) := rv
      cases rv
      refine ⟨x, rfl, q1 _ H1 W1 Stp.refl c1 fun W2 H2 st2 i => ⟨fun d hd => ?_, fun hl => ?_⟩⟩
      · unfold chrD at hd
        rw [List.getElem?_map, Array.getElem?_toList] at hd
        cases ec : x.cps[i]? with
        | none => rw [ec] at hd; cases hd
        | some cp =>
          rw [ec] at hd
          cases hd
          refine ⟨(Array.getElem?_eq_some_iff.mp ec).1, fun y H' hy => ?_⟩
          obtain ⟨eH, c', ec', ey⟩ := hy
          subst eH ey
          rw [ec] at ec'
          cases ec'
          exact ⟨W2, Ext.refl, .str⟩
      · unfold chrD at hl
        rw [List.length_map, Array.length_toList] at hl
        exact hl
    · exact q1.elim⟩⟩

/-! ### for -/
def loopM (f : MG) (body : MSt) : List PyData → MS → RS
  | [], S => .nx S
  | d :: ds, S => match f d S with
    | none => .stuck
    | some S' => match body S' with
      | .nx S2 => loopM f body ds S2
      | .ct S2 => loopM f body ds S2
      | .bk S2 => .nx S2
      | .rt r S2 => .rt r S2
      | .exc c S2 => .exc c S2
      | .stuck => .stuck
def mfor (mi : MI) (f : MG) (body : MSt) : MSt := fun S => (mi S).toS fun ds S1 => loopM f body ds S1
theorem st_for {mi : MI} {f : MG} {vs : List Nat} (hp : PassesOwn (model X.prog X.w) X.A X.env X.xe) (hi : IV b false X G tg iter mi) (hg : GV X G tg vs f) (hb : STs X G sts ms) (hc : X.calm = true := by rfl)
    (hs : ∀ x, foldedSetIterable iter X.env x = pure x := by intro _; rfl) : ST X G (.For tg iter sts [] pos) (mfor mi f ms) :=
  ⟨(ps_for hp hc hi.pi hg.pg hb.ps hs).imp fun D σ H ⟨S, W, cc, q⟩ => ⟨S, W, cc, (okR_of_S (f := fun ds S1 => loopM f ms ds S1) q).imp fun J H1 ⟨ds, S1, W1, c1, yl, q1⟩ => by
    refine ⟨fun i n σ H => n = ds.length - i ∧ i ≤ ds.length ∧ ∃ S2 W2, Mono W1 H1 W2 H ∧ Conc X.K G S2 σ H W2 ∧ okS X.K G W2 H D (loopM f ms (ds.drop i) S2), ⟨_, rfl, Nat.zero_le _, S1, W1, Mono.refl, c1, by simpa using q1⟩, ?_⟩
    rintro i n σ2 H2 ⟨rfl, hi, S2, W2, mo, c2, q2⟩
    obtain ⟨y1, y2⟩ := yl W2 H2 mo i
    by_cases hlt : i < ds.length
    · have ed : ds[i]? = some ds[i] := List.getElem?_eq_getElem hlt
      have edr : ds.drop i = ds[i] :: ds.drop (i + 1) := (List.drop_eq_getElem_cons hlt)
      rw [edr] at q2
      unfold loopM at q2
      obtain ⟨go, yy⟩ := y1 _ ed
      refine .inr ⟨go, fun σ' H' => ∃ S3 W3, Mono W1 H1 W3 H' ∧ Conc X.K G S3 σ' H' W3 ∧ okS X.K G W3 H' D (loopM f ms (ds.drop (i + 1)) S3), fun σ' H' h => ⟨ds.length - (i + 1), by omega, rfl, hlt, h⟩, fun x H' hx => ?_⟩
      obtain ⟨W', ex, rx⟩ := yy x H' hx
      cases ef : f ds[i] S2 with
      | none => rw [ef] at q2; exact q2.elim
      | some S3 =>
        rw [ef] at q2
        dsimp only at q2
        have q2 := okS.shift q2 ex.mono
        refine ⟨S2, W', _, S3, c2.ext ex, rx, ef, fun σ3 _ c3 => ⟨S3, W', c3, ?_⟩⟩
        have mo' := mo.trans ex.mono
        cases eb : ms S3 with
        | nx S4 =>
          rw [eb] at q2
          exact fun σ' H'' W'' m c => ⟨S4, W'', mo'.trans m, c, okS.shift q2 m⟩
        | ct S4 =>
          rw [eb] at q2
          exact fun σ' H'' W'' m c => ⟨S4, W'', mo'.trans m, c, okS.shift q2 m⟩
        | bk S4 => rw [eb] at q2; exact q2
        | rt r S4 => rw [eb] at q2; exact q2
        | exc c S4 => rw [eb] at q2; exact q2
        | stuck => rw [eb] at q2; exact q2
    · have e : i = ds.length := by omega
      subst e
      rw [List.drop_length] at q2
      exact .inl ⟨y2 (Nat.le_refl _), q2 σ2 H2 W2 Mono.refl c2⟩⟩⟩

/-! ### while -/
def whileF (t : MT) (body : MSt) : Nat → MS → RS
  | 0, _ => .stuck
  | n + 1, S => (t S).toS fun c S1 => if c = true then (match body S1 with
      | .nx S2 => whileF t body n S2
      | .ct S2 => whileF t body n S2
      | .bk S2 => .nx S2
      | .rt r S2 => .rt r S2
      | .exc c S2 => .exc c S2
      | .stuck => .stuck) else .nx S1
theorem whileF_mono {t : MT} {body : MSt} : ∀ {n m : Nat} {S : MS}, n ≤ m → whileF t body n S ≠ .stuck → whileF t body m S = whileF t body n S
  | 0, _, _, _, h => (h rfl).elim
  | n + 1, 0, _, hl, _ => by omega
  | n + 1, m + 1, S, hl, h => by
    unfold whileF at h ⊢
    cases et : t S with
    | ok c S1 =>
      rw [et] at h
      show (if c = true then _ else _) = (if c = true then _ else _)
      have h : (if c = true then (match body S1 with
        | .nx S2 => whileF t body n S2
        | .ct S2 => whileF t body n S2
        | .bk S2 => .nx S2
        | .rt r S2 => .rt r S2
        | .exc c S2 => .exc c S2
        | .stuck => .stuck) else RS.nx S1) ≠ .stuck := h
      cases c with
      | false => rfl
      | true =>
        simp only [if_true] at h ⊢
        cases eb : body S1 with
        | nx S2 => rw [eb] at h; exact whileF_mono (by omega) h
        | ct S2 => rw [eb] at h; exact whileF_mono (by omega) h
        | bk S2 => rfl
        | rt r S2 => rfl
        | exc c S2 => rfl
        | stuck => rfl
    | exc c S1 => rfl
    | stuck => rfl
noncomputable def mwhile (t : MT) (body : MSt) : MSt := fun S => open Classical in if h : ∃ n, whileF t body n S ≠ .stuck then whileF t body h.choose S else .stuck
theorem mwhile_eq {t : MT} {body : MSt} {n : Nat} {S : MS} (h : whileF t body n S ≠ .stuck) : mwhile t body S = whileF t body n S := by
  have hx : ∃ n, whileF t body n S ≠ .stuck := ⟨n, h⟩
  unfold mwhile
  rw [dif_pos hx]
  rcases Nat.le_total n hx.choose with hl | hl
  · exact whileF_mono hl h
  · exact (whileF_mono hl hx.choose_spec).symm
theorem st_while (hp : PassesOwn (model X.prog X.w) X.A X.env X.xe) (ht : TV b X G e mt) (hb : STs X G sts ms) : ST X G (.While e sts [] pos) (mwhile mt ms) :=
  ⟨(ps_while hp ht.pt hb.ps).imp fun D σ H ⟨S, W, cc, q⟩ => by
    have : ∃ n, okS X.K G W H D (whileF mt ms n S) := by
      unfold mwhile at q
      split at q
      · exact ⟨_, q⟩
      · exact q.elim
    obtain ⟨n, qn⟩ := this
    refine ⟨fun n σ H => ∃ S W, Conc X.K G S σ H W ∧ okS X.K G W H D (whileF mt ms n S), ⟨n, S, W, cc, qn⟩, ?_⟩
    rintro n σ1 H1 ⟨S1, W1, c1, q1⟩
    cases n with
    | zero => exact q1.elim
    | succ n =>
      unfold whileF at q1
      refine ⟨S1, W1, c1, (okR_of_S (ra := relB) q1).imp fun c H2 ⟨r, S2, W2, c2, rv, q2⟩ => ?_⟩
      have rv : c = r := rv
      subst rv
      cases c with
      | false => exact q2 σ1 H2 W2 Mono.refl c2
      | true =>
        simp only [if_true] at q2 ⊢
        refine ⟨fun σ' H' => ∃ S W, Conc X.K G S σ' H' W ∧ okS X.K G W H' D (whileF mt ms n S), fun σ' H' h => ⟨n, Nat.lt_succ_self n, h⟩, S2, W2, c2, ?_⟩
        cases eb : ms S2 with
        | nx S4 =>
          rw [eb] at q2
          exact fun σ' H'' W'' m c => ⟨S4, W'', c, okS.shift q2 m⟩
        | ct S4 =>
          rw [eb] at q2
          exact fun σ' H'' W'' m c => ⟨S4, W'', c, okS.shift q2 m⟩
        | bk S4 => rw [eb] at q2; exact q2
        | rt r S4 => rw [eb] at q2; exact q2
        | exc c S4 => rw [eb] at q2; exact q2
        | stuck => rw [eb] at q2; exact q2⟩
end
end M

set_option maxHeartbeats 2000000
/-! M10: isinstance, chains, returns of names, op=, parallel stores. Own work. -/
namespace M
open PySem PySem.Spec PyProof.Rows L2

section
variable {X : Cx} {G : GC} {b b1 b2 b3 : Bool} {a c d e tg : Expr} {m k l : ME} {mt : MT} {pos : Pos}
/-! ### isinstance(x, T) -/
def tyD : PyData → String
  | .none => "NoneType"
  | .bool _ => "bool"
  | .int _ => "int"
  | .str _ => "str"
  | .list _ => "list"
  | .tuple _ => "tuple"
  | .dict _ => "dict"
/-- the answers, as Python's classes stand -/
def isiT : String → PyData → Bool
  | "int", .int _ => true
  | "int", .bool _ => true
  | "bool", .bool _ => true
  | "str", .str _ => true
  | "list", .list _ => true
  | "tuple", .tuple _ => true
  | _, _ => false
def isiOk (T : String) : Bool := T == "int" || T == "bool" || T == "str" || T == "list" || T == "tuple"
def tabS (T s : String) : Bool := (T == s) || (T == "int" && s == "bool")
theorem kit_tab : ∀ T ∈ ["int", "bool", "str", "list", "tuple"], ∀ s ∈ ["NoneType", "bool", "int", "str", "list", "tuple", "dict"], kitB s T = some (tabS T s) := by decide +kernel
theorem isi_kit {T : String} (h : isiOk T = true) (x : PyData) : kitB (tyD x) T = some (isiT T x) := by
  unfold isiOk at h
  simp only [Bool.or_eq_true, beq_iff_eq] at h
  have h1 : T ∈ ["int", "bool", "str", "list", "tuple"] := by rcases h with (((rfl | rfl) | rfl) | rfl) | rfl <;> simp
  have h2 : tyD x ∈ ["NoneType", "bool", "int", "str", "list", "tuple", "dict"] := by cases x <;> simp [tyD]
  rw [kit_tab T h1 _ h2]
  rcases h with (((rfl | rfl) | rfl) | rfl) | rfl <;> cases x <;> rfl
def gIsi (T : String) (x : PyData) : Option RV := match x with
  | .dict _ => none
  | x => some (.d (.bool (isiT T x)))
def misi (T : String) (m : ME) : ME := mop1 (lift1 (gIsi T)) m
theorem ty_of {K : Frag} {W : Own} {H : Hp} {v : V} {x : PyData} (h : Root K W H v x) : TyX K H v (.type (tyD x)) := by
  cases x with
  | none => cases h.non; exact .base .non
  | bool _ => cases h.bl; exact .base (.bl _)
  | int _ => cases h.int; exact .base (.int _)
  | str _ => cases h.str; exact .base (.str _)
  | list _ =>
    obtain ⟨a, xs, rfl, r, _⟩ := h
    rcases r with r | ⟨o, r⟩
    · exact .base (.lst r)
    · exact .base (.frz r)
  | tuple _ =>
    have h : Rp K W H v (.tuple _) := h
    cases h with
    | tup r _ =>
      rcases r with ⟨_, r | ⟨o, r⟩⟩ | ⟨o, its, n, hk, hc, _⟩
      · exact .base (.tup r)
      · exact .fTuple r
      · exact .kTuple hk hc
  | dict _ =>
    have h : Rp K W H v (.dict _) := h
    cases h
theorem ev_isi {T : String} {x : Str} {p p2 : Pos} (hm : X.mg "isinstance" = none) (hmT : X.mg x = none) (h : EV b X G e m) (hT : isiOk T = true := by rfl) (hg : Gl X "isinstance" := by rfl) (hgT : Gl X x := by rfl) (hvT : bootBuiltins x = some (.type T) := by decide +kernel)
    (hs : starEach [e, .Name x p2] X.env = (false, eval e X.env) :: starEach [.Name x p2] X.env := by rfl) (hs2 : starEach [.Name x p2] X.env = (false, eval (.Name x p2) X.env) :: starEach [] X.env := by rfl)
    (hn : x ≠ "__name__" := by decide) (hd : (x == ("__debug__" : Str)) = false := by decide) (hpl : (backTo pos (starEach [.Name x p2] X.env)).any (·.1) = false := by rfl) :
    EV b X G (.Call (.Name "isinstance" p) [e, .Name x p2] [] pos) (misi T m) :=
  ⟨(pe_callB call_isi hg hm (by decide +kernel) (pa_cons h.pe (pa_cons (pe_bltn (v := .ty T) hgT hmT hvT rfl hn hd) pa_nil hs2) hs) (by decide) (by decide) hs hpl).imp fun σ H Q q =>
    run1 (r := fun v H Q => rIsi X.K [v, .ty T] H Q) (OpD1.op fun W H v x z Q rx ez kk => by
      have ez2 : some (RV.d (.bool (isiT T x))) = some z := by
        unfold gIsi at ez
        cases x <;> first | exact ez | cases ez
      cases ez2
      exact ⟨v, .ty T, _, _, _, rfl, .ty T, ty_of rx, kit_ty (isi_kit hT x), kk _ H W Ext.refl .bl⟩) q⟩
/-! ### a op b op c, of inert parts -/
def mchain (g g' : RV → RV → Option RV) (m k l : ME) : ME := fun S => (m S).bind fun x S1 => (k S1).bind fun y S2 => msel (g x y) fun r => match r with
  | .d (.bool true) => (l S2).bind fun z S3 => toR (g' y z) S3
  | .d (.bool false) => .ok (.d (.bool false)) S2
  | _ => .stuck
theorem run_chain {K : Frag} {r r' : R2} {g g' : RV → RV → Option RV} (og : Op2 K r g) (og' : Op2 K r' g') {σ : L2.St} {H : Hp} {Q : VK} (h : tEV K G true (mchain g g' m k l) σ H Q) : tChain r r' (tEV K G true m) (tEV K G true k) (tEV K G true l) σ H Q := by
  obtain ⟨S, W, cc, q⟩ := h
  refine ⟨S, W, cc, (okR.one q).imp fun v H1 ⟨x, S1, W1, st, c1, rv, q1⟩ => ⟨S1, W1, c1, (okR.one q1).imp fun u H2 ⟨y, S2, W2, st2, c2, rv2, q2⟩ => ?_⟩⟩
  unfold msel at q2
  split at q2
  · rename_i r0 e0
    dsimp only at q2
    refine og W2 H2 v u x y r0 _ ((Opd.of rv).ext st2) (Opd.of rv2) e0 fun v' H' W' ex rn => ?_
    split at q2
    · have rn : Rp K W' H' v' (.bool true) := rn
      cases rn
      refine ⟨true, rfl, ?_⟩
      rw [if_pos rfl]
      have q2 := q2.shift' ex
      refine ⟨S2, W', c2.ext ex, (okR.one q2).imp fun t H3 ⟨z, S3, W3, st3, c3, rv3, q3⟩ => ?_⟩
      unfold toR at q3
      split at q3
      · rename_i z0 ez
        exact og' W3 H3 u t y z z0 Q (((Opd.of rv2).ext ex).ext st3) (Opd.of rv3) ez fun v'' H'' W'' ex' rn' => q3 v'' H'' W'' ex' (c3.ext ex') rn'.rv
      · exact q3.elim
    · have rn : Rp K W' H' v' (.bool false) := rn
      cases rn
      refine ⟨false, rfl, ?_⟩
      rw [if_neg (by decide)]
      exact q2 _ H' W' ex (c2.ext ex) .bl
    · exact q2.elim
  · exact q2.elim
theorem ev_chain {op op' : CmpOp} {r r' : R2} {g g' : RV → RV → Option RV} (ho : OpR X (compareOp op) r) (og : Op2 X.K r g) (ho' : OpR X (compareOp op') r') (og' : Op2 X.K r' g') (ha : EV true X G a m) (hb : EV true X G c k) (hc : EV true X G d l)
    (hm : lastMarks [op, op'] [c, d] = false := by with_unfolding_all rfl) : EV true X G (.Compare a [op, op'] [c, d] pos) (mchain g g' m k l) :=
  ⟨(pe_chain ho ho' ha.pe hb.pe hc.pe hm).imp fun σ H Q q => run_chain og og' q⟩
theorem tv_chain {op op' : CmpOp} {r r' : R2} {g g' : RV → RV → Option RV} (ho : OpR X (compareOp op) r) (og : Op2 X.K r g) (ho' : OpR X (compareOp op') r') (og' : Op2 X.K r' g') (ha : EV true X G a m) (hb : EV true X G c k) (hc : EV true X G d l)
    (hm : lastMarks [op, op'] [c, d] = false := by with_unfolding_all rfl) : TV true X G (.Compare a [op, op'] [c, d] pos) (tobool (mchain g g' m k l)) :=
  ⟨(pt_chain ho ho' ha.pe hb.pe hc.pe hm).imp fun σ H Q h => by
    have h1 := run_tob h
    exact run_chain og og' h1⟩
/-! ### return of an owned name -/
def mretV (i : Nat) : MSt := fun S => match S[i]? with
  | some (some (.d x)) => .rt (.d x) S
  | some (some t) => .rt (.nw t) (S.set i none)
  | _ => .stuck
theorem mv_rest {K : Frag} {S : MS} {σ : L2.St} {H : Hp} {W : Own} {i : Nat} (c : Conc K G S σ H W) (hi : Free G i) :
    ∃ W', Mono W H W' H ∧ Conc K G (S.set i none) σ H W' ∧ ∀ v t, Tr K W H [i + 1] v t → Tr K W' H [0] v t := by
  classical
  let W' : Own := fun a => if h : ∃ l : Path, W a = .own (l ++ [i + 1]) then .own (h.choose ++ [0]) else W a
  have w1 : ∀ a (l : Path), W a = .own (l ++ [i + 1]) → W' a = .own (l ++ [0]) := fun a l h => by
    have hx : ∃ l : Path, W a = .own (l ++ [i + 1]) := ⟨l, h⟩
    have e : W' a = .own (hx.choose ++ [0]) := dif_pos hx
    have e2 := Mk.own.inj (h.symm.trans hx.choose_spec)
    rw [e, ← List.append_cancel_right e2]
  have w2 : ∀ a, (¬ ∃ l : Path, W a = .own (l ++ [i + 1])) → W' a = W a := fun a h => dif_neg h
  have mo : Mono W H W' H := fun a o ha w => ⟨w2 a (fun ⟨l, e⟩ => by rcases w with w | w <;> rw [w] at e <;> cases e), ha⟩
  refine ⟨W', mo, ⟨by rw [List.length_set]; exact c.len, fun j t hj => ?_, c.mono.trans mo, c.args⟩, fun v t h => Tr.ren mo.fz (q := [i + 1]) (p := [0]) (fun a o l ha hw => ⟨w1 a l hw, ha⟩) t [] h⟩
  by_cases e : i = j
  · subst e
    by_cases hlt : i < S.length
    · rw [List.getElem?_set_self hlt] at hj
      cases hj
    · rw [List.getElem?_eq_none (by rw [List.length_set]; omega)] at hj
      cases hj
  · rw [List.getElem?_set_ne e] at hj
    obtain ⟨v, h1, h2⟩ := c.tr j t hj
    refine ⟨v, h1, h2.keep mo.fz fun a o l ha hw => ⟨?_, ha⟩⟩
    rw [w2 a (fun ⟨l', e'⟩ => ?_), hw]
    rw [hw] at e'
    have := congrArg List.getLast? (Mk.own.inj e')
    simp at this
    omega
theorem st_retV {i : Nat} (h : PE X e (tVar i)) (hi : Free G i) : ST X G (.Return (some e) pos) (mretV i) :=
  ⟨(ps_ret h).imp fun D σ H ⟨S, W, c, q⟩ => by
    unfold mretV at q
    cases hs : S[i]? with
    | none => rw [hs] at q; exact q.elim
    | some o =>
      cases o with
      | none => rw [hs] at q; exact q.elim
      | some t =>
        obtain ⟨v, hv, htr⟩ := c.tr i t hs
        refine ⟨v, hv, ?_⟩
        rw [hs] at q
        obtain ⟨W', mo, c', mv⟩ := mv_rest c hi
        cases t with
        | d x => cases htr with | d r => exact q v σ H W Mono.refl c r
        | lst ds => exact q v σ H W' mo c' (mv v _ htr)
        | dic ds => exact q v σ H W' mo c' (mv v _ htr)
        | obj _ ds => exact q v σ H W' mo c' (mv v _ htr)
        | rcd ds => exact q v σ H W' mo c' (mv v _ htr)
        | fdc ds => exact q v σ H W' mo c' (mv v _ htr)
        | lot ds => exact q v σ H W' mo c' (mv v _ htr)
        | tot ds => exact q v σ H W' mo c' (mv v _ htr)⟩
/-- an owned list, told frozen from now on -/
def mfzV (i : Nat) : ME := fun S => match S[i]? with
  | some (some (.d x)) => .ok (.d x) S
  | some (some (.lst ds)) => .ok (.d (.list ds)) (S.set i (some (.d (.list ds))))
  | _ => .stuck
theorem ev_fzV {i : Nat} (h : PE X e (tVar i)) (hi : Free G i) : EV false X G e (mfzV i) :=
  ⟨h.imp fun σ H Q ⟨S, W, c, q⟩ => by
    unfold mfzV at q
    cases hs : S[i]? with
    | none => rw [hs] at q; exact q.elim
    | some o =>
      cases o with
      | none => rw [hs] at q; exact q.elim
      | some t =>
        obtain ⟨v, hv, htr⟩ := c.tr i t hs
        refine ⟨v, hv, ?_⟩
        rw [hs] at q
        cases t with
        | d x => cases htr with | d r => exact q v H W Mono.refl c r
        | lst ds =>
          obtain ⟨W', mo, c', mv⟩ := mv_rest c hi
          have fr := frz_list (mv v _ htr)
          have mo2 : Mono W H (frz0 W') H := mo.trans ext_frz0.mono
          have hlt : i < S.length := (List.getElem?_eq_some_iff.mp hs).1
          have c2 := c'.frz
          refine q v H (frz0 W') mo2 ⟨by rw [List.length_set]; exact c.len, fun j t hj => ?_, c2.mono, c2.args⟩ fr
          by_cases e : i = j
          · subst e
            rw [List.getElem?_set_self hlt] at hj
            cases hj
            exact ⟨v, hv, .d fr⟩
          · rw [List.getElem?_set_ne e] at hj
            exact c2.tr j t (by rw [List.getElem?_set_ne e]; exact hj)
        | dic ds => exact q.elim
        | obj _ ds => exact q.elim
        | rcd ds => exact q.elim
        | fdc ds => exact q.elim
        | lot ds => exact q.elim
        | tot ds => exact q.elim⟩
/-! ### x op= e (ints) -/
def maug (i : Nat) (f : Int → Int → Int) (m : ME) : MSt := fun S => match S[i]? with
  | some (some (.d (.int x))) => (m S).toS fun r S1 => match r with
    | .d (.int y) => .nx (S1.set i (some (.d (.int (f x y)))))
    | _ => .stuck
  | _ => .stuck
theorem st_aug {i : Nat} {f : Int → Int → Int} {st : Stmt} (hp : ∀ te, PE X e te → PS X st (tAug i te (ipI f))) (hi : Free G i) (h : EV b X G e m) : ST X G st (maug i f m) :=
  ⟨(hp _ h.pe).imp fun D σ H ⟨S, W, c, q⟩ => by
    unfold maug at q
    split at q
    · rename_i x hs
      obtain ⟨v, hv, htr⟩ := c.tr i _ hs
      cases htr with
      | d r =>
        cases r
        refine ⟨_, hv, S, W, c, (okR_of_S (ra := relV X.K σ) q).imp fun u H1 ⟨r, S1, W1, c1, rv, q1⟩ => ?_⟩
        split at q1
        · rename_i y
          have rv : Rp _ W1 H1 u (.int y) := rv
          cases rv
          exact ⟨x, y, rfl, rfl, q1 _ H1 W1 Mono.refl (c1.set hi Ext.refl (.d .int))⟩
        · exact q1.elim
    · exact q.elim⟩
/-! ### a, b = x, y; a, b, c = x, y, z with plain names -/
def dat1 (r : RV) : Option PyData := match r with
  | .d x => some x
  | _ => none
def mpar2 (i j : Nat) (ma : ML) : MSt := fun S => (ma S).toS fun rs S1 => match rs with
  | [.d x, .d y] => .nx ((S1.set i (some (.d x))).set j (some (.d y)))
  | _ => .stuck
theorem st_par2 {i j : Nat} {es : List Expr} {ma : ML} {st : Stmt} (hp : ∀ ta, PA X es ta → PS X st (tPar i j ta)) (hi : Free G i) (hj : Free G j) (h : AV b X G es ma) : ST X G st (mpar2 i j ma) :=
  ⟨(hp _ h.pa).imp fun D σ H ⟨S, W, c, q⟩ => ⟨S, W, c, (okR_of_S (ra := relA X.K σ) q).imp fun vs H1 ⟨rs, S1, W1, c1, ra, q1⟩ => by
    split at q1
    · cases ra with
      | d a ra =>
        cases ra with
        | d b ra =>
          cases ra
          exact ⟨_, _, rfl, q1 _ H1 W1 Mono.refl ((c1.set hi Ext.refl (.d a)).set hj Ext.refl (.d b))⟩
    · exact q1.elim⟩⟩
def mpar3 (i j l : Nat) (ma : ML) : MSt := fun S => (ma S).toS fun rs S1 => match rs with
  | [.d x, .d y, .d z] => .nx (((S1.set i (some (.d x))).set j (some (.d y))).set l (some (.d z)))
  | _ => .stuck
theorem st_par3 {i j l : Nat} {es : List Expr} {ma : ML} {st : Stmt} (hp : ∀ ta, PA X es ta → PS X st (tPar3 i j l ta)) (hi : Free G i) (hj : Free G j) (hl : Free G l) (h : AV b X G es ma) : ST X G st (mpar3 i j l ma) :=
  ⟨(hp _ h.pa).imp fun D σ H ⟨S, W, c, q⟩ => ⟨S, W, c, (okR_of_S (ra := relA X.K σ) q).imp fun vs H1 ⟨rs, S1, W1, c1, ra, q1⟩ => by
    split at q1
    · cases ra with
      | d a ra =>
        cases ra with
        | d b ra =>
          cases ra with
          | d d ra =>
            cases ra
            exact ⟨_, _, _, rfl, q1 _ H1 W1 Mono.refl (((c1.set hi Ext.refl (.d a)).set hj Ext.refl (.d b)).set hl Ext.refl (.d d))⟩
    · exact q1.elim⟩⟩
/-- a target (a tuple of names) = e -/
def masgT (f : MG) (m : ME) : MSt := fun S => (m S).toS fun r S1 => match r.dat with
  | some d => match r with
    | .nw _ => .stuck
    | .pk _ (.lst _) => .stuck
    | _ => match f d S1 with
      | some S2 => .nx S2
      | none => .stuck
  | none => .stuck
theorem st_asgT {f : MG} {vs : List Nat} {st : Stmt} (hp : ∀ te g, PE X e te → PG X tg g → PS X st (tAsg te g)) (hg : GV X G tg vs f) (h : EV b X G e m) : ST X G st (masgT f m) :=
  ⟨(hp _ _ h.pe hg.pg).imp fun D σ H ⟨S, W, c, q⟩ => ⟨S, W, c, (okR_of_S (ra := relV X.K σ) q).imp fun v H1 ⟨r, S1, W1, c1, rv, q1⟩ => by
    split at q1
    · rename_i d ed
      have go : Rp X.K W1 H1 v d → (okS X.K G W1 H1 D (match f d S1 with | some S2 => RS.nx S2 | none => .stuck)) → tGV X.K G vs f v σ H1 D.nx := fun rp q1 => by
        split at q1
        · rename_i S2 e2
          exact ⟨S1, W1, d, S2, c1, rp, e2, fun σ' _ c' => q1 σ' H1 W1 Mono.refl c'⟩
        · exact q1.elim
      cases r with
      | d x => cases ed; exact go rv q1
      | nw t => exact q1.elim
      | pk p t =>
        cases t with
        | d x =>
          cases ed
          cases rv.1 with
          | d h => exact go h q1
        | lst x => exact q1.elim
        | dic x => cases ed
        | obj x => cases ed
        | rcd x => cases ed
        | fdc x => cases ed
        | lot x => cases ed
        | tot x => cases ed
    · exact q1.elim⟩⟩
end
end M

set_option maxHeartbeats 2000000
/-! M11: facts of the module, exceptions of its own, defs together. Own work. -/
namespace M
open PySem PySem.Spec PyProof.Rows L2

def Gd (P : Program) (w : World) (K : Frag) (mg : Str → Option Value) (base : Heap) (at_ : Str × Option Str) (ps : List Str) (n k : Nat) (f : MF) : Prop :=
  ∃ fd, Binds K fd ps [] ∧ FnOk P w K mg base (L2.CX P w) k (He.fAd K at_) fd ps (spM K n f) ∧ PySem.W.keepIn K (.ref (He.fAd K at_)) = true
theorem units65 {k : Nat} {A : Around} (hr : Room k A) : A.units + 65 < cLine := by have := hr.un; omega
structure ExcF (K : Frag) (mg : Str → Option Value) (c : Str) : Prop where
  q : PySem.W.excIn K (He.ga K c) He.veBase "ValueError.__new__" = true
  k : PySem.W.keepIn K (.ref (He.ga K c)) = true
  b : PySem.W.subIn K (.ref (He.ga K c)) (.type "BaseException") = some true
  t : PySem.W.typeIn K (.ref (He.ga K c)) = some (.type "type")
  g : mg c = some (.ref (He.ga K c))
section
variable {X : Cx} {G : GC}
theorem pm_own {c m : Str} {j : Nat} {p p2 pos : Pos} (F : ExcF X.K X.mg c) (hg : Gl X c := by rfl) (hdb : (c == ("__debug__" : Str)) = false := by decide) : PMk X (.Call (.Name c p) [.Constant (.str m) j p2] [] pos) (fun _ H Q => Q (.ref (He.ga X.K c)) none H) :=
  pmk_own PySem.F.excBase_ValueError F.q F.g F.k (raises_own F.b F.t) hg hdb
theorem ev_gint {x : Str} {i : Int} {pos : Pos} (hm : ∃ t, X.mg x = some (.int i t)) (hg : Gl X x := by rfl) (hd : (x == ("__debug__" : Str)) = false := by decide) : EV true X G (.Name x pos) (mc (.int i)) := by
  obtain ⟨t, hm⟩ := hm
  exact ev_c (pe_glob (v := .int i) hg hm ⟨t, rfl⟩ hd) fun _ _ => .int
theorem rp_strs {K : Frag} {W : Own} {H : Hp} : ∀ xs : List Str, RpAll K W H (xs.map V.str) (xs.map PyData.str)
  | [] => .nil
  | _ :: r => .cons .str (rp_strs r)
theorem ev_gtup {x : Str} {a : Addr} {xs : List Str} {pos : Pos} (hm : X.mg x = some (.ref a)) (r : KT X.K a (xs.map V.str)) (hg : Gl X x := by rfl) (hd : (x == ("__debug__" : Str)) = false := by decide) : EV true X G (.Name x pos) (mc (.tuple (xs.map PyData.str))) :=
  ev_c (pe_glob (v := .ref a) hg hm rfl hd) fun _ _ => .tup (.inr r) (rp_strs xs)
theorem AV.up {b : Bool} {es : List Expr} {m : ML} (h : AV true X G es m) : AV b X G es m := ⟨⟨fun pos pins s σ H Q I ⟨S, W, c, q⟩ => h.pa.run pos pins s σ H Q I ⟨S, W, c, by
  cases e : m S with
  | ok r S' =>
    rw [e] at q
    exact fun v H' W' s c' r' => q v H' W' (Stp.of s) c' r'
  | exc c' S' => rw [e] at q; exact q
  | stuck => rw [e] at q; exact q⟩⟩, h.len⟩
end
end M

set_option maxHeartbeats 2000000
/-! M12: objects: fields, methods, making. Own work. -/
namespace M
open PySem PySem.Spec PyProof.Rows L2

/-! ### fields -/
def fIx (f : Str) : Nat → List (Str × MV) → Option (Nat × MV)
  | _, [] => none
  | n, (g, t) :: r => if g = f then some (n, t) else fIx f (n + 1) r
def putT (f : Str) (t : MV) : List (Str × MV) → List (Str × MV)
  | [] => [(f, t)]
  | (g, x) :: r => if g = f then (g, t) :: r else (g, x) :: putT f t r
def posF (f : Str) : Nat → List (Str × MV) → Nat
  | n, [] => n
  | n, (g, _) :: r => if g = f then n else posF f (n + 1) r
def fldV (p : Path) (t : MV) : RV := match t with
  | .d x => .d x
  | t => .pk p t
theorem lookup_cons {f g : Str} {v : V} {r : List (Str × V)} : ((g, v) :: r).lookup f = if g = f then some v else r.lookup f := by
  rw [List.lookup_cons]
  by_cases h : g = f
  · subst h; simp
  · have : (f == g) = false := by simpa using fun e => h e.symm
    rw [this, if_neg h]
section
variable {K : Frag} {W : Own} {H : Hp} {p : Path}
theorem TrF.find {f : Str} {k : Nat} {t : MV} : ∀ {fs : List (Str × MV)} {n : Nat} {vs : List (Str × V)}, TrF K W H p n vs fs → fIx f n fs = some (k, t) → ∃ v, vs.lookup f = some v ∧ n ≤ k ∧ vs[k - n]? = some (f, v) ∧ Tr K W H (k :: p) v t
  | [], _, _, _, e => by cases e
  | (g, u) :: fs, n, _, h, e => by
    cases h with
    | @cons _ _ _ v _ vs _ a b =>
      unfold fIx at e
      rw [lookup_cons]
      by_cases hg : g = f
      · rw [if_pos hg] at e ⊢
        cases e
        subst hg
        exact ⟨v, rfl, Nat.le_refl _, by simp, a⟩
      · rw [if_neg hg] at e ⊢
        obtain ⟨w, h1, h2, h3, h4⟩ := TrF.find b e
        refine ⟨w, h1, by omega, ?_, h4⟩
        rw [show k - n = (k - (n + 1)) + 1 by omega]
        simpa using h3
theorem TrF.none {f : Str} : ∀ {fs : List (Str × MV)} {n : Nat} {vs : List (Str × V)}, TrF K W H p n vs fs → fIx f n fs = none → vs.lookup f = none
  | [], _, _, h, e => by cases h; rfl
  | (g, u) :: fs, n, _, h, e => by
    cases h with
    | cons a b =>
      unfold fIx at e
      rw [lookup_cons]
      by_cases hg : g = f
      · rw [if_pos hg] at e; cases e
      · rw [if_neg hg] at e ⊢
        exact TrF.none b e
theorem TrF.put {f : Str} {v : V} {t : MV} : ∀ {fs : List (Str × MV)} {n : Nat} {vs : List (Str × V)}, TrF K W H p n vs fs → Tr K W H (posF f n fs :: p) v t → TrF K W H p n (putF f v vs) (putT f t fs)
  | [], _, _, h, e => by cases h; exact .cons e .nil
  | (g, u) :: fs, n, _, h, e => by
    cases h with
    | cons a b =>
      unfold posF at e
      unfold putF putT
      by_cases hg : g = f
      · rw [if_pos hg] at e
        rw [if_pos hg, if_pos hg]
        exact .cons e b
      · rw [if_neg hg] at e
        rw [if_neg hg, if_neg hg]
        exact .cons a (TrF.put b e)
theorem TrF.len : ∀ {fs : List (Str × MV)} {n : Nat} {vs : List (Str × V)}, TrF K W H p n vs fs → vs.length = fs.length
  | [], _, _, h => by cases h; rfl
  | _ :: fs, _, _, h => by cases h with | cons a b => simp [b.len]
/-- the fields stay where only the object's own place is changed -/
theorem TrF.upd {a : Addr} {o : HO} (ha : W a = .own p) : ∀ {fs : List (Str × MV)} {n : Nat} {vs : List (Str × V)}, TrF K W H p n vs fs → TrF K W (upd H a o) p n vs fs
  | [], _, _, h => by cases h; exact .nil
  | (g, u) :: fs, n, _, h => by
    cases h with
    | cons x y =>
      refine .cons (x.keep (fun b u hb hw => ⟨hw, ?_⟩) fun b u l hb hw => ⟨hw, ?_⟩) (TrF.upd ha y)
      · have : b ≠ a := fun e => by rw [e, ha] at hw; cases hw
        rw [upd_ne this]; exact hb
      · have : b ≠ a := fun e => by
          rw [e, ha] at hw
          have := congrArg List.length (Mk.own.inj hw)
          simp at this
          omega
        rw [upd_ne this]; exact hb
end
section
variable {X : Cx} {G : GC} {b b1 b2 : Bool} {a e o : Expr} {es : List Expr} {m k : ME} {ma : ML} {pos : Pos}
/-- o.f -/
def mfld (c f : Str) (m : ME) : ME := fun S => (m S).bind fun r S1 => match r with
  | .pk p (.obj c' fs) => if c' = c then (match fIx f 0 fs with
    | some (k, t) => .ok (fldV (k :: p) t) S1
    | none => .stuck) else .stuck
  | _ => .stuck
theorem ev_fld {c f : Str} (cl : Cls X.K (He.ga X.K c)) (na : NoAttr X.K (He.ga X.K c) f) (h : EV b X G e m) (hb : attributeBase e f X.env (eval e X.env) = eval e X.env := by rfl) : EV b X G (.Attribute e f pos) (mfld c f m) :=
  ⟨(pe_fld h.pe hb).imp fun σ H Q ⟨S, W, cc, q⟩ => ⟨S, W, cc, (okR.one q).imp fun v H1 ⟨r, S1, W1, st, c1, rv, q1⟩ => by
    split at q1
    · rename_i p c' fs
      split at q1
      · rename_i ec
        subst ec
        split at q1
        · rename_i k t ek
          obtain ⟨tr, nv⟩ := rv
          obtain ⟨q0, i0, ep⟩ := nv.last
          cases tr with
          | @obj _ a dx _ vs _ w wd e1 ed tf =>
            obtain ⟨u, h1, h2, h3, h4⟩ := tf.find ek
            refine ⟨a, _, dx, vs, u, rfl, e1, cl, na, h1, ?_⟩
            refine q1 u H1 W1 Stp.refl c1 ?_
            cases t with
            | d x => cases h4 with | d h => exact h
            | lst x => refine ⟨h4, ?_⟩; subst ep; cases q0 <;> exact ⟨a, f, nv, .inl ⟨_, dx, vs, e1, by simpa using h3⟩⟩
            | dic x => refine ⟨h4, ?_⟩; subst ep; cases q0 <;> exact ⟨a, f, nv, .inl ⟨_, dx, vs, e1, by simpa using h3⟩⟩
            | obj x y => refine ⟨h4, ?_⟩; subst ep; cases q0 <;> exact ⟨a, f, nv, .inl ⟨_, dx, vs, e1, by simpa using h3⟩⟩
            | rcd x => refine ⟨h4, ?_⟩; subst ep; cases q0 <;> exact ⟨a, f, nv, .inl ⟨_, dx, vs, e1, by simpa using h3⟩⟩
            | fdc x => refine ⟨h4, ?_⟩; subst ep; cases q0 <;> exact ⟨a, f, nv, .inl ⟨_, dx, vs, e1, by simpa using h3⟩⟩
            | lot x => refine ⟨h4, ?_⟩; subst ep; cases q0 <;> exact ⟨a, f, nv, .inl ⟨_, dx, vs, e1, by simpa using h3⟩⟩
            | tot x => refine ⟨h4, ?_⟩; subst ep; cases q0 <;> exact ⟨a, f, nv, .inl ⟨_, dx, vs, e1, by simpa using h3⟩⟩
        · exact q1.elim
      · exact q1.elim
    · exact q1.elim⟩⟩
/-- an owned object's own place is changed -/
theorem Conc.mut {K : Frag} {S : MS} {σ : L2.St} {H : Hp} {W : Own} {p : Path} {a : Addr} {o : HO} {t : MV} (c : Conc K G S σ H W) (nv : Nav H σ p (.ref a)) (w : W a = .own p) (ht : Tr K W (upd H a o) p (.ref a) t) :
    Mono W H W (upd H a o) ∧ Conc K G (updS p t S) σ (upd H a o) W := by
  have mo : Mono W H W (upd H a o) := fun b u hb hw => by
    have : b ≠ a := fun e => by rw [e, w] at hw; rcases hw with hw | hw <;> cases hw
    exact ⟨rfl, by rw [upd_ne this]; exact hb⟩
  refine ⟨mo, c.rep mo nv (fun b u q hb hw hq _ => ⟨hw, ?_⟩) ht⟩
  have : b ≠ a := fun e => by
    rw [e, w] at hw
    have := Mk.own.inj hw
    exact hq ⟨[], by rw [← this]; rfl⟩
  rw [upd_ne this]; exact hb
/-- how a value is stored: kept as its own, or told frozen -/
def RV.st (own : Bool) (r : RV) : Option MV := match own with
  | true => r.keep
  | false => r.keepF
theorem st_ok {K : Frag} {σ : L2.St} {W : Own} {H : Hp} {v : V} {own : Bool} {r : RV} {t : MV} (p : Path) (h : RVal K σ W H v r) (e : r.st own = some t) : ∃ W', Ext W H W' H ∧ Tr K W' H p v t := by
  cases own with
  | true => exact ⟨_, ext_mvW, keep_ok p h e⟩
  | false => exact keepF_ok p h e
/-- x.f = e, x a name -/
def msfld (own : Bool) (c f : Str) (i : Nat) (m : ME) : MSt := fun S => (m S).toS fun r S1 => match r.st own, S1[i]? with
  | some t, some (some (.obj c' fs)) => if c' = c ∧ fs.length < 1000 then .nx (updS [i + 1] (.obj c' (putT f t fs)) S1) else .stuck
  | _, _ => .stuck
theorem st_fld {own : Bool} {c f : Str} {i : Nat} {pos' : Pos} (cl : Cls X.K (He.ga X.K c)) (na : NoAttr X.K (He.ga X.K c) f) (ho : PE X o (tVar i)) (h : EV b X G e m) (hs : swapsWith e (some (.Attribute o f pos')) pos.line X.env = pure false := by rfl) :
    ST X G (.Assign [.Attribute o f pos'] e pos) (msfld own c f i m) :=
  ⟨(ps_fld ho h.pe hs).imp fun D σ H ⟨S, W, cc, q⟩ => ⟨S, W, cc, (okR_of_S (ra := relV X.K σ) q).imp fun v H1 ⟨r, S1, W1, c1, rv, q1⟩ => by
    split at q1
    · rename_i t c' fs et es
      split at q1
      · rename_i hc
        obtain ⟨hc, hl⟩ := hc
        subst hc
        obtain ⟨u, hu, tr⟩ := c1.tr i _ es
        refine ⟨u, hu, ?_⟩
        obtain ⟨W2, ex, tv⟩ := st_ok [posF f 0 fs, i + 1] rv et
        have c2 := c1.ext ex
        have tr2 := Tr.ext (q := []) ex tr
        cases tr2 with
        | @obj _ a dx _ vs _ w wd e1 ed tf =>
          refine ⟨a, _, dx, vs, rfl, e1, cl, na, by rw [tf.len]; exact hl, ?_⟩
          have nda : dx ≠ a := fun e => by rw [e, e1] at ed; cases ed
          have tv' : Tr X.K W2 (upd H1 a (.ins (He.ga X.K c') dx (putF f v vs))) [posF f 0 fs, i + 1] v t := tv.keep (fun b u hb hw => ⟨hw, by
            have : b ≠ a := fun e => by rw [e, w] at hw; cases hw
            rw [upd_ne this]; exact hb⟩) fun b u l hb hw => ⟨hw, by
            have : b ≠ a := fun e => by
              rw [e, w] at hw
              have := congrArg List.length (Mk.own.inj hw)
              simp at this
            rw [upd_ne this]; exact hb⟩
          have ht : Tr X.K W2 (upd H1 a (.ins (He.ga X.K c') dx (putF f v vs))) [i + 1] (.ref a) (.obj c' (putT f t fs)) :=
            .obj w wd upd_same (by rw [upd_ne nda]; exact ed) ((tf.upd w).put tv')
          obtain ⟨mo, c3⟩ := c2.mut (p := [i + 1]) (a := a) ⟨i, rfl, hu⟩ w ht
          exact q1 σ _ W2 (ex.mono.trans mo) c3
      · exact q1.elim
    · exact q1.elim⟩⟩
/-- x.f += e (ints) -/
def mafld (c f : Str) (i : Nat) (g : Int → Int → Int) (m : ME) : MSt := fun S => match S[i]? with
  | some (some (.obj c' fs)) => if c' = c ∧ fs.length < 1000 then (match fIx f 0 fs with
    | some (_, .d (.int x)) => (m S).toS fun r S1 => match r, S1[i]? with
      | .d (.int y), some (some (.obj c'' fs')) => if c'' = c ∧ fs'.length < 1000 then .nx (updS [i + 1] (.obj c'' (putT f (.d (.int (g x y))) fs')) S1) else .stuck
      | _, _ => .stuck
    | _ => .stuck) else .stuck
  | _ => .stuck
theorem st_afld {c f : Str} {i : Nat} {tpos : Pos} {op : Operator} {g : Int → Int → Int} {rd : V → V → Hp → VK → Prop} (hop : InOp X op rd) (hrd : ∀ (x y : Int) H (Q : VK), Q (.int (g x y)) H → rd (.int x) (.int y) H Q)
    (cl : Cls X.K (He.ga X.K c)) (na : NoAttr X.K (He.ga X.K c) f) (ho : PE X o (tVar i)) (h : EV b X G e m) : ST X G (.AugAssign (.Attribute o f tpos) op e pos) (mafld c f i g m) :=
  ⟨(ps_fldaug ho h.pe hop).imp fun D σ H ⟨S, W, cc, q⟩ => by
    unfold mafld at q
    split at q
    · rename_i c' fs es0
      split at q
      · rename_i hc
        obtain ⟨hc, hl⟩ := hc
        subst hc
        split at q
        · rename_i k0 x ek
          obtain ⟨u, hu, tr⟩ := cc.tr i _ es0
          refine ⟨u, hu, ?_⟩
          cases tr with
          | @obj _ a dx _ vs _ w wd e1 ed tf =>
            obtain ⟨v0, h1, h2, h3, h4⟩ := tf.find ek
            cases h4 with
            | d h4 =>
              cases h4
              refine ⟨a, _, dx, vs, .int x, rfl, e1, cl, na, h1, S, W, cc, (okR_of_S (ra := relV X.K σ) q).imp fun v H1 ⟨r, S1, W1, c1, rv, q1⟩ => ?_⟩
              split at q1
              · rename_i y c'' fs' es1
                split at q1
                · rename_i hc
                  obtain ⟨hc, hl'⟩ := hc
                  subst hc
                  have rv : Rp X.K W1 H1 v (.int y) := rv
                  cases rv
                  obtain ⟨u', hu', tr'⟩ := c1.tr i _ es1
                  rw [hu] at hu'
                  cases hu'
                  cases tr' with
                  | @obj _ _ dx' _ vs' _ w' wd' e1' ed' tf' =>
                    refine hrd _ _ _ _ ⟨dx', vs', e1', by rw [tf'.len]; exact hl', ?_⟩
                    have nda : dx' ≠ a := fun e => by rw [e, e1'] at ed'; cases ed'
                    have ht : Tr X.K W1 (upd H1 a (.ins (He.ga X.K c'') dx' (putF f (.int (g x y)) vs'))) [i + 1] (.ref a) (.obj c'' (putT f (.d (.int (g x y))) fs')) :=
                      .obj w' wd' upd_same (by rw [upd_ne nda]; exact ed') ((tf'.upd w').put (.d .int))
                    obtain ⟨mo, c3⟩ := c1.mut (p := [i + 1]) (a := a) ⟨i, rfl, hu⟩ w' ht
                    exact q1 σ _ W1 mo c3
                · exact q1.elim
              · exact q1.elim
        · exact q.elim
      · exact q.elim
    · exact q.elim⟩
theorem rd_add (x y : Int) (H : Hp) (Q : VK) (q : Q (.int (x + y)) H) : rAdd (.int x) (.int y) H Q := ⟨x, y, rfl, rfl, q⟩

/-! ### methods of one's own, of a named object -/
section
variable {C f : Addr} {nm : Str} {fd : FuncData} {ps : List Str} {sp : Sp} {kk n : Nat} {apos : Pos} {ta : TE} {t : TA} {pl : Sem Bool} {g : MF}
def tMethE (C : Addr) (m : Str) (sp : Sp) (E : L2.St → XK) (ta : TE) (t : TA) : TE := fun σ H Q => ta σ H fun x H1 => ∃ a dx fs, x = .ref a ∧ H1 a = some (.ins C dx fs) ∧ fs.lookup m = none ∧ t σ H1 fun vs H2 => sp (x :: vs) H2 Q (E σ)
theorem pe_methE {E : L2.St → XK} {CX : CXT} (he : PE X o ta) (c : Cls X.K C) (hm : Meth X.K C nm f) (F : FnOk X.prog X.w X.K X.mg X.base CX kk f fd ps sp) (hr : Room kk X.A) (hb : Binds X.K fd ps []) (hx : ∀ σ, PassesAt CX X σ (E σ)) (ha : PA X (e :: es) t)
    (hst : starEach (e :: es) X.env = (false, eval e X.env) :: starEach es X.env) (hpl : (backTo pos (starEach es X.env)).any (·.1) = false)
    (ht : eval (.Call (.Attribute o nm apos) (e :: es) [] pos) X.env = (do
      let ov ← eval o X.env
      standAt apos.atName
      let (f, first) ← holding [ov] (getMethod ov nm pl)
      callWith pos f first (backTo pos (starEach (e :: es) X.env)) (backToKw pos (keywordEach [] X.env)))) :
    PE X (.Call (.Attribute o nm apos) (e :: es) [] pos) (tMethE C nm sp E ta t) := by
  refine ⟨fun pins s σ H Q I h => ?_⟩
  refine PySem.W.methodCall_KW (pl := pl) (thn (he.run pins s σ H _ I h) fun u s1 ⟨x, H1, I1, rx, a, dx, fs, ex, ea, l, q⟩ => ?_) ht
  subst ex
  obtain rfl : u = Value.ref a := rx
  refine getmeth_ok I1 ea c hm l ?_
  refine PySem.W.callWith_K (first := [.ref a]) (h₀ := X.base) I.ok.mod.kin hm.kp (thn (ha.run pos pins s1 σ H1 _ I1 q) fun us s2 ⟨vs, H2, I2, r, q2⟩ => ⟨I2.kIn, ?_⟩) hst hpl
  exact run_fnS (us := .ref a :: us) (vs := .ref a :: vs) F hr hb (hx σ) I2 (.cons rfl r) q2
theorem pe_methE0 {E : L2.St → XK} {CX : CXT} (he : PE X o ta) (c : Cls X.K C) (hm : Meth X.K C nm f) (F : FnOk X.prog X.w X.K X.mg X.base CX kk f fd ps sp) (hr : Room kk X.A) (hb : Binds X.K fd ps []) (hx : ∀ σ, PassesAt CX X σ (E σ))
    (ht : eval (.Call (.Attribute o nm apos) [] [] pos) X.env = (do
      let ov ← eval o X.env
      standAt apos.atName
      let (f, first) ← holding [ov] (getMethod ov nm pl)
      callWith pos f first (backTo pos (starEach [] X.env)) (backToKw pos (keywordEach [] X.env)))) :
    PE X (.Call (.Attribute o nm apos) [] [] pos) (tMethE C nm sp E ta tNil) := by
  refine ⟨fun pins s σ H Q I h => ?_⟩
  refine PySem.W.methodCall_KW (pl := pl) (thn (he.run pins s σ H _ I h) fun u s1 ⟨x, H1, I1, rx, a, dx, fs, ex, ea, l, q⟩ => ?_) ht
  subst ex
  obtain rfl : u = Value.ref a := rx
  refine getmeth_ok I1 ea c hm l ?_
  exact PySem.W.callWith_K0 (first := [.ref a]) I1.kIn hm.kp (run_fnS (us := [.ref a]) (vs := [.ref a]) F hr hb (hx σ) I1 (.cons rfl .nil) q)
/-- is an object of c that has no field of the method's name -/
def isObj (c nm : Str) (o : Option (Option MV)) : Bool := match o with
  | some (some (.obj c' fs)) => decide (c' = c) && (fIx nm 0 fs).isNone
  | _ => false
def mmeth (c nm : Str) (g : MF) (i : Nat) (ma : ML) : ME := fun S => if isObj c nm S[i]? = true then (ma S).bind fun rs S1 => match S1[i]? with
    | some (some (.obj c' fs)) => callR false g (.pk [i + 1] (.obj c' fs) :: rs) S1
    | _ => .stuck
  else .stuck
theorem isObj_ok {c : Str} {i : Nat} {S : MS} {σ : L2.St} {H : Hp} {W : Own} (cc : Conc X.K G S σ H W) (h : isObj c nm S[i]? = true) : ∃ a dx vs, σ[i]? = some (some (.ref a)) ∧ H a = some (.ins (He.ga X.K c) dx vs) ∧ vs.lookup nm = none := by
  unfold isObj at h
  split at h
  · rename_i c' fs es
    rw [Bool.and_eq_true, decide_eq_true_eq] at h
    obtain ⟨h1, h2⟩ := h
    subst h1
    obtain ⟨u, hu, tr⟩ := cc.tr i _ es
    cases tr with
    | obj w wd e1 ed tf => exact ⟨_, _, _, hu, e1, tf.none (by simpa using h2)⟩
  · cases h
theorem run_meth {c : Str} {i : Nat} (F : FnOk X.prog X.w X.K X.mg X.base (L2.CX X.prog X.w) kk f fd ps (spM X.K n g)) {b : Bool} (ha : AV b X G es ma) (hn : es.length + 1 = n) {σ : L2.St} {H : Hp} {Q : VK}
    (h : tEV X.K G false (mmeth c nm g i ma) σ H Q) : tMethE (He.ga X.K c) nm (spM X.K n g) (WE G.xw) (tVar i) (tAV X.K G b ma) σ H Q := by
  obtain ⟨S, W, cc, q⟩ := h
  unfold mmeth at q
  split at q
  · rename_i hobj
    obtain ⟨a, dx, vs, hu, e1, hl⟩ := isObj_ok cc hobj
    refine ⟨_, hu, a, dx, vs, rfl, e1, hl, S, W, cc, ?_⟩
    have h2 := okR.bind (ra := relA X.K σ) (b1 := b) (b2 := false) (by rw [Bool.and_false]; exact q)
    cases em : ma S with
    | ok rs S1 =>
      rw [em] at h2
      intro us H1 W1 st c1 rv
      obtain ⟨rs', S1', W1', st', c1', rv', q1⟩ := h2 us H1 W1 st c1 rv
      have el : rs'.length = es.length := by rw [← rv'.length, rv.length, ha.len _ _ _ em]
      split at q1
      · rename_i c' fs es1
        obtain ⟨u', hu', tr'⟩ := c1'.tr i _ es1
        rw [hu] at hu'
        cases hu'
        exact call_ok c1' (.pk tr' ⟨i, rfl, hu⟩ rv') (by simp [el, hn]) q1
      · exact q1.elim
    | exc c S1 => rw [em] at h2; exact h2
    | stuck => rw [em] at h2; exact h2
  · exact q.elim
theorem ev_meth {c : Str} {i : Nat} {b : Bool} (ho : PE X o (tVar i)) (cl : Cls X.K (He.ga X.K c)) (hm : Meth X.K (He.ga X.K c) nm f) (F : FnOk X.prog X.w X.K X.mg X.base (L2.CX X.prog X.w) kk f fd ps (spM X.K n g)) (hr : Room kk X.A) (hb : Binds X.K fd ps []) (tk : Takes X G.xw)
    (ha : AV b X G (e :: es) ma) (hn : (e :: es).length + 1 = n := by rfl) (hst : starEach (e :: es) X.env = (false, eval e X.env) :: starEach es X.env := by rfl) (hpl : (backTo pos (starEach es X.env)).any (·.1) = false := by rfl)
    (ht : eval (.Call (.Attribute o nm apos) (e :: es) [] pos) X.env = (do
      let ov ← eval o X.env
      standAt apos.atName
      let (f, first) ← holding [ov] (getMethod ov nm pl)
      callWith pos f first (backTo pos (starEach (e :: es) X.env)) (backToKw pos (keywordEach [] X.env))) := by rfl) :
    EV false X G (.Call (.Attribute o nm apos) (e :: es) [] pos) (mmeth c nm g i ma) :=
  ⟨(pe_methE ho cl hm F hr hb (fun σ => passAt tk σ) ha.pa hst hpl ht).imp fun σ H Q q => run_meth F ha hn q⟩
theorem ev_meth0 {c : Str} {i : Nat} (ho : PE X o (tVar i)) (cl : Cls X.K (He.ga X.K c)) (hm : Meth X.K (He.ga X.K c) nm f) (F : FnOk X.prog X.w X.K X.mg X.base (L2.CX X.prog X.w) kk f fd ps (spM X.K n g)) (hr : Room kk X.A) (hb : Binds X.K fd ps []) (tk : Takes X G.xw)
    (hn : 1 = n := by rfl)
    (ht : eval (.Call (.Attribute o nm apos) [] [] pos) X.env = (do
      let ov ← eval o X.env
      standAt apos.atName
      let (f, first) ← holding [ov] (getMethod ov nm pl)
      callWith pos f first (backTo pos (starEach [] X.env)) (backToKw pos (keywordEach [] X.env))) := by rfl) :
    EV false X G (.Call (.Attribute o nm apos) [] [] pos) (mmeth c nm g i mnilA) :=
  ⟨(pe_methE0 ho cl hm F hr hb (fun σ => passAt tk σ) ht).imp fun σ H Q q => by
    obtain ⟨x, hx, a, dx, vs, ex, e1, hl, q2⟩ := run_meth F (av_nil (X := X) (G := G)) hn q
    refine ⟨x, hx, a, dx, vs, ex, e1, hl, ?_⟩
    obtain ⟨S, W, cc, q3⟩ := q2
    exact q3 [] H W Stp.refl cc .nil⟩
end
/-! ### C(e, ..) -/
section
variable {c x : Str} {f : Addr} {fd : FuncData} {ps : List Str} {kk n : Nat} {p : Pos} {g : MF}
def tMakeE (C : Addr) (sp : Sp) (E : L2.St → XK) (t : TA) : TE := fun σ H Q => t σ H fun vs H1 => ∀ x dx, H1 x = none → H1 dx = none → dx ≠ x →
  sp (.ref x :: vs) (upd (upd H1 dx (.own x)) x (.ins C dx [])) (fun v H2 => v = .non ∧ Q (.ref x) H2) (E σ)
theorem run_makeE {C : Addr} {sp : Sp} {CX : CXT} {E : XK} {pins : List (Addr × Obj)} {σ : L2.St} {H : Hp} {s : Shared} {Q : VK} {us : List Value} {vs : List V} (M : L2.Mk X.K C f) (F : FnOk X.prog X.w X.K X.mg X.base CX kk f fd ps sp) (hr : Room (kk + 1) X.A) (hb : Binds X.K fd ps [])
    (hx : PassesAt CX X σ E) (I : Inv X pins σ H s) (r : Vals vs us)
    (h : ∀ x dx, H x = none → H dx = none → dx ≠ x → sp (.ref x :: vs) (upd (upd H dx (.own x)) x (.ins C dx [])) (fun v H2 => v = .non ∧ Q (.ref x) H2) E) :
    wpAny (model X.prog X.w) X.A (call (.ref C) us) (EP X pins σ Q) X.xe s := by
  have hq := h (s.heap.objs.size + 1) s.heap.objs.size (I.hok.fresh (Nat.le_succ _)) (I.hok.fresh (Nat.le_refl _)) (Nat.ne_of_lt (Nat.lt_succ_self _))
  have I2 := Inv.made (C := C) I
  have r2 : Vals (V.ref (s.heap.objs.size + 1) :: vs) (Value.ref (s.heap.objs.size + 1) :: us) := .cons rfl r
  have hl : (Value.ref (s.heap.objs.size + 1) :: us).length = ps.length := by
    have e := r2.length
    rw [F.len _ _ _ _ hq] at e
    exact e.symm
  have hbb := hb _ (Value.ref (s.heap.objs.size + 1) :: us) I2.kIn (by rw [List.append_nil]; exact hl)
  rw [List.append_nil] at hbb
  refine wpAny_call (make_map (f := f) I.kIn M.makes M.init (beq_iff_eq.mp M.fn) (codeAny_mono (F.run _ X.stack _ _ ⟨Value.ref (s.heap.objs.size + 1) :: us, []⟩ (Value.ref (s.heap.objs.size + 1) :: us) _ _ E (hr.make C us [])
    (I2.env0.make C us []) hbb r2 hq) fun r s' hq' => ?_))
  cases r with
  | error e => exact hx pins _ _ e s' I2 hq'
  | ok fl =>
    cases fl with
    | ret u =>
      obtain ⟨v, H', I3, rv, ev, q3⟩ := I2.after hq'
      subst ev
      exact ⟨rv, ⟨V.ref (s.heap.objs.size + 1), H', I3, rfl, q3⟩⟩
    | next => exact False.elim hq'
    | brk => exact False.elim hq'
    | cont => exact False.elim hq'
theorem pe_makeE {C : Addr} {sp : Sp} {CX : CXT} {E : L2.St → XK} {t : TA} (M : L2.Mk X.K C f) (F : FnOk X.prog X.w X.K X.mg X.base CX kk f fd ps sp) (hr : Room (kk + 1) X.A) (hg : Gl X x) (hm : X.mg x = some (.ref C)) (hb : Binds X.K fd ps []) (hx : ∀ σ, PassesAt CX X σ (E σ))
    (ha : PA X (e :: es) t) (hdb : (x == ("__debug__" : Str)) = false) (he : starEach (e :: es) X.env = (false, eval e X.env) :: starEach es X.env) (hpl : (backTo pos (starEach es X.env)).any (·.1) = false) :
    PE X (.Call (.Name x p) (e :: es) [] pos) (tMakeE C sp E t) := by
  refine ⟨fun pins s σ H Q I h => ?_⟩
  refine wpAny_Call_Name_kw (ld_glob I hg hm ?_ hdb)
  refine PySem.W.callWith_K (h₀ := X.base) I.ok.mod.kin M.kp (thn (ha.run pos pins s σ H _ I h) fun us s1 ⟨vs, H1, I1, r, q⟩ => ⟨I1.kIn, ?_⟩) he hpl
  exact run_makeE M F hr hb (hx σ) I1 r q
/-- what __init__ leaves of a new object -/
def makeR (c : Str) (g : MF) (rs : List RV) (S : MS) : R RV := match pks rs 0 with
  | [] => match g (.obj c [] :: rs.map RV.tree) with
    | .ok (.d .none) (t :: _) => .ok (.nw t) S
    | .exc c _ => .exc c S
    | _ => .stuck
  | _ => .stuck
def mmake (c : Str) (g : MF) (ma : ML) : ME := fun S => (ma S).bind fun rs S1 => makeR c g rs S1
theorem make_ok {S : MS} {σ : L2.St} {H : Hp} {W : Own} {Q : VK} {rs : List RV} {vs : List V} (c1 : Conc X.K G S σ H W) (ra : RAll X.K σ W H vs rs) (hl : rs.length + 1 = n) (h : okR (relV X.K σ) X.K G true W H σ Q (makeR c g rs S)) :
    ∀ x dx, H x = none → H dx = none → dx ≠ x → spM X.K n g (.ref x :: vs) (upd (upd H dx (.own x)) x (.ins (He.ga X.K c) dx [])) (fun v H2 => v = .non ∧ Q (.ref x) H2) (WE G.xw σ) := by
  intro x dx nx ndx ne
  unfold makeR at h
  split at h
  · rename_i hp
    let H1 : Hp := upd (upd H dx (.own x)) x (.ins (He.ga X.K c) dx [])
    let W0 : Own := setW (setW W dx (.own [1])) x (.own [1])
    have ext : Ext W H (setW (setW W dx .out) x .out) H1 := fun a o ha => by
      have n1 : a ≠ x := ne_of_none ha nx
      have n2 : a ≠ dx := ne_of_none ha ndx
      exact ⟨by show upd _ _ _ _ = _; rw [upd_ne n1, upd_ne n2]; exact ha, fun _ => by rw [setW_ne n1, setW_ne n2]⟩
    -- the callee's marks: ours told as a callee's, the new ones lent as its first argument
    let Wc : Own := setW (setW (downW a0 W) dx (.own [1])) x (.own [1])
    have wx : Wc x = .own [1] := setW_same
    have wdx : Wc dx = .own [1] := by show setW _ _ _ _ = _; rw [setW_ne ne]; exact setW_same
    have wo : ∀ a, a ≠ x → a ≠ dx → Wc a = downW a0 W a := fun a h1 h2 => by show setW _ _ _ _ = _; rw [setW_ne h1, setW_ne h2]
    have fz : Fz W H Wc H1 := fun a o ha hw => by
      have n1 : a ≠ x := ne_of_none ha nx
      have n2 : a ≠ dx := ne_of_none ha ndx
      exact ⟨by rw [wo a n1 n2]; exact down_frz hw, (ext a o ha).1⟩
    have targs : TrA X.K Wc H1 1 vs (rs.map RV.tree) := by
      have h0 := TrA.of (K := X.K) (σ := σ) (W := W) (H := H) (α := a0) (rs := rs) (n := 1) (vs := vs) (fun j p hj => by
        have : pks rs 1 = [] := by
          have aux : ∀ (rs : List RV) (n m : Nat), pks rs n = [] → pks rs m = [] := by
            intro rs
            induction rs with
            | nil => intros; rfl
            | cons r t ih =>
              intro n m h
              cases r with
              | d x => exact ih _ _ h
              | nw x => exact ih _ _ h
              | pk p x => cases h
          exact aux rs 0 1 hp
        rw [this] at hj
        cases hj) ra
      have keepA : ∀ (ts : List MV) (n : Nat) (vs : List V), TrA X.K (downW a0 W) H n vs ts → TrA X.K Wc H1 n vs ts := by
        intro ts
        induction ts with
        | nil => intro n vs h; cases h; exact .nil
        | cons t r ih =>
          intro n vs h
          cases h with
          | cons a b =>
            refine .cons (a.keep (fun y o hy hw => ?_) fun y o l hy hw => ?_) (ih _ _ b)
            · have n1 : y ≠ x := ne_of_none hy nx
              have n2 : y ≠ dx := ne_of_none hy ndx
              exact ⟨by rw [wo y n1 n2]; exact hw, (ext y o hy).1⟩
            · have n1 : y ≠ x := ne_of_none hy nx
              have n2 : y ≠ dx := ne_of_none hy ndx
              exact ⟨by rw [wo y n1 n2]; exact hw, (ext y o hy).1⟩
      exact keepA _ _ _ h0
    have tx : Tr X.K Wc H1 [1] (.ref x) (.obj c []) := .obj (vs := []) wx wdx upd_same (by show upd _ _ _ _ = _; rw [upd_ne ne]; exact upd_same) .nil
    refine ⟨by simp [ra.length, hl], Wc, .obj c [] :: rs.map RV.tree, .cons tx targs, ?_⟩
    -- behind the call: what is not the new object's stays
    have down : ∀ {H' : Hp} {W' : Own}, Mono Wc H1 W' H' → Mono (downW a0 W) H W' H' := fun mo a o ha hw => by
      have n1 : a ≠ x := ne_of_none ha nx
      have n2 : a ≠ dx := ne_of_none ha ndx
      have := mo a o (ext a o ha).1 (by rw [wo a n1 n2]; exact hw)
      rw [wo a n1 n2] at this
      exact this
    split at h
    · rename_i t ts eg
      rw [eg]
      intro v H' W' mo ta rn
      have rn : Rp X.K W' H' v .none := rn
      cases rn
      refine ⟨rfl, ?_⟩
      have mo2 := down mo
      cases ta with
      | cons a _ =>
        have ex := up_ext (α := a0) (β := b1 0 [0]) mo2 (fun _ => rfl)
        refine h (.ref x) H' _ ex (c1.ext ex) ?_
        exact Tr.ren (up_fz mo2) (q := [1]) (p := [0]) (fun y o l hy hw => ⟨up_own mo2 hw b1_j, hy⟩) t [] a
    · rename_i c' ts eg
      rw [eg]
      intro H' W' mo ta
      have mo2 := down mo
      have ex := up_ext (α := a0) (β := b0) mo2 (fun _ => rfl)
      exact h H' _ ex.mono (c1.ext ex)
    · exact h.elim
  · exact h.elim
theorem ev_make (mkf : L2.Mk X.K (He.ga X.K c) f) (F : FnOk X.prog X.w X.K X.mg X.base (L2.CX X.prog X.w) kk f fd ps (spM X.K n g)) (hr : Room (kk + 1) X.A) (hm : X.mg c = some (.ref (He.ga X.K c))) (hb : Binds X.K fd ps []) (tk : Takes X G.xw)
    (ha : AV b X G (e :: es) ma) (hg : Gl X c := by rfl) (hn : (e :: es).length + 1 = n := by rfl) (hdb : (c == ("__debug__" : Str)) = false := by decide) (he : starEach (e :: es) X.env = (false, eval e X.env) :: starEach es X.env := by rfl) (hpl : (backTo pos (starEach es X.env)).any (·.1) = false := by rfl) :
    EV b X G (.Call (.Name c p) (e :: es) [] pos) (mmake c g ma) :=
  ⟨(pe_makeE mkf F hr hg hm hb (fun σ => passAt tk σ) ha.pa hdb he hpl).imp fun σ H Q ⟨S, W, cc, q⟩ => ⟨S, W, cc, by
    have h2 := okR.bind (ra := relA X.K σ) (b1 := b) (b2 := true) (by rw [Bool.and_true]; exact q)
    cases em : ma S with
    | ok rs S1 =>
      rw [em] at h2
      intro v H1 W1 st c1 rv
      obtain ⟨rs', S1', W1', st', c1', rv', q1⟩ := h2 v H1 W1 st c1 rv
      refine make_ok c1' rv' ?_ q1
      rw [← rv'.length, rv.length, ha.len _ _ _ em]
      exact hn
    | exc c S1 => rw [em] at h2; exact h2
    | stuck => rw [em] at h2; exact h2⟩⟩
end
end
end M

set_option maxHeartbeats 2000000
/-! M13: methods of lists, dicts. Own work. -/
namespace M
open PySem PySem.Spec PyProof.Rows L2

/-! ### lists changed by their methods -/
/-- what a method with one argument does of a list: the list behind it, its answer -/
def LM1 (K : Frag) (r : V → List V → Hp → VK → Prop) (g : List PyData → PyData → Option (List PyData × PyData)) : Prop := ∀ (W : Own) (H : Hp) (a : Addr) (xs : List V) (ds : List PyData) (u : V) (y : PyData) (ds' : List PyData) (z : PyData) (Q : VK),
  H a = some (.lst xs) → RpAll K W H xs ds → Rp K W H u y → g ds y = some (ds', z) → (∀ v xs', RpAll K W H xs' ds' → Rp K W H v z → Q v (upd H a (.lst xs'))) → r (.ref a) [u] H Q
def LM0 (K : Frag) (r : V → List V → Hp → VK → Prop) (g : List PyData → Option (List PyData × PyData)) : Prop := ∀ (W : Own) (H : Hp) (a : Addr) (xs : List V) (ds : List PyData) (ds' : List PyData) (z : PyData) (Q : VK),
  H a = some (.lst xs) → RpAll K W H xs ds → g ds = some (ds', z) → (∀ v xs', RpAll K W H xs' ds' → Rp K W H v z → Q v (upd H a (.lst xs'))) → r (.ref a) [] H Q
section
variable {X : Cx} {G : GC} {b : Bool} {o e : Expr} {m k : ME} {T id : String} {name : Str} {apos cpos : Pos} {r : V → List V → Hp → VK → Prop}
def putL (p : Path) (o : Option (List PyData × PyData)) (S : MS) : R RV := match o with
  | some (ds, z) => .ok (.d z) (updS p (.lst ds) S)
  | none => .stuck
/-- o.m(e), both inert -/
def mlmI (g : List PyData → PyData → Option (List PyData × PyData)) (mo me : ME) : ME := fun S => (mo S).bind fun x S1 => match x with
  | .pk p (.lst ds) => (me S1).bind fun y S2 => match stab false y with
    | some (.d y) => putL p (g ds y) S2
    | _ => .stuck
  | _ => .stuck
/-- x.m(e), x a name -/
def mlmV (i : Nat) (g : List PyData → PyData → Option (List PyData × PyData)) (me : ME) : ME := fun S => match S[i]? with
  | some (some (.lst _)) => (me S).bind fun y S2 => match stab false y, S2[i]? with
    | some (.d y), some (some (.lst ds)) => putL [i + 1] (g ds y) S2
    | _, _ => .stuck
  | _ => .stuck
def mlm0 (g : List PyData → Option (List PyData × PyData)) (mo : ME) : ME := fun S => (mo S).bind fun x S1 => match x with
  | .pk p (.lst ds) => putL p (g ds) S1
  | _ => .stuck
theorem put_ok {K : Frag} {S : MS} {σ : L2.St} {H : Hp} {W : Own} {p : Path} {a : Addr} {Q : VK} {ds' : List PyData} {z : PyData} {v : V} {xs' : List V} (c : Conc K G S σ H W) (nv : Nav H σ p (.ref a)) (w : W a = .own p)
    (q : okR (relV K σ) K G false W H σ Q (putL p (some (ds', z)) S)) (rx : RpAll K W H xs' ds') (rv : Rp K W H v z) : Q v (upd H a (.lst xs')) := by
  have mo0 : Mono W H W (upd H a (.lst xs')) := fun b u hb hw => by
    have : b ≠ a := fun e => by rw [e, w] at hw; rcases hw with hw | hw <;> cases hw
    exact ⟨rfl, by rw [upd_ne this]; exact hb⟩
  obtain ⟨mo, c2⟩ := c.mut nv w (o := .lst xs') (t := .lst ds') (.lst w upd_same (rx.fz mo0.fz))
  exact q v _ W mo c2 (Rp.fz mo0.fz _ rv)
theorem ev_lmI {g : List PyData → PyData → Option (List PyData × PyData)} (lm : LM1 X.K r g) (hp : ∀ to te, PE X o to → PE X e te → PE X (.Call (.Attribute o name apos) [e] [] cpos) (tBM X.K "list" r to (tCons te tNil))) (ho : EV true X G o m) (he : EV true X G e k) :
    EV false X G (.Call (.Attribute o name apos) [e] [] cpos) (mlmI g m k) :=
  ⟨(hp _ _ ho.pe he.pe).imp fun σ H Q ⟨S, W, c, q⟩ => ⟨S, W, c, (okR.bind (b1 := true) (b2 := false) q).imp fun x H1 ⟨rx, S1, W1, st, c1, rv, q1⟩ => by
    split at q1
    · rename_i p ds
      obtain ⟨tr, nv⟩ := rv
      cases tr with
      | @lst _ a0 xs0 _ w e1 rr =>
        refine ⟨.inl ⟨rfl, _, SqL.of e1⟩, S1, W1, c1, (okR.bind (b1 := true) (b2 := false) q1).imp fun u H2 ⟨ry, S2, W2, st2, c2, rv2, q2⟩ => ?_⟩
        split at q2
        · rename_i y es
          obtain ⟨W3, ex, hx⟩ := stab_ok rv2 es
          have ry := hx W3 H2 Stp.refl
          have q2 := q2.shift' ex
          have c3 := c2.ext ex
          have ex12 := Ext.trans st2 ex
          cases eg : g ds y with
          | none => rw [eg] at q2; exact q2.elim
          | some dz =>
            rw [eg] at q2
            obtain ⟨q0, i0, rfl⟩ := nv.last
            have w3 : W3 a0 = .own (q0 ++ [i0 + 1]) := by rw [(ex12 _ _ e1).2 (by rw [w]; exact ntmp_own)]; exact w
            exact lm W3 H2 _ _ ds u y dz.1 dz.2 Q (ex12 _ _ e1).1 (rr.fz ex12.fz) ry eg fun v xs' h1 h2 => put_ok c3 (nv.ext ex12) w3 q2 h1 h2
        · exact q2.elim
    · exact q1.elim⟩⟩
theorem ev_lmV {i : Nat} {g : List PyData → PyData → Option (List PyData × PyData)} (lm : LM1 X.K r g) (hp : ∀ to te, PE X o to → PE X e te → PE X (.Call (.Attribute o name apos) [e] [] cpos) (tBM X.K "list" r to (tCons te tNil))) (ho : PE X o (tVar i)) (he : EV b X G e k) :
    EV false X G (.Call (.Attribute o name apos) [e] [] cpos) (mlmV i g k) :=
  ⟨(hp _ _ ho he.pe).imp fun σ H Q ⟨S, W, c, q⟩ => by
    unfold mlmV at q
    split at q
    · rename_i ds0 es0
      obtain ⟨x, hx, tr⟩ := c.tr i _ es0
      cases tr with
      | lst w e1 rr =>
        have q' : okR (relV X.K σ) X.K G (b && false) W H σ Q ((k S).bind fun y S2 => match stab false y, S2[i]? with
          | some (.d y), some (some (.lst ds)) => putL [i + 1] (g ds y) S2
          | _, _ => .stuck) := by rw [Bool.and_false]; exact q
        refine ⟨_, hx, .inl ⟨rfl, _, SqL.of e1⟩, S, W, c, (okR.bind (ra := relV X.K σ) q').imp fun u H2 ⟨ry, S2, W2, st2, c2, rv2, q2⟩ => ?_⟩
        split at q2
        · rename_i y ds es es2
          obtain ⟨W3, ex, hx3⟩ := stab_ok rv2 es
          have ry := hx3 W3 H2 Stp.refl
          have q2 := q2.shift' ex
          have c3 := c2.ext ex
          obtain ⟨x', hx', tr'⟩ := c3.tr i _ es2
          rw [hx] at hx'
          cases hx'
          cases tr' with
          | lst w' e1' rr' =>
            cases eg : g ds y with
            | none => rw [eg] at q2; exact q2.elim
            | some dz =>
              rw [eg] at q2
              exact lm W3 H2 _ _ ds u y dz.1 dz.2 Q e1' rr' ry eg fun v xs' h1 h2 => put_ok (p := [i + 1]) c3 ⟨i, rfl, hx⟩ w' q2 h1 h2
        · exact q2.elim
    · exact q.elim⟩
theorem ev_lm0 {g : List PyData → Option (List PyData × PyData)} (lm : LM0 X.K r g) (hp : ∀ to, PE X o to → PE X (.Call (.Attribute o name apos) [] [] cpos) (tBM0 X.K "list" r to)) (ho : EV true X G o m) :
    EV false X G (.Call (.Attribute o name apos) [] [] cpos) (mlm0 g m) :=
  ⟨(hp _ ho.pe).imp fun σ H Q ⟨S, W, c, q⟩ => ⟨S, W, c, (okR.bind (b1 := true) (b2 := false) q).imp fun x H1 ⟨rx, S1, W1, st, c1, rv, q1⟩ => by
    split at q1
    · rename_i p ds
      obtain ⟨tr, nv⟩ := rv
      cases tr with
      | lst w e1 rr =>
        refine ⟨.inl ⟨rfl, _, SqL.of e1⟩, ?_⟩
        cases eg : g ds with
        | none => rw [eg] at q1; exact q1.elim
        | some dz =>
          rw [eg] at q1
          exact lm W1 H1 _ _ ds dz.1 dz.2 Q e1 rr eg fun v xs' h1 h2 => put_ok c1 nv w q1 h1 h2
    · exact q1.elim⟩⟩
end
section
variable {K : Frag}
def gAppend (ds : List PyData) (y : PyData) : Option (List PyData × PyData) := if ds.length < 16777216 then some (ds ++ [y], .none) else none
theorem lm_append : LM1 K rAppend gAppend := by
  intro W H a xs ds u y ds' z Q ha rx ru e k
  unfold gAppend at e
  split at e
  · rename_i hl
    cases e
    exact ⟨a, xs, u, rfl, rfl, ha, by rw [sizeLine_eq, rx.len]; exact hl, k _ _ (rx.app (.one ru)) .non⟩
  · cases e
def gExtend (ds : List PyData) (y : PyData) : Option (List PyData × PyData) := match y with
  | .list es => if ds.length + es.length ≤ 16777216 then some (ds ++ es, .none) else none
  | _ => none
def rExtendR : V → List V → Hp → VK → Prop := fun x vs H Q => ∃ l b xs zs, x = .ref l ∧ vs = [.ref b] ∧ H l = some (.lst xs) ∧ Rd H b (.lst zs) ∧ xs.length + zs.length ≤ sizeLine ∧ Q .non (upd H l (.lst (xs ++ zs)))
theorem lm_extend : LM1 K rExtendR gExtend := by
  intro W H a xs ds u y ds' z Q ha rx ru e k
  unfold gExtend at e
  split at e
  · split at e
    · rename_i es hl
      cases e
      cases ru with
      | lst r1 r2 => exact ⟨a, _, xs, _, rfl, rfl, ha, r1.2, by rw [sizeLine_eq, rx.len, r2.len]; exact hl, k _ _ (rx.app r2) .non⟩
    · cases e
  · cases e
def gPop (ds : List PyData) : Option (List PyData × PyData) := match ds[ds.length - 1]? with
  | some z => some (ds.dropLast, z)
  | none => none
theorem lm_pop : LM0 K rPop gPop := by
  intro W H a xs ds ds' z Q ha rx e k
  unfold gPop at e
  split at e
  · rename_i z' ez
    cases e
    obtain ⟨v, h1, h2⟩ := rx.get ez
    refine ⟨a, xs, v, rfl, rfl, ha, by rw [rx.len]; exact h1, k _ _ ?_ h2⟩
    have := rx.take (ds.length - 1)
    rw [List.dropLast_eq_take, List.dropLast_eq_take, rx.len]
    exact this
  · cases e
def gPopAt (ds : List PyData) (y : PyData) : Option (List PyData × PyData) := match y with
  | .int i => if -(2 ^ 63) ≤ i ∧ i < 2 ^ 63 then (match seqIndex? i ds.length with
    | some k => match ds[k]? with
      | some z => some (ds.eraseIdx k, z)
      | none => none
    | none => none) else none
  | _ => none
theorem lm_popAt : LM1 K rPopAt gPopAt := by
  intro W H a xs ds u y ds' z Q ha rx ru e k
  unfold gPopAt at e
  split at e
  · rename_i i
    cases ru
    split at e
    · rename_i hi
      split at e
      · rename_i j ej
        split at e
        · rename_i z' ez
          cases e
          obtain ⟨v, h1, h2⟩ := rx.get ez
          exact ⟨a, xs, i, j, v, rfl, rfl, ha, hi.1, hi.2, by rw [rx.len]; exact ej, h1, k _ _ (rx.eraseIdx j) h2⟩
        · cases e
      · cases e
    · cases e
  · cases e
end
end M

set_option maxHeartbeats 2000000
/-! M14: list comprehensions whose parts are inert. Own work. -/
namespace M
open PySem PySem.Spec PyProof.Rows L2

theorem free0 {G : GC} {i : Nat} (h : G.vs0 = [] ∧ G.pins = [] := by exact ⟨rfl, rfl⟩) : Free G i := free_of (n := 0) ⟨by rw [h.1]; rfl, h.2⟩ (Nat.zero_le _)
def blkG (G : GC) : GC := ⟨G.H0, G.W0, [], fun _ _ _ _ => False, []⟩
def wipeS (S : MS) : List Nat → MS
  | [] => S
  | v :: vs => (wipeS S vs).set v none
theorem wipe_len (σ : L2.St) : ∀ vs : List Nat, (wipe σ vs).length = σ.length := wipe_length σ
theorem wipe_in {σ : L2.St} {j : Nat} : ∀ {vs : List Nat}, j ∈ vs → j < σ.length → (wipe σ vs)[j]? = some none
  | v :: vs, h, hl => by
    unfold wipe
    by_cases e : v = j
    · subst e; rw [List.getElem?_set_self (by rw [wipe_length]; exact hl)]
    · rw [List.getElem?_set_ne e]
      exact wipe_in ((List.mem_cons.mp h).resolve_left (fun z => e z.symm)) hl
theorem wipe_out {σ : L2.St} {j : Nat} : ∀ {vs : List Nat}, j ∉ vs → (wipe σ vs)[j]? = σ[j]?
  | [], _ => rfl
  | v :: vs, h => by
    unfold wipe
    rw [List.mem_cons, not_or] at h
    rw [List.getElem?_set_ne (fun e => h.1 e.symm)]
    exact wipe_out h.2
theorem wipe_eq {σ σ' : L2.St} {vs ws : List Nat} (h : SmO ws σ σ') (hs : ∀ j ∈ ws, j ∈ vs) : wipe σ' vs = wipe σ vs := by
  apply List.ext_getElem?
  intro j
  by_cases hj : j ∈ vs
  · by_cases hl : j < σ.length
    · rw [wipe_in hj hl, wipe_in hj (by rw [h.1]; exact hl)]
    · rw [List.getElem?_eq_none (by rw [wipe_length, h.1]; omega), List.getElem?_eq_none (by rw [wipe_length]; omega)]
  · rw [wipe_out hj, wipe_out hj, h.2 j (fun z => hj (hs j z))]
theorem wipe_wipe {σ : L2.St} {vs : List Nat} : wipe (wipe σ vs) vs = wipe σ vs := wipe_eq (ws := vs) ⟨wipe_length σ vs, fun j hj => wipe_out hj⟩ fun _ h => h
theorem wipeS_len (S : MS) : ∀ vs : List Nat, (wipeS S vs).length = S.length
  | [] => rfl
  | v :: vs => by unfold wipeS; rw [List.length_set, wipeS_len S vs]
theorem wipeS_some {S : MS} {j : Nat} {t : MV} : ∀ {vs : List Nat}, (wipeS S vs)[j]? = some (some t) → S[j]? = some (some t) ∧ j ∉ vs
  | [], h => ⟨h, by simp⟩
  | v :: vs, h => by
    unfold wipeS at h
    by_cases e : v = j
    · subst e
      by_cases hl : v < (wipeS S vs).length
      · rw [List.getElem?_set_self hl] at h; cases h
      · rw [List.getElem?_eq_none (by rw [List.length_set]; omega)] at h; cases h
    · rw [List.getElem?_set_ne e] at h
      obtain ⟨h1, h2⟩ := wipeS_some h
      exact ⟨h1, by simp only [List.mem_cons, not_or]; exact ⟨fun z => e z.symm, h2⟩⟩
theorem Conc.blk {K : Frag} {G : GC} {S : MS} {σ : L2.St} {H : Hp} {W : Own} (c : Conc K G S σ H W) (vs : List Nat) : Conc K (blkG G) (wipeS S vs) (wipe σ vs) H W :=
  ⟨by rw [wipeS_len, wipe_length]; exact c.len, fun i t h => by
    obtain ⟨h1, h2⟩ := wipeS_some h
    obtain ⟨v, h3, h4⟩ := c.tr i t h1
    exact ⟨v, by rw [wipe_out h2]; exact h3, h4⟩, c.mono, fun j v h => by cases h⟩
structure TVs (X : Cx) (G : GC) (ifs : List Expr) (m : MT) : Prop where
  pts : PTs X ifs (tTV X.K G true m)
theorem PTs.imp {X : Cx} {ifs : List Expr} {t t' : TT} (h : PTs X ifs t) (i : ∀ σ H Q, t' σ H Q → t σ H Q) : PTs X ifs t' := ⟨fun pins s σ H Q I q => h.run pins s σ H Q I (i σ H Q q)⟩
def myes : MT := fun S => .ok true S
section
variable {X : Cx} {G : GC} {b : Bool} {c elt tg iter : Expr} {ifs : List Expr} {m : ME} {mt : MT}
theorem tvs_nil : TVs X G [] myes := ⟨PTs.imp pts_nil fun σ H Q ⟨S, W, c, q⟩ => q true H W Stp.refl c rfl⟩
theorem tvs_one (h : TV true X G c mt) : TVs X G [c] mt := ⟨pts_one h.pt⟩
/-- what the elements are; all is reckoned at the state S -/
def lcL (f : MG) (mt : MT) (me : ME) (S : MS) : List PyData → Option (List PyData)
  | [] => some []
  | d :: ds => match f d S with
    | none => none
    | some S1 => match mt S1 with
      | .ok true S2 => match me S2 with
        | .ok r _ => match stab false r with
          | some (.d y) => match lcL f mt me S ds with
            | some ys => some (y :: ys)
            | none => none
          | _ => none
        | _ => none
      | .ok false _ => lcL f mt me S ds
      | _ => none
def lcR (o : Option (List PyData)) (S : MS) : R RV := match o with
  | some ys => .ok (.nw (.lst ys)) S
  | none => .stuck
def mlc (vs : List Nat) (mi : MI) (f : MG) (mt : MT) (me : ME) : ME := fun S => (mi S).bind fun ds S1 => if ds.length < 16777216 then lcR (lcL f mt me (wipeS S1 vs) ds) S1 else .stuck
theorem run_lc {g : TG} {mi : MI} {f : MG} {vs ws : List Nat} (hws : ∀ j ∈ ws, j ∈ vs) {X' : Cx → Prop} {σ : L2.St} {H : Hp} {Q : VK} {K : Frag} (h : tEV K G b (mlc vs mi f mt m) σ H Q) :
    tLc (tIV K G b true mi) (tGV K (blkG G) ws f) (tTV K (blkG G) true mt) (tEV K (blkG G) true m) vs σ H Q := by
  obtain ⟨S, W, cc, q⟩ := h
  refine ⟨S, W, cc, (okR.one q).imp fun J H1 ⟨ds, S1, W1, st, c1, yl, q1⟩ => fun D nD => ?_⟩
  split at q1
  · rename_i hlen
    have cb := c1.blk vs
    have notD : ∀ a o, H1 a = some o → a ≠ D := fun a o ha => ne_of_none ha nD
    refine ⟨fun i n H => n = ds.length - i ∧ i ≤ ds.length ∧ ∃ W2 acc ys zs, Ext W1 H1 W2 H ∧ W2 D = .out ∧ H D = some (.lst acc) ∧ acc.length ≤ i ∧ RpAll K W2 H acc ys ∧ lcL f mt m (wipeS S1 vs) (ds.drop i) = some zs ∧ lcL f mt m (wipeS S1 vs) ds = some (ys ++ zs), ?_, ?_⟩
    · unfold lcR at q1
      cases e : lcL f mt m (wipeS S1 vs) ds with
      | none => rw [e] at q1; exact q1.elim
      | some ys =>
        exact ⟨_, rfl, Nat.zero_le _, setW W1 D .out, [], [], ys, ext_new (K := K) nD, setW_same, upd_same, Nat.le_refl _, .nil, by simpa using e, by simp⟩
    · rintro i n H2 ⟨rfl, hi, W2, acc, ys, zs, ex, wD, hD, hac, ra, e1, e2⟩
      obtain ⟨y1, y2⟩ := yl W2 H2 ex i
      by_cases hlt : i < ds.length
      · have ed : ds[i]? = some ds[i] := List.getElem?_eq_getElem hlt
        rw [List.drop_eq_getElem_cons hlt] at e1
        obtain ⟨go, yy⟩ := y1 _ ed
        refine .inr ⟨go, fun H' => ∃ W2 acc ys zs, Ext W1 H1 W2 H' ∧ W2 D = .out ∧ H' D = some (.lst acc) ∧ acc.length ≤ i + 1 ∧ RpAll K W2 H' acc ys ∧ lcL f mt m (wipeS S1 vs) (ds.drop (i + 1)) = some zs ∧ lcL f mt m (wipeS S1 vs) ds = some (ys ++ zs), fun H' h => ⟨ds.length - (i + 1), by omega, rfl, hlt, h⟩, fun x H' hx => ?_⟩
        obtain ⟨W', ex', rx⟩ := yy x H' hx
        unfold lcL at e1
        cases ef : f ds[i] (wipeS S1 vs) with
        | none => rw [ef] at e1; cases e1
        | some S3 =>
          rw [ef] at e1
          dsimp only at e1
          have ex1 := ex.trans ex'
          refine ⟨wipeS S1 vs, W', ds[i], S3, cb.ext ex1, rx, ef, fun σ2 sm c2 => ⟨(wipe_eq sm hws).trans wipe_wipe, S3, W', c2, ?_⟩⟩
          have outD : ∀ {W3 : Own} {H3 : Hp}, Ext W' H' W3 H3 → W3 D = .out ∧ H3 D = some (.lst acc) := fun ex3 => by
            have hD' := (ex' D _ hD).1
            have wD' := (ex' D _ hD).2 (by rw [wD]; exact ntmp_out)
            exact ⟨((ex3 D _ hD').2 (by rw [wD', wD]; exact ntmp_out)).trans (wD'.trans wD), (ex3 D _ hD').1⟩
          cases et : mt S3 with
          | ok bb S4 =>
            rw [et] at e1
            intro b' H3 W3 st3 c3 eb
            have eb : b' = bb := eb
            subst eb
            have ex3 : Ext W' H' W3 H3 := st3
            obtain ⟨wD3, hD3⟩ := outD ex3
            have ex13 := ex1.trans ex3
            cases b' with
            | false =>
              dsimp only at e1
              exact ⟨W3, acc, ys, zs, ex13, wD3, hD3, by omega, ra.fz (ex'.fz.trans ex3.fz), e1, e2⟩
            | true =>
              dsimp only at e1
              rw [if_pos rfl]
              refine ⟨S4, W3, c3, ?_⟩
              cases em : m S4 with
              | ok r S5 =>
                rw [em] at e1
                dsimp only at e1
                intro v H4 W4 st4 c4 rv
                have ex4 : Ext W3 H3 W4 H4 := st4
                split at e1
                · rename_i y es
                  obtain ⟨W5, ex5, hx5⟩ := stab_ok rv es
                  have ry := hx5 W5 H4 Stp.refl
                  have ex35 := ex4.trans ex5
                  obtain ⟨wD5, hD5⟩ := outD (ex3.trans ex35)
                  split at e1
                  · rename_i ws' ew
                    cases e1
                    refine ⟨acc, hD5, by rw [sizeLine_eq]; omega, ?_⟩
                    have fz5 : Fz W5 H4 W5 (upd H4 D (.lst (acc ++ [v]))) := fun a o ha hw => by
                      have : a ≠ D := fun e => by rw [e, wD5] at hw; cases hw
                      exact ⟨hw, by rw [upd_ne this]; exact ha⟩
                    have ex15 := ex13.trans ex35
                    refine ⟨W5, acc ++ [v], ys ++ [y], ws', fun a o ha => ?_, wD5, upd_same, by simp; omega, ((ra.fz ((ex'.trans (ex3.trans ex35)).fz)).app (.one ry)).fz fz5, ew, by rw [e2]; simp⟩
                    obtain ⟨h1, h2⟩ := ex15 a o ha
                    exact ⟨by rw [upd_ne (notD a o ha)]; exact h1, h2⟩
                  · cases e1
                · cases e1
              | exc c' S5 => rw [em] at e1; cases e1
              | stuck => rw [em] at e1; cases e1
          | exc c' S4 => rw [et] at e1; cases e1
          | stuck => rw [et] at e1; cases e1
      · have e : i = ds.length := by omega
        subst e
        rw [List.drop_length] at e1
        cases e1
        rw [List.append_nil] at e2
        refine .inl ⟨y2 (Nat.le_refl _), ?_⟩
        rw [e2] at q1
        have q1 : okR (relV K σ) K G true W1 H1 σ Q (.ok (.nw (.lst ys)) S1) := q1
        have exF : Ext W1 H1 (setW W2 D (.own [0])) H2 := fun a o ha => by
          obtain ⟨h1, h2⟩ := ex a o ha
          exact ⟨h1, fun n => by rw [setW_ne (notD a o ha)]; exact h2 n⟩
        refine q1 (.ref D) H2 _ exF (c1.ext exF) (.lst setW_same hD (ra.fz fun a o ha hw => ?_))
        have : a ≠ D := fun e => by rw [e, wD] at hw; cases hw
        exact ⟨by rw [setW_ne this]; exact hw, ha⟩
  · exact q1.elim
theorem ev_lc {scope : Scope} {own : List (Str × Nat)} {pos : Pos} {mi : MI} {f : MG} {ws : List Nat} (hi : IV b true X G tg iter mi)
    (hg : ∀ (s : Shared) (H : Hp) (C : Addr) (cl : List (Str × Addr)) (fp : List Addr), GV (X.blk s H scope (compEnvC scope cl C X.env) fp) (blkG G) tg ws f)
    (ht : ∀ (s : Shared) (H : Hp) (C : Addr) (cl : List (Str × Addr)) (fp : List Addr), TVs (X.blk s H scope (compEnvC scope cl C X.env) fp) (blkG G) ifs mt)
    (he : ∀ (s : Shared) (H : Hp) (C : Addr) (cl : List (Str × Addr)) (fp : List Addr), EV true (X.blk s H scope (compEnvC scope cl C X.env) fp) (blkG G) elt m)
    (hN : X.N.Nodup) (ok : BlkOk X.N X.env.scope scope own) (hws : ∀ j ∈ ws, j ∈ own.map (·.2)) (hc : X.calm = true := by rfl) (hs : ∀ x, foldedSetIterable iter X.env x = pure x := by intro _; rfl) :
    EV b X G (.ListComp elt [⟨tg, iter, ifs, 0⟩] scope pos) (mlc (own.map (·.2)) mi f mt m) :=
  ⟨(pe_lc (g := tGV X.K (blkG G) ws f) (tt := tTV X.K (blkG G) true mt) (te := tEV X.K (blkG G) true m) hc hN hi.pi ok (fun s H C cl fp => (hg s H C cl fp).pg) (fun s H C cl fp => (ht s H C cl fp).pts) (fun s H C cl fp => (he s H C cl fp).pe) hs).imp fun σ H Q q => run_lc (X' := fun _ => True) (g := fun _ _ _ _ => True) hws q⟩
/-- x = [..], x local -/
theorem st_setLc {own' : Bool} {i : Nat} {y : Str} {py : Pos} {scope : Scope} {own : List (Str × Nat)} {pos spos : Pos} {mi : MI} {f : MG} {ws : List Nat} (hi : IV b true X G tg iter mi)
    (hg : ∀ (s : Shared) (H : Hp) (C : Addr) (cl : List (Str × Addr)) (fp : List Addr), GV (X.blk s H scope (compEnvC scope cl C X.env) fp) (blkG G) tg ws f)
    (ht : ∀ (s : Shared) (H : Hp) (C : Addr) (cl : List (Str × Addr)) (fp : List Addr), TVs (X.blk s H scope (compEnvC scope cl C X.env) fp) (blkG G) ifs mt)
    (he : ∀ (s : Shared) (H : Hp) (C : Addr) (cl : List (Str × Addr)) (fp : List Addr), EV true (X.blk s H scope (compEnvC scope cl C X.env) fp) (blkG G) elt m)
    (hle : Free G i) (hN : X.N.Nodup) (ok : BlkOk X.N X.env.scope scope own) (hws : ∀ j ∈ ws, j ∈ own.map (·.2)) (hy : X.N[i]? = some y := by rfl) (hyl : X.env.scope.names.lookup y = some .local := by rfl)
    (hsw : swapsWith (.ListComp elt [⟨tg, iter, ifs, 0⟩] scope pos) (some (.Name y py)) spos.line X.env = pure true := by exact sw_true rfl rfl rfl (by decide +kernel)) (hc : X.calm = true := by rfl) (hs : ∀ x, foldedSetIterable iter X.env x = pure x := by intro _; rfl) :
    ST X G (.Assign [.Name y py] (.ListComp elt [⟨tg, iter, ifs, 0⟩] scope pos) spos) (if own' then mset i (mlc (own.map (·.2)) mi f mt m) else msetF i (mlc (own.map (·.2)) mi f mt m)) := by
  have hp := ps_setLc (i := i) (g := tGV X.K (blkG G) ws f) (tt := tTV X.K (blkG G) true mt) (te := tEV X.K (blkG G) true m) hc hN hy hyl hsw hi.pi ok (fun s H C cl fp => (hg s H C cl fp).pg) (fun s H C cl fp => (ht s H C cl fp).pts) (fun s H C cl fp => (he s H C cl fp).pe) hs
  have run := fun (σ : L2.St) (H : Hp) (Q : VK) (q : tEV X.K G b (mlc (own.map (·.2)) mi f mt m) σ H Q) => run_lc (X' := fun _ => True) (g := fun _ _ _ _ => True) hws q
  cases own' with
  | true =>
    exact ⟨hp.imp fun D σ H ⟨S, W, cc, q⟩ => run σ H _ ⟨S, W, cc, (okR_of_S (f := fun r S1 => setS i r.keep S1) q).imp fun v H1 ⟨r, S1, W1, c1, rv, q1⟩ => by
      unfold setS at q1
      split at q1
      · rename_i t e1
        exact q1 _ H1 _ ext_mvW.mono (c1.set hle ext_mvW (keep_ok [i + 1] rv e1))
      · exact q1.elim⟩⟩
  | false =>
    exact ⟨hp.imp fun D σ H ⟨S, W, cc, q⟩ => run σ H _ ⟨S, W, cc, (okR_of_S (f := fun r S1 => setS i r.keepF S1) q).imp fun v H1 ⟨r, S1, W1, c1, rv, q1⟩ => by
      unfold setS at q1
      split at q1
      · rename_i t e1
        obtain ⟨W', ex, tr⟩ := keepF_ok [i + 1] rv e1
        exact q1 _ H1 _ ex.mono (c1.set hle ex tr)
      · exact q1.elim⟩⟩
end
end M

set_option maxHeartbeats 2000000
/-! M15: try with clauses, xs[::-1], max and min of two, len(set(xs)), extend. Own work. -/
namespace M
open PySem PySem.Spec PyProof.Rows L2

section
variable {X : Cx} {G : GC} {b : Bool} {a c e tg : Expr} {m k : ME} {ms : MSt} {pos : Pos}
/-! ### try .. except -/
def xwG (G : GC) (W : WX) : GC := ⟨G.H0, G.W0, G.vs0, W, G.pins⟩
def noG (G : GC) : GC := xwG G fun _ _ _ _ => False
theorem Conc.xw {K : Frag} {S : MS} {σ : L2.St} {H : Hp} {W : Own} {w1 w2 : WX} (h : Conc K (xwG G w1) S σ H W) : Conc K (xwG G w2) S σ H W := ⟨h.len, h.tr, h.mono, h.args⟩
/-- whether a class stands under one that a clause names -/
def exB (c x : Str) : Bool := decide (c = x) || decide (x = ("TurnsError" : Str))
def mhandle (cs : List Str) : List (Str × MSt) → Str → MS → RS
  | [], c, S => .exc c S
  | (x, ms) :: r, c, S => if c ∈ cs then (if exB c x = true then (match ms S with | .exc _ _ => .stuck | z => z) else mhandle cs r c S) else .stuck
def mtry (cs : List Str) (m : MSt) (hs : List (Str × MSt)) : MSt := fun S => match m S with
  | .exc c S1 => mhandle cs hs c S1
  | r => r
inductive HdM (X : Cx) (G : GC) (cs : List Str) : List ExceptHandler → List (Str × MSt) → Prop
  | nil : HdM X G cs [] []
  | cons {x : Str} {b₀ : Stmt} {suite : List Stmt} {np pos' : Pos} {hds : List ExceptHandler} {hs : List (Str × MSt)} {ms : MSt} (hn : Names X x (.ref (He.ga X.K x))) (he : ∀ c ∈ cs, PySem.W.exmOne X.K (.ref (He.ga X.K c)) (.ref (He.ga X.K x)) = some (exB c x))
      (hsu : ∀ (a : Addr) (oe : Obj) (pn : List (Addr × Obj)), STs (X.suite a ((a, oe) :: pn)) (noG G) (b₀ :: suite) ms) (r : HdM X G cs hds hs) : HdM X G cs (.ExceptHandler (some (.Name x np)) none (b₀ :: suite) pos' :: hds) ((x, ms) :: hs)
theorem HdM.hds {cs : List Str} {hds : List ExceptHandler} {hs : List (Str × MSt)} (h : HdM X G cs hds hs) :
    ∃ l, HdsOk X hds l ∧ ∀ (D : Ends) (c : Str) (S : MS) (σ : L2.St) (H : Hp) (W : Own), Conc X.K G S σ H W → okS X.K G W H D (mhandle cs hs c S) → wMany X.K G.xw D l (.ref (He.ga X.K c)) none σ H := by
  induction h with
  | nil => exact ⟨[], .nil, fun D c S σ H W cc q => q σ H W Mono.refl cc⟩
  | @cons x b₀ suite np pos' hds hs ms hn he hsu r ih =>
    obtain ⟨l, hl, hw⟩ := ih
    refine ⟨(_, fun _ _ _ => tST X.K (noG G) ms) :: l, .cons hn (fun a oe cls d pn _ _ => (hsu a oe pn).ps) hl, fun D c S σ H W cc q => ?_⟩
    unfold mhandle at q
    split at q
    · rename_i hc
      refine ⟨exB c x, he c hc, fun eb a ha => ?_, fun eb => ?_⟩
      · rw [if_pos eb] at q
        refine ⟨S, W, ⟨cc.len, cc.tr, cc.mono, cc.args⟩, ?_⟩
        cases e : ms S with
        | nx S1 => rw [e] at q; exact fun σ' H' W' m c => q σ' H' W' m ⟨c.len, c.tr, c.mono, c.args⟩
        | bk S1 => rw [e] at q; exact fun σ' H' W' m c => q σ' H' W' m ⟨c.len, c.tr, c.mono, c.args⟩
        | ct S1 => rw [e] at q; exact fun σ' H' W' m c => q σ' H' W' m ⟨c.len, c.tr, c.mono, c.args⟩
        | rt r S1 => rw [e] at q; exact fun v σ' H' W' m c rv => q v σ' H' W' m ⟨c.len, c.tr, c.mono, c.args⟩ rv
        | exc c' S1 => rw [e] at q; exact q.elim
        | stuck => rw [e] at q; exact q.elim
      · rw [if_neg (by rw [eb]; decide)] at q
        exact hw D c S σ H W cc q
    · exact q.elim
theorem st_try {cs : List Str} {body : List Stmt} {h₀ : ExceptHandler} {hds : List ExceptHandler} {hs : List (Str × MSt)} (tk : Takes X G.xw)
    (hb : ∀ (W : WX) (pn : List (Addr × Obj)) (xe : Value → Shared → Prop), Takes (X.tr pn xe) W → PassesOwn (model X.prog X.w) X.A X.env xe → STs (X.tr pn xe) (xwG G W) body ms) (hh : HdM X G cs (h₀ :: hds) hs)
    (hst : X.stack = X.env :: X.outer := by rfl) (hf : X.env.frame = some X.env.locals := by rfl) : ST X G (.Try body (h₀ :: hds) [] [] pos) (mtry cs ms hs) := by
  obtain ⟨l, hl, hw⟩ := hh.hds
  refine ⟨(ps_try_many (tb := fun W => tST X.K (xwG G W) ms) hst hf tk (fun W pn xe tk po => (hb W pn xe tk po).ps) hl).imp fun D σ H ⟨S, W, cc, q⟩ => ?_⟩
  refine ⟨S, W, ⟨cc.len, cc.tr, cc.mono, cc.args⟩, ?_⟩
  unfold mtry at q
  cases e : ms S with
  | nx S1 => rw [e] at q; exact fun σ' H' W' m c => q σ' H' W' m ⟨c.len, c.tr, c.mono, c.args⟩
  | bk S1 => rw [e] at q; exact fun σ' H' W' m c => q σ' H' W' m ⟨c.len, c.tr, c.mono, c.args⟩
  | ct S1 => rw [e] at q; exact fun σ' H' W' m c => q σ' H' W' m ⟨c.len, c.tr, c.mono, c.args⟩
  | rt r S1 => rw [e] at q; exact fun v σ' H' W' m c rv => q v σ' H' W' m ⟨c.len, c.tr, c.mono, c.args⟩ rv
  | exc c' S1 => rw [e] at q; exact fun σ' H' W' m c => hw D c' S1 σ' H' W' ⟨c.len, c.tr, c.mono, c.args⟩ (okS.shift q m)
  | stuck => rw [e] at q; exact q.elim
theorem names_of {x : Str} {v : Value} (hm : X.mg x = some v) (hg : Gl X x := by rfl) (hd : (x == ("__debug__" : Str)) = false := by decide) : Names X x v := ⟨hg, hd, .inl hm⟩
/-! ### xs[::-1] -/
def gRev : PyData → Option RV
  | .list ds => some (.nw (.lst ds.reverse))
  | _ => none
theorem og_rev {K : Frag} : OpD1 K (fun x H Q => ∃ a xs, x = V.ref a ∧ SqL K H a xs ∧ ∀ p, H p = none → Q (.ref p) (upd H p (.lst xs.reverse))) gRev := by
  intro W H v x z Q rx e kk
  unfold gRev at e
  split at e
  · cases e
    obtain ⟨a, vs, rfl, ra, rxs⟩ := rx
    refine ⟨a, vs, rfl, .inl ra, fun p np => ?_⟩
    obtain ⟨h1, h2⟩ := new_lst np rxs.rev
    exact kk _ _ _ h1 h2
  · cases e
theorem ev_rev {kk : Nat} {p1 p2 p3 : Pos} (h : EV b X G e m) : EV b X G (.Subscript e (.Slice none none (some (.UnaryOp .USub (.Constant (.int 1) kk p1) p2)) p3) pos) (mop1 (lift1 gRev) m) :=
  ⟨(pe_revL h.pe).imp fun σ H Q q => run1 og_rev.op q⟩
/-! ### max(a, b), min(a, b) -/
def mtwo (g : Int → Int → Int) (ma : ML) : ME := fun S => (ma S).bind fun rs S1 => match rs with
  | [.d (.int i), .d (.int j)] => .ok (.d (.int (g i j))) S1
  | _ => .stuck
def mmax2 : ML → ME := mtwo fun i j => if j > i then j else i
def mmin2 : ML → ME := mtwo fun i j => if j < i then j else i
section
variable {ma : ML} {p : Pos}
theorem run_two {K : Frag} {g : Int → Int → Int} {σ : L2.St} {H : Hp} {Q : VK} (h : tEV K G b (mtwo g ma) σ H Q) : tAV K G b ma σ H (fun vs H1 => ∃ i j, vs = [V.int i, V.int j] ∧ Q (.int (g i j)) H1) := by
  obtain ⟨S, W, cc, q⟩ := h
  refine ⟨S, W, cc, (okR.one q).imp fun vs H1 ⟨rs, S1, W1, st, c1, rv, q1⟩ => ?_⟩
  split at q1
  · cases rv with
    | d a rv =>
      cases rv with
      | d b rv =>
        cases rv
        cases a; cases b
        exact ⟨_, _, rfl, q1 _ H1 W1 Stp.refl c1 .int⟩
  · exact q1.elim
theorem ev_max2 (hm : X.mg "max" = none) (h : AV b X G [a, c] ma) (hg : Gl X "max" := by rfl) (hc : X.calm = true := by rfl) (hs : starEach [a, c] X.env = (false, eval a X.env) :: starEach [c] X.env := by rfl) (hpl : (backTo pos (starEach [c] X.env)).any (·.1) = false := by rfl) :
    EV b X G (.Call (.Name "max" p) [a, c] [] pos) (mmax2 ma) :=
  ⟨(pe_callB (call_max2 hc) hg hm (by decide +kernel) h.pa (by decide) (by decide) hs hpl).imp fun σ H Q q => run_two q⟩
theorem ev_min2 (hm : X.mg "min" = none) (h : AV b X G [a, c] ma) (hg : Gl X "min" := by rfl) (hc : X.calm = true := by rfl) (hs : starEach [a, c] X.env = (false, eval a X.env) :: starEach [c] X.env := by rfl) (hpl : (backTo pos (starEach [c] X.env)).any (·.1) = false := by rfl) :
    EV b X G (.Call (.Name "min" p) [a, c] [] pos) (mmin2 ma) :=
  ⟨(pe_callB (call_min2 hc) hg hm (by decide +kernel) h.pa (by decide) (by decide) hs hpl).imp fun σ H Q q => run_two q⟩
end
/-! ### len(set(xs)) of ints -/
abbrev uniqI (ns : List Int) : List Int := ns.foldl PyProof.Rows.step_dedup []
theorem firstMet_eq (ns : List Int) : PyProof.Rows.firstMet (fun i => ns.getD i 0) ns.length = uniqI ns := by
  unfold PyProof.Rows.firstMet
  congr 1
  apply List.ext_getElem
  · simp
  · intro i h1 h2
    simp only [List.getElem_map, List.getElem_range]
    rw [List.getD_eq_getElem?_getD, List.getElem?_eq_getElem h2]
    rfl
theorem ints_rel : ∀ {ns : List Int} {us : List Value}, Vals (ns.map V.int) us → PyProof.Rows.IntsAre us ns
  | [], _, .nil => .nil
  | _ :: r, _, .cons ⟨t, e⟩ q => by
    subst e
    exact .cons _ t (ints_rel q)
def gLenSet : PyData → Option RV
  | .list ds => match asInts ds with
    | some ns => if ns.length < 1000 then some (.d (.int ((uniqI ns).length : Nat))) else none
    | none => none
  | _ => none
def mlenset (m : ME) : ME := mop1 (lift1 gLenSet) m
theorem uniq_le : ∀ (ns acc : List Int), (ns.foldl PyProof.Rows.step_dedup acc).length ≤ acc.length + ns.length
  | [], acc => by simp
  | n :: r, acc => by
    have h := uniq_le r (PyProof.Rows.step_dedup acc n)
    have h2 : (PyProof.Rows.step_dedup acc n).length ≤ acc.length + 1 := by
      unfold PyProof.Rows.step_dedup
      split <;> simp
    simp only [List.foldl_cons, List.length_cons]
    omega
theorem ev_lenset {p p2 q : Pos} (hm : X.mg "len" = none) (hm2 : X.mg "set" = none) (ha : EV b X G a m) (hg : Gl X "len" := by rfl) (hg2 : Gl X "set" := by rfl) (hc : X.calm = true := by rfl)
    (na : starEach [a] X.env = (false, eval a X.env) :: starEach [] X.env := by rfl) : EV b X G (.Call (.Name "len" p) [.Call (.Name "set" p2) [a] [] q] [] pos) (mlenset m) := by
  refine ⟨⟨fun pins s σ H Q I h0 => ?_⟩⟩
  have h := run1 (r := fun v H Q => ∃ (l : Addr) (ns : List Int), v = V.ref l ∧ SqL X.K H l (ns.map V.int) ∧ ns.length < 1000 ∧ Q (.int ((uniqI ns).length : Nat)) H) (OpD1.op (g := gLenSet) fun W H v x z Q rx ez kk => by
    unfold gLenSet at ez
    split at ez
    · split at ez
      · rename_i ns en
        split at ez
        · rename_i hl
          cases ez
          obtain ⟨l, xs, rfl, rl, rxs⟩ := rx
          obtain ⟨e1, _⟩ := asInts_ok rxs en
          subst e1
          exact ⟨l, ns, rfl, .inl rl, hl, kk _ H W Ext.refl .int⟩
        · cases ez
      · cases ez
    · cases ez) h0
  refine Call_ (ld_blt I hg hm PySem.boot_len (PyProof.Rows.callWith_builtin1 (PyProof.Rows.args_cons (Call_ (ld_blt I hg2 hm2 PyProof.Rows.boot_set (PyProof.Rows.callWith_type1 (PyProof.Rows.args_cons (thn (ha.pe.run pins s σ H _ I h) fun v s1 ⟨x, H1, I1, r1, q1⟩ => PyProof.Rows.args_nil ?_) na) na rfl))) rfl) rfl rfl))
  obtain ⟨l, ns, ex, hq, hl, hQ⟩ := q1
  subst ex
  cases r1
  obtain ⟨its, rv, pl, _⟩ := I1.list hq
  have hlen : its.toArray.size = ns.length := by have e := rv.length; rw [List.length_map] at e; simp [← e]
  refine PySem.call_set_list (ns := ns) (I1.ok.hd hc) pl.isList (by simpa using ints_rel rv) (by rw [hlen]; unfold scanBound; omega) fun h' tk hS hk => ?_
  rw [hlen, firstMet_eq] at hS
  obtain ⟨o, es, ep, t, ho, hex, hd, _, _, _, hf, hn⟩ := hS
  have hu : (uniqI ns).length ≤ 0 + ns.length := uniq_le ns []
  have I2 : L2.Inv X pins σ H1 { s1 with heap := h', toks := tk } := I1.kept fun b o e => hk b o (Heap.lt_size e) e
  refine PyProof.Rows.args_nil (call_len_set ho hex hd hf (by rw [hn]; omega) ⟨.int ((uniqI ns).length : Nat), H1, I2.tok _, ⟨_, by rw [hn]⟩, hQ⟩)
end
end M

set_option maxHeartbeats 2000000
/-! M16: dicts; list.extend. Own work. -/
namespace M
open PySem PySem.Spec PyProof.Rows L2

theorem mt_extendR {X : Cx} : MtR X "list.extend" rExtendR := by
  intro pins s σ H x vs v us Q I rx rv h
  obtain ⟨l, b, xs, zs, ex, ev, hH, hB, hz, q⟩ := h
  rcases hB with hB | ⟨o, hB⟩
  · exact mt_extend pins s σ H x vs v us Q I rx rv ⟨l, b, xs, zs, ex, ev, hH, hB, hz, q⟩
  · subst ex ev
    cases rx
    obtain ⟨u, eu, ru⟩ := rv.one
    subst eu
    cases ru
    obtain ⟨_, its, n, r, hl, e⟩ := I.lstM hH
    obtain ⟨_, its2, n2, r2, e2⟩ := (show Rd H b (.lst zs) from .inr ⟨o, hB⟩).ok I.hok
    have hl2 := r2.length
    have hs : its.toArray.size + its2.toArray.size ≤ sizeLine := by simp only [List.size_toArray]; omega
    refine call_meets F.slot_list_extend ⟨_, e, rfl⟩ F.entry_list_extend (F.args_list_extend_2 _ _) (AutoSeq1.list_extend_list_list_0 l its.toArray n b its2.toArray n2 (by rw [notLongL hs, Bool.and_false]; decide) (by simp only [List.size_toArray]; omega) (by omega)) ⟨e, e2, ?_⟩
    exact ⟨.non, _, I.lset (its' := its ++ its2) hH e (by simp) (r.append r2) (by rw [List.length_append]; omega), rfl, q⟩

/-! ### a dict's values -/
def valD (kvs : List (Key × PyData)) (k : Key) : Option PyData := (kvs.find? fun kv => decide (kv.1 = k)).map (·.2)
def putD (kvs : List (Key × PyData)) (k : Key) (v : PyData) : List (Key × PyData) := if (kvs.any fun kv => decide (kv.1 = k)) = true then kvs.map (fun kv => if kv.1 = k then (kv.1, v) else kv) else kvs ++ [(k, v)]
def dropD (kvs : List (Key × PyData)) (k : Key) : List (Key × PyData) := kvs.filter fun kv => decide (kv.1 ≠ k)
def keyD : PyData → Option Key
  | .int i => some (.inl i)
  | .str x => some (.inr x)
  | _ => none
section
variable {K : Frag} {W : Own} {H : Hp}
theorem keyD_ok {v : V} {d : PyData} {k : Key} (h : Root K W H v d) (e : keyD d = some k) : v = kV k := by
  unfold keyD at e
  split at e
  · cases e; exact h.int
  · cases e; exact h.str
  · cases e
theorem RpKV.val {k : Key} : ∀ {ks : List (Key × V)} {kvs : List (Key × PyData)}, RpKV K W H ks kvs → (∀ d, valD kvs k = some d → ∃ v, valV ks k = some v ∧ Rp K W H v d) ∧ (valD kvs k = none → valV ks k = none)
  | _, _, .nil => ⟨fun d h => by simp [valD] at h, fun _ => rfl⟩
  | _, _, @RpKV.cons _ _ _ k' v vs d ds a b => by
    by_cases e : k' = k
    · constructor
      · intro x hx
        simp [valD, List.find?_cons, e] at hx
        subst hx
        exact ⟨v, by simp [valV, List.find?_cons, e], a⟩
      · intro hx
        simp [valD, List.find?_cons, e] at hx
    · have h1 : valD ((k', d) :: ds) k = valD ds k := by simp [valD, List.find?_cons, e]
      have h2 : valV ((k', v) :: vs) k = valV vs k := by simp [valV, List.find?_cons, e]
      rw [h1, h2]
      exact RpKV.val b
theorem RpKV.any {p : Key → Bool} : ∀ {ks : List (Key × V)} {kvs : List (Key × PyData)}, RpKV K W H ks kvs → (ks.any fun kv => p kv.1) = kvs.any fun kv => p kv.1
  | _, _, .nil => rfl
  | _, _, .cons a b => by simp [RpKV.any b]
theorem RpKV.app : ∀ {ks ls : List (Key × V)} {kvs lvs : List (Key × PyData)}, RpKV K W H ks kvs → RpKV K W H ls lvs → RpKV K W H (ks ++ ls) (kvs ++ lvs)
  | _, _, _, _, .nil, h => h
  | _, _, _, _, .cons a b, h => .cons a (b.app h)
theorem RpKV.putMap {k : Key} {v : V} {d : PyData} (hv : Rp K W H v d) : ∀ {ks : List (Key × V)} {kvs : List (Key × PyData)}, RpKV K W H ks kvs → RpKV K W H (ks.map fun kv => if kv.1 = k then (kv.1, v) else kv) (kvs.map fun kv => if kv.1 = k then (kv.1, d) else kv)
  | _, _, .nil => .nil
  | _, _, @RpKV.cons _ _ _ k' v' vs d' ds a b => by
    simp only [List.map_cons]
    by_cases e : k' = k
    · rw [if_pos e, if_pos e]; exact .cons hv (RpKV.putMap hv b)
    · rw [if_neg e, if_neg e]; exact .cons a (RpKV.putMap hv b)
theorem RpKV.put {k : Key} {v : V} {d : PyData} (hv : Rp K W H v d) {ks : List (Key × V)} {kvs : List (Key × PyData)} (h : RpKV K W H ks kvs) : RpKV K W H (putK ks k v) (putD kvs k d) := by
  unfold putK putD
  rw [h.any (p := fun x => decide (x = k))]
  split
  · exact h.putMap hv
  · exact h.app (.cons hv .nil)
theorem RpKV.drop {k : Key} : ∀ {ks : List (Key × V)} {kvs : List (Key × PyData)}, RpKV K W H ks kvs → RpKV K W H (dropK ks k) (dropD kvs k)
  | _, _, .nil => .nil
  | _, _, @RpKV.cons _ _ _ k' v' vs d' ds a b => by
    unfold dropK dropD
    simp only [List.filter_cons]
    by_cases e : k' = k
    · simp only [e, ne_eq, not_true_eq_false, decide_false, Bool.false_eq_true, if_false]; exact RpKV.drop b
    · simp only [e, ne_eq, not_false_eq_true, decide_true, if_true]; exact .cons a (RpKV.drop b)
theorem RpKV.len : ∀ {ks : List (Key × V)} {kvs : List (Key × PyData)}, RpKV K W H ks kvs → ks.length = kvs.length
  | _, _, .nil => rfl
  | _, _, .cons a b => by simp [RpKV.len b]
/-- a dict that is read: owned, or told frozen -/
def RV.dicR : RV → Option (List (Key × PyData))
  | .nw (.dic k) => some k
  | .pk _ (.dic k) => some k
  | .pk _ (.fdc k) => some k
  | _ => none
theorem dic_opd {v : V} {r : RV} {kvs : List (Key × PyData)} (h : Opd K W H v r) (e : r.dicR = some kvs) : ∃ a ks, v = .ref a ∧ Rd H a (.dK ks) ∧ RpKV K W H ks kvs := by
  unfold RV.dicR at e
  split at e
  · cases e
    obtain ⟨a, ks, h1, h2, h3⟩ := h
    exact ⟨a, ks, h1, .inl h2, h3⟩
  · cases e
    obtain ⟨a, ks, h1, h2, h3⟩ := h
    exact ⟨a, ks, h1, .inl h2, h3⟩
  · cases e
    obtain ⟨a, ks, h1, h2, h3⟩ := h
    exact ⟨a, ks, h1, h2.2, h3⟩
  · cases e
theorem DGet.rd {H : Hp} {a : Addr} {kvs : List (Key × V)} {k : Key} (e : Rd H a (.dK kvs)) : DGet H a (kV k) (valV kvs k) := .inl ⟨kvs, k, e, rfl, rfl⟩
/-- d[k] -/
def gDget (x y : RV) : Option RV := match x.dicR, y.dat with
  | some kvs, some d => match keyD d with
    | some k => (valD kvs k).map RV.d
    | none => none
  | _, _ => none
theorem og_dget : Op2 K (fun x y H Q => ∃ a v, x = V.ref a ∧ DGet H a y (some v) ∧ Q v H) gDget := by
  intro W H v u x y z Q ox oy e k
  unfold gDget at e
  split at e
  · rename_i kvs d e1 e2
    split at e
    · rename_i kk ek
      obtain ⟨a, ks, rfl, ha, rk⟩ := dic_opd ox e1
      have := keyD_ok (oy.root e2) ek
      subst this
      cases ev : valD kvs kk with
      | none => rw [ev] at e; cases e
      | some d' =>
        rw [ev] at e
        cases e
        obtain ⟨w, h1, h2⟩ := rk.val.1 d' ev
        exact ⟨a, w, rfl, by rw [← h1]; exact DGet.rd ha, k _ H W Ext.refl h2⟩
    · cases e
  · cases e
def gDin (neg : Bool) (y x : RV) : Option RV := match x.dicR, y.dat with
  | some kvs, some d => match keyD d with
    | some k => some (.d (.bool (if neg = true then !(valD kvs k).isSome else (valD kvs k).isSome)))
    | none => none
  | _, _ => none
theorem din_ok {neg : Bool} {W : Own} {H : Hp} {v u : V} {x y z : RV} (oy : Opd K W H v x) (ox : Opd K W H u y) (e : gDin neg x y = some z) : ∃ a o, u = V.ref a ∧ DGet H a v o ∧ z = .d (.bool (if neg = true then !o.isSome else o.isSome)) := by
  unfold gDin at e
  split at e
  · rename_i kvs d e1 e2
    split at e
    · rename_i kk ek
      cases e
      obtain ⟨a, ks, rfl, ha, rk⟩ := dic_opd ox e1
      have := keyD_ok (oy.root e2) ek
      subst this
      refine ⟨a, _, rfl, DGet.rd ha, ?_⟩
      have : (valV ks kk).isSome = (valD kvs kk).isSome := by
        cases ev : valD kvs kk with
        | none => rw [rk.val.2 ev]; rfl
        | some d' =>
          obtain ⟨w, h1, h2⟩ := rk.val.1 d' ev
          rw [h1]; rfl
      rw [this]
    · cases e
  · cases e
theorem og_din : Op2 K (fun y x H Q => ∃ a o, x = V.ref a ∧ DGet H a y o ∧ Q (.bl o.isSome) H) (gDin false) := by
  intro W H v u y x z Q oy ox e k
  obtain ⟨a, o, h1, h2, h3⟩ := din_ok oy ox e
  subst h3
  exact ⟨a, o, h1, h2, k _ H W Ext.refl .bl⟩
theorem og_dnotin : Op2 K (fun y x H Q => ∃ a o, x = V.ref a ∧ DGet H a y o ∧ Q (.bl !o.isSome) H) (gDin true) := by
  intro W H v u y x z Q oy ox e k
  obtain ⟨a, o, h1, h2, h3⟩ := din_ok oy ox e
  subst h3
  exact ⟨a, o, h1, h2, k _ H W Ext.refl .bl⟩
end
section
variable {X : Cx} {G : GC} {b b1 b2 : Bool} {o i e f : Expr} {m k l : ME} {pos : Pos}
theorem ev_dict0 : EV true X G (.Dict [] [] pos) (fun S => .ok (.nw (.dic [])) S) :=
  ⟨pe_dnewK.imp fun σ H Q ⟨S, W, c, q⟩ => fun p np => by
    have ex : Ext W H (setW W p (.own [0])) (upd H p (.dK [])) := ext_new (K := X.K) np
    exact q (.ref p) _ _ ex (c.ext ex) (.dic setW_same upd_same .nil)⟩
theorem ev_dget (hu : X.A.units + 64 < cLine) (ho : EV b1 X G o m) (hi : EV b2 X G i k) (hs : NoSl i := by exact fun _ _ => rfl) : EV (b1 && b2) X G (.Subscript o i pos) (mop2 b2 gDget m k) :=
  ⟨(pe_dget (by omega) ho.pe hi.pe hs).imp fun σ H Q q => run2 og_dget q⟩
theorem ev_din (hu : X.A.units + 64 < cLine) (hi : EV b1 X G i m) (ho : EV b2 X G o k) (h1 : behindInMarks .In o = false := by with_unfolding_all rfl) : EV (b1 && b2) X G (.Compare i [.In] [o] pos) (mop2 b2 (gDin false) m k) :=
  ⟨(pe_cmp (pc_din (by omega) hi.pe ho.pe) h1).imp fun σ H Q q => run2 og_din q⟩
theorem ev_dnotin (hu : X.A.units + 64 < cLine) (hi : EV b1 X G i m) (ho : EV b2 X G o k) (h1 : behindInMarks .NotIn o = false := by with_unfolding_all rfl) : EV (b1 && b2) X G (.Compare i [.NotIn] [o] pos) (mop2 b2 (gDin true) m k) :=
  ⟨(pe_cmp (pc_dnotin (by omega) hi.pe ho.pe) h1).imp fun σ H Q q => run2 og_dnotin q⟩
theorem tv_din (hu : X.A.units + 64 < cLine) (hi : EV b1 X G i m) (ho : EV b2 X G o k) (h1 : behindInMarks .In o = false := by with_unfolding_all rfl) : TV (b1 && b2) X G (.Compare i [.In] [o] pos) (tobool (mop2 b2 (gDin false) m k)) :=
  ⟨(pt_cmp (pc_din (by omega) hi.pe ho.pe) h1).imp fun σ H Q q => by
    have h1 := run_tob q
    exact run2 og_din h1⟩
theorem tv_dnotin (hu : X.A.units + 64 < cLine) (hi : EV b1 X G i m) (ho : EV b2 X G o k) (h1 : behindInMarks .NotIn o = false := by with_unfolding_all rfl) : TV (b1 && b2) X G (.Compare i [.NotIn] [o] pos) (tobool (mop2 b2 (gDin true) m k)) :=
  ⟨(pt_cmp (pc_dnotin (by omega) hi.pe ho.pe) h1).imp fun σ H Q q => by
    have h1 := run_tob q
    exact run2 og_dnotin h1⟩
end
end M

set_option maxHeartbeats 2000000
/-! M17: list(range(..)). Own work. -/
namespace M
open PySem PySem.Spec PyProof.Rows L2

def rgD (a b : Int) : List PyData := (List.range (b - a).toNat).map fun i => PyData.int (a + (i : Nat))
theorem rg_rp {K : Frag} {W : Own} {H : Hp} {a b : Int} : RpAll K W H (rgV a b) (rgD a b) := by
  unfold rgV rgD
  generalize (b - a).toNat = n
  suffices h : ∀ l : List Nat, RpAll K W H (l.map fun i => V.int (a + (i : Nat))) (l.map fun i => PyData.int (a + (i : Nat))) from h _
  intro l
  induction l with
  | nil => exact .nil
  | cons x r ih => exact .cons .int ih
def smR (i : Int) : Bool := decide (-8388608 ≤ i) && decide (i ≤ 8388608)
theorem smR_ok {a b : Int} (ha : smR a = true) (hb : smR b = true) : RgOk a b := by
  unfold smR at ha hb
  simp only [Bool.and_eq_true, decide_eq_true_eq] at ha hb
  exact ⟨by omega, by omega, by omega, by omega, by omega⟩
section
variable {X : Cx} {G : GC} {b b1 b2 : Bool} {a c : Expr} {m k : ME} {p pos p2 q : Pos}
def mLR1 (m : ME) : ME := fun S => (m S).bind fun r S1 => match r with
  | .d (.int j) => if smR j = true then .ok (.nw (.lst (rgD 0 j))) S1 else .stuck
  | _ => .stuck
def mLR2 (m k : ME) : ME := fun S => (m S).bind fun r S1 => match r with
  | .d (.int i) => (k S1).bind fun r2 S2 => match r2 with
    | .d (.int j) => if (smR i && smR j) = true then .ok (.nw (.lst (rgD i j))) S2 else .stuck
    | _ => .stuck
  | _ => .stuck
theorem new_lstQ {K : Frag} {σ : L2.St} {W : Own} {H : Hp} {S1 : MS} {xs : List V} {ds : List PyData} {Q : VK} (c1 : Conc K G S1 σ H W) (r : RpAll K W H xs ds)
    (q1 : okR (relV K σ) K G b W H σ Q (.ok (.nw (.lst ds)) S1)) : ∀ l, H l = none → Q (.ref l) (upd H l (.lst xs)) := fun l np => by
  have ex : Ext W H (setW W l (.own [0])) (upd H l (.lst xs)) := ext_new (K := K) np
  exact q1 (.ref l) _ _ (Stp.of ex) (c1.ext ex) (.lst setW_same upd_same (r.fz ex.fz))
theorem ev_listRg1 (hm : X.mg "list" = none) (hm2 : X.mg "range" = none) (h : EV b X G a m) (hc : X.calm = true := by rfl) (hg : Gl X "list" := by rfl) (hg2 : Gl X "range" := by rfl)
    (na : starEach [a] X.env = (false, eval a X.env) :: starEach [] X.env := by rfl) (nb : starEach [.Call (.Name "range" p) [a] [] pos] X.env = (false, eval (.Call (.Name "range" p) [a] [] pos) X.env) :: starEach [] X.env := by rfl) :
    EV b X G (.Call (.Name "list" p2) [.Call (.Name "range" p) [a] [] pos] [] q) (mLR1 m) :=
  ⟨(pe_listRg hc hg hm (prg_1 hg2 hm2 h.pe na) nb).imp fun σ H Q ⟨S, W, cc, q⟩ => ⟨S, W, cc, (okR.one q).imp fun v H1 ⟨x, S1, W1, st, c1, rv, q1⟩ => by
    split at q1
    · rename_i j
      have rv : Rp _ W1 H1 v (.int j) := rv
      cases rv
      split at q1
      · rename_i hj
        exact ⟨j, rfl, smR_ok (by decide) hj, new_lstQ c1 rg_rp q1⟩
      · exact q1.elim
    · exact q1.elim⟩⟩
theorem ev_listRg2 (hm : X.mg "list" = none) (hm2 : X.mg "range" = none) (h : EV b X G a m) (h2 : EV true X G c k) (hc : X.calm = true := by rfl) (hg : Gl X "list" := by rfl) (hg2 : Gl X "range" := by rfl)
    (na : starEach [a, c] X.env = (false, eval a X.env) :: starEach [c] X.env := by rfl) (na2 : starEach [c] X.env = (false, eval c X.env) :: starEach [] X.env := by rfl) (hp : (backTo pos (starEach [c] X.env)).any (·.1) = false := by rfl)
    (nb : starEach [.Call (.Name "range" p) [a, c] [] pos] X.env = (false, eval (.Call (.Name "range" p) [a, c] [] pos) X.env) :: starEach [] X.env := by rfl) :
    EV b X G (.Call (.Name "list" p2) [.Call (.Name "range" p) [a, c] [] pos] [] q) (mLR2 m k) :=
  ⟨(pe_listRg hc hg hm (prg_2 hg2 hm2 h.pe h2.pe na na2 hp) nb).imp fun σ H Q ⟨S, W, cc, q⟩ => ⟨S, W, cc, (okR.one q).imp fun v H1 ⟨x, S1, W1, st, c1, rv, q1⟩ => by
    split at q1
    · rename_i i
      have rv : Rp _ W1 H1 v (.int i) := rv
      cases rv
      refine ⟨S1, W1, c1, (okR.one q1).imp fun u H2 ⟨y, S2, W2, st2, c2, rv2, q2⟩ => ?_⟩
      split at q2
      · rename_i j
        have rv2 : Rp _ W2 H2 u (.int j) := rv2
        cases rv2
        split at q2
        · rename_i hj
          simp only [Bool.and_eq_true] at hj
          exact ⟨i, j, rfl, rfl, smR_ok hj.1 hj.2, new_lstQ c2 rg_rp q2⟩
        · exact q2.elim
      · exact q2.elim
    · exact q1.elim⟩⟩
end
end M

set_option maxHeartbeats 2000000
/-! M18: the end of a law: the law's def computes true. Own work. -/
namespace M
open PySem PySem.Spec PyProof.Rows L2

theorem kt_of {K : Frag} {x : Str} {vs : List He.Dv} (h : He.tupB K x vs = true) : KT K (He.ga K x) (vs.map (He.Dv.v K)) := by
  rcases He.tupB_ok h (fun _ => none) with h | h
  · rcases h with h | ⟨_, h⟩ <;> cases h
  · exact h
/-- an object that is no list -/
def noLst (q : Addr × Obj) : Bool := match q.2.cls with
  | .type c => !(c == "list")
  | _ => true
theorem lookup_in {a : Addr} {o : Obj} : ∀ {l : List (Addr × Obj)}, l.lookup a = some o → (a, o) ∈ l
  | [], h => by cases h
  | (b, u) :: r, h => by
    rw [List.lookup_cons] at h
    split at h
    · rename_i e
      cases h
      rw [show a = b from by simpa using e]
      exact List.mem_cons_self
    · exact List.mem_cons_of_mem _ (lookup_in h)
/-- the script: a frozen list of whole numbers -/
theorem start_law {K : Frag} {H : Hp} {a : Addr} {ns : List Int} {f : MF} {ts : List MV} (hK : K.all noLst = true) (hS : SqL K H a (ns.map V.int)) (e : f [.d (.list (ns.map PyData.int))] = .ok (.d (.bool true)) ts) :
    spM K 1 f [.ref a] H (fun v _ => v = .bl true) fun _ _ _ => False := by
  rcases hS with hS | ⟨o, its, n, h1, h2, _⟩
  · refine ⟨rfl, fun b => if b = a then .frz else .out, [.d (.list (ns.map PyData.int))], .cons (.d (.lst ⟨if_pos rfl, hS⟩ (rpInts ns))) .nil, ?_⟩
    rw [e]
    intro v H' W' _ _ r
    have r : Rp K W' H' v (.bool true) := r
    cases r
    rfl
  · have := List.all_eq_true.mp hK _ (lookup_in h1)
    unfold noLst at this
    rw [h2] at this
    cases this
/-- the end: a law whose def computes true of every script -/
theorem walk_M {l : PySem.W.OpenLaw} {n k : Nat} {q : Program} {loose : List Str} {XP : (Str → Option Value) → Heap → Prop} {YP : World → Heap → Prop} {d : DefRec} {x : Str} {f : MF}
    (most : l.most = some n) (small : n ≤ sizeLine) (nodef : d.params.defaults = []) (room : Room k callerA) (truth : ∀ ns : List Int, ns.length ≤ n → (∀ z ∈ ns, Builtin.Int.intBits z ≤ 1048576) → ∃ ts, f [.d (.list (ns.map PyData.int))] = .ok (.d (.bool true)) ts)
    (F : ∀ (w : World) (mg : Str → Option Value) (fa : Addr) (h : Heap), YP w h → h.Ns mainGlobals mg → mg d.name = some (.ref fa) →
      ∃ (K : Frag) (fd : FuncData), K.In h ∧ K.all noLst = true ∧ (∀ (s : Shared) (u : Value), BindsTo s fd ⟨[u], []⟩ [(x, u)]) ∧ ∀ base : Heap, K.In base → base.Ns mainGlobals mg → FnOk l.prog w K mg base (L2.CX l.prog w) k fa fd [x] (spM K 1 f)) :
    PySem.W.WalkO q loose XP YP l.row.toRowW d [] (fun f vs => PySem.call f vs) := by
  refine Att.attach_callB most nodef fun w s₀ s₁ mg mb fa o pm cd doc a vs ns G Y ho hd hcd hmg hobj hints hlen hbits hg => ?_
  obtain ⟨K, fd, KX, noL, hb, hF⟩ := F w mg fa _ Y G.T.g hmg
  obtain ⟨ts, e⟩ := truth ns hlen hbits
  exact law_call KX G.T.g G.T.b G.T.builtins G.T.nolimit hg hobj hints (Nat.le_trans hlen small) room hF hb (fun H _ hS => start_law noL hS e) fun H e s' ⟨_, _, _, _, _, _, _, _, _, _, _, _, z⟩ => z
end M

set_option maxHeartbeats 2000000
/-! M19: reckoning with models. Own work. -/
namespace M
open PySem PySem.Spec PyProof.Rows L2

@[simp] theorem bind_ok {α β : Type} (a : α) (S : MS) (k : α → MS → R β) : (R.ok a S).bind k = k a S := Eq.trans rfl rfl
@[simp] theorem bind_exc {α β : Type} (c : Str) (S : MS) (k : α → MS → R β) : (R.exc c S : R α).bind k = .exc c S := Eq.trans rfl rfl
@[simp] theorem toS_ok {α : Type} (a : α) (S : MS) (f : α → MS → RS) : (R.ok a S).toS f = f a S := Eq.trans rfl rfl
@[simp] theorem toS_exc {α : Type} (c : Str) (S : MS) (f : α → MS → RS) : (R.exc c S : R α).toS f = .exc c S := Eq.trans rfl rfl
@[simp] theorem toR_some (z : RV) (S : MS) : toR (some z) S = .ok z S := Eq.trans rfl rfl
@[simp] theorem msel_some (z : RV) (k : RV → R RV) : msel (some z) k = k z := Eq.trans rfl rfl
@[simp] theorem msel'_some {α : Type} (z : RV) (k : RV → R α) : msel' (some z) k = k z := Eq.trans rfl rfl
@[simp] theorem mdatas_some {α : Type} (z : List PyData) (k : List PyData → R α) : mdatas (some z) k = k z := Eq.trans rfl rfl
@[simp] theorem setS_some (i : Nat) (t : MV) (S : MS) : setS i (some t) S = .nx (S.set i (some t)) := Eq.trans rfl rfl
@[simp] theorem toI_some (ds : List PyData) (S : MS) : toI (some ds) S = .ok ds S := Eq.trans rfl rfl
@[simp] theorem stab_d (fl : Bool) (x : PyData) : stab fl (.d x) = some (.d x) := by cases fl <;> rfl
@[simp] theorem stab_t (r : RV) : stab true r = some r := Eq.trans rfl rfl
@[simp] theorem stab_l (ds : List PyData) : stab false (.nw (.lst ds)) = some (.d (.list ds)) := Eq.trans rfl rfl
@[simp] theorem sarg_d (fl : Bool) (x : PyData) : sarg fl (.d x) = some (.d x) := Eq.trans rfl rfl
@[simp] theorem sarg_l (fl : Bool) (ds : List PyData) : sarg fl (.nw (.lst ds)) = some (.d (.list ds)) := Eq.trans rfl rfl
@[simp] theorem sarg_p (p : Path) (ds : List PyData) : sarg true (.pk p (.lst ds)) = some (.pk p (.lst ds)) := Eq.trans rfl rfl
@[simp] theorem dat_d (x : PyData) : RV.dat (.d x) = some x := Eq.trans rfl rfl
@[simp] theorem dat_l (ds : List PyData) : RV.dat (.nw (.lst ds)) = some (.list ds) := Eq.trans rfl rfl
@[simp] theorem dat_p (p : Path) (ds : List PyData) : RV.dat (.pk p (.lst ds)) = some (.list ds) := Eq.trans rfl rfl
@[simp] theorem lift2_dd (g : PyData → PyData → Option RV) (x y : RV) (d e : PyData) (hx : x.dat = some d) (hy : y.dat = some e) : lift2 g x y = g d e := by unfold lift2; rw [hx, hy]
@[simp] theorem lift1_d (g : PyData → Option RV) (x : RV) (d : PyData) (hx : x.dat = some d) : lift1 g x = g d := by unfold lift1; rw [hx]
@[simp] theorem finF_some {n : Nat} {S : MS} {ts : List MV} (h : tkA n S = some ts) (k : List MV → RF) : finF n S k = k ts := by unfold finF; rw [h]
@[simp] theorem callR_d (fl : Bool) (f : MF) (rs : List RV) (S : MS) (h : pks rs 0 = []) : callR fl f rs S = (f (rs.map RV.tree)).toR none S := by unfold callR; rw [h]
theorem callR_p (f : MF) (rs : List RV) (S : MS) {jp : Nat × Path} (h : pks rs 0 = [jp]) : callR false f rs S = (f (rs.map RV.tree)).toR (some jp) S := by unfold callR; rw [h]; rfl

@[simp] theorem datL_d (ds : List PyData) : datL (.d (.list ds)) = some ds := Eq.trans rfl rfl
@[simp] theorem datL_n (ds : List PyData) : datL (.nw (.lst ds)) = some ds := Eq.trans rfl rfl
@[simp] theorem datL_p (p : Path) (ds : List PyData) : datL (.pk p (.lst ds)) = some ds := Eq.trans rfl rfl
@[simp] theorem datT_d (ds : List PyData) : datT (.d (.tuple ds)) = some ds := Eq.trans rfl rfl
def RS.seq (r : RS) (k : MSt) : RS := match r with
  | .nx S1 => k S1
  | r => r
@[simp] theorem mseq_ap (m k : MSt) (s : Option MV) (S : MS) : mseq m k (s :: S) = (m (s :: S)).seq k := Eq.trans rfl rfl
@[simp] theorem seq_nx (S : MS) (k : MSt) : (RS.nx S).seq k = k S := Eq.trans rfl rfl
@[simp] theorem seq_rt (r : RV) (S : MS) (k : MSt) : (RS.rt r S).seq k = .rt r S := Eq.trans rfl rfl
@[simp] theorem seq_bk (S : MS) (k : MSt) : (RS.bk S).seq k = .bk S := Eq.trans rfl rfl
@[simp] theorem seq_ct (S : MS) (k : MSt) : (RS.ct S).seq k = .ct S := Eq.trans rfl rfl
@[simp] theorem seq_exc (c : Str) (S : MS) (k : MSt) : (RS.exc c S).seq k = .exc c S := Eq.trans rfl rfl
def RS.tr (r : RS) (k : Str → MS → RS) : RS := match r with
  | .exc c S1 => k c S1
  | r => r
theorem mtry_ap (cs : List Str) (m : MSt) (hs : List (Str × MSt)) (S : MS) : mtry cs m hs S = (m S).tr (mhandle cs hs) := rfl
@[simp] theorem tr_nx (S : MS) (k : Str → MS → RS) : (RS.nx S).tr k = .nx S := Eq.trans rfl rfl
@[simp] theorem tr_rt (r : RV) (S : MS) (k : Str → MS → RS) : (RS.rt r S).tr k = .rt r S := Eq.trans rfl rfl
@[simp] theorem tr_exc (c : Str) (S : MS) (k : Str → MS → RS) : (RS.exc c S).tr k = k c S := Eq.trans rfl rfl
def finB (n : Nat) : RS → RF
  | .rt r S => outF r fun x => finF n S fun us => .ok x us
  | .nx S => finF n S fun us => .ok (.d .none) us
  | .exc c S => finF n S fun us => .exc c us
  | _ => .stuck
theorem fnM_ap (n N : Nat) (body : MSt) (ts : List MV) : fnM n N body ts = finB n (body (ts.map some ++ List.replicate (N - n) none)) := by
  unfold fnM finB
  cases body (ts.map some ++ List.replicate (N - n) none) <;> rfl
@[simp] theorem finB_rt (n : Nat) (r : RV) (S : MS) : finB n (.rt r S) = outF r fun x => finF n S fun us => .ok x us := Eq.trans rfl rfl
@[simp] theorem finB_nx (n : Nat) (S : MS) : finB n (.nx S) = finF n S fun us => .ok (.d .none) us := Eq.trans rfl rfl
@[simp] theorem finB_exc (n : Nat) (c : Str) (S : MS) : finB n (.exc c S) = finF n S fun us => .exc c us := Eq.trans rfl rfl
@[simp] theorem outF_d (x : PyData) (k : RV → RF) : outF (.d x) k = k (.d x) := Eq.trans rfl rfl
@[simp] theorem outF_n (t : MV) (k : RV → RF) : outF (.nw t) k = k (.nw t) := Eq.trans rfl rfl
@[simp] theorem outF_p (p : Path) (x : PyData) (k : RV → RF) : outF (.pk p (.d x)) k = k (.d x) := Eq.trans rfl rfl
@[simp] theorem finF_0 (S : MS) (k : List MV → RF) : finF 0 S k = k [] := Eq.trans rfl rfl
@[simp] theorem finF_s (n : Nat) (t : MV) (S : MS) (k : List MV → RF) : finF (n + 1) (some t :: S) k = finF n S fun ts => k (t :: ts) := by
  unfold finF
  show (match (match tkA n S with
    | some ts => some (t :: ts)
    | none => none) with
    | some ts => k ts
    | none => RF.stuck) = _
  cases tkA n S <;> rfl
@[simp] theorem fto_ok0 (r : RV) (ts : List MV) (S : MS) : (RF.ok r ts).toR none S = .ok r S := Eq.trans rfl rfl
@[simp] theorem fto_exc0 (c : Str) (ts : List MV) (S : MS) : (RF.exc c ts).toR none S = .exc c S := Eq.trans rfl rfl
@[simp] theorem fto_ok1 (r : RV) (ts : List MV) (S : MS) (j : Nat) (p : Path) (n : MV) (h : ts[j]? = some n) : (RF.ok r ts).toR (some (j, p)) S = .ok r (updS p n S) := by
  unfold RF.toR
  simp only [h]
@[simp] theorem fto_exc1 (c : Str) (ts : List MV) (S : MS) (j : Nat) (p : Path) (n : MV) (h : ts[j]? = some n) : (RF.exc c ts).toR (some (j, p)) S = .exc c (updS p n S) := by
  unfold RF.toR
  simp only [h]
@[simp] theorem tree_d (x : PyData) : RV.tree (.d x) = .d x := Eq.trans rfl rfl
@[simp] theorem tree_n (x : MV) : RV.tree (.nw x) = x := Eq.trans rfl rfl
@[simp] theorem tree_p (p : Path) (x : MV) : RV.tree (.pk p x) = x := Eq.trans rfl rfl
@[simp] theorem pks_nil (j : Nat) : pks [] j = [] := Eq.trans rfl rfl
@[simp] theorem pks_d (x : PyData) (r : List RV) (j : Nat) : pks (.d x :: r) j = pks r (j + 1) := Eq.trans rfl rfl
@[simp] theorem pks_n (x : MV) (r : List RV) (j : Nat) : pks (.nw x :: r) j = pks r (j + 1) := Eq.trans rfl rfl
@[simp] theorem pks_p (p : Path) (x : MV) (r : List RV) (j : Nat) : pks (.pk p x :: r) j = (j, p) :: pks r (j + 1) := Eq.trans rfl rfl
@[simp] theorem datas_nil : datas [] = some [] := Eq.trans rfl rfl
@[simp] theorem datas_d (x : PyData) (r : List RV) : datas (.d x :: r) = (datas r).map fun xs => x :: xs := by
  show (match datas r with
    | some xs => some (x :: xs)
    | none => none) = _
  cases datas r <;> rfl
@[simp] theorem keep_d (x : PyData) : RV.keep (.d x) = some (.d x) := Eq.trans rfl rfl
@[simp] theorem keep_n (x : MV) : RV.keep (.nw x) = some x := Eq.trans rfl rfl
@[simp] theorem keepF_d (x : PyData) : RV.keepF (.d x) = some (.d x) := Eq.trans rfl rfl
@[simp] theorem keepF_l (x : List PyData) : RV.keepF (.nw (.lst x)) = some (.d (.list x)) := Eq.trans rfl rfl
@[simp] theorem keepF_o (c : Str) (x : List (Str × MV)) : RV.keepF (.nw (.obj c x)) = some (.obj c x) := Eq.trans rfl rfl
@[simp] theorem keepF_dic (x : List (Key × PyData)) : RV.keepF (.nw (.dic x)) = some (.dic x) := Eq.trans rfl rfl
@[simp] theorem truR_d (x : PyData) : truR (.d x) = truD x := Eq.trans rfl rfl
@[simp] theorem truR_n (x : List PyData) : truR (.nw (.lst x)) = some (!x.isEmpty) := Eq.trans rfl rfl
@[simp] theorem truR_p (p : Path) (x : List PyData) : truR (.pk p (.lst x)) = some (!x.isEmpty) := Eq.trans rfl rfl
@[simp] theorem truR_pd (p : Path) (x : List (Key × PyData)) : truR (.pk p (.dic x)) = some (!x.isEmpty) := Eq.trans rfl rfl
@[simp] theorem truD_none : truD .none = some false := Eq.trans rfl rfl
@[simp] theorem truD_bool (b : Bool) : truD (.bool b) = some b := Eq.trans rfl rfl
@[simp] theorem truD_int (i : Int) : truD (.int i) = some (i != 0) := Eq.trans rfl rfl
@[simp] theorem truD_list (ds : List PyData) : truD (.list ds) = some (!ds.isEmpty) := Eq.trans rfl rfl
@[simp] theorem truD_tuple (ds : List PyData) : truD (.tuple ds) = some (!ds.isEmpty) := Eq.trans rfl rfl
@[simp] theorem mvar_d {i : Nat} {x : PyData} {S : MS} (h : S[i]? = some (some (.d x))) : mvar i S = .ok (.d x) S := by unfold mvar; rw [h]
@[simp] theorem mvar_l {i : Nat} {x : List PyData} {S : MS} (h : S[i]? = some (some (.lst x))) : mvar i S = .ok (.pk [i + 1] (.lst x)) S := by unfold mvar; rw [h]
@[simp] theorem mvar_dic {i : Nat} {x : List (Key × PyData)} {S : MS} (h : S[i]? = some (some (.dic x))) : mvar i S = .ok (.pk [i + 1] (.dic x)) S := by unfold mvar; rw [h]
@[simp] theorem mvar_o {i : Nat} {c : Str} {x : List (Str × MV)} {S : MS} (h : S[i]? = some (some (.obj c x))) : mvar i S = .ok (.pk [i + 1] (.obj c x)) S := by unfold mvar; rw [h]
@[simp] theorem mretV_d {i : Nat} {x : PyData} {S : MS} (h : S[i]? = some (some (.d x))) : mretV i S = .rt (.d x) S := by unfold mretV; rw [h]
@[simp] theorem mretV_l {i : Nat} {x : List PyData} {S : MS} (h : S[i]? = some (some (.lst x))) : mretV i S = .rt (.nw (.lst x)) (S.set i none) := by unfold mretV; rw [h]
@[simp] theorem mfzV_d {i : Nat} {x : PyData} {S : MS} (h : S[i]? = some (some (.d x))) : mfzV i S = .ok (.d x) S := by unfold mfzV; rw [h]
@[simp] theorem mfzV_l {i : Nat} {x : List PyData} {S : MS} (h : S[i]? = some (some (.lst x))) : mfzV i S = .ok (.d (.list x)) (S.set i (some (.d (.list x)))) := by unfold mfzV; rw [h]
@[simp] theorem maug_i {i : Nat} {f : Int → Int → Int} {m : ME} {x y : Int} {S S1 : MS} (h : S[i]? = some (some (.d (.int x)))) (h2 : m S = .ok (.d (.int y)) S1) : maug i f m S = .nx (S1.set i (some (.d (.int (f x y))))) := by
  unfold maug
  rw [h]
  simp only [h2, toS_ok]
@[simp] theorem mlmV_l {i : Nat} {g : List PyData → PyData → Option (List PyData × PyData)} {me : ME} {l0 : List PyData} {S : MS} (h : S[i]? = some (some (.lst l0))) : mlmV i g me S = (me S).bind fun y S2 => match stab false y, S2[i]? with
    | some (.d y), some (some (.lst ds)) => putL [i + 1] (g ds y) S2
    | _, _ => .stuck := by
  unfold mlmV
  rw [h] <;> rfl
@[simp] theorem putL_some (p : Path) (ds : List PyData) (z : PyData) (S : MS) : putL p (some (ds, z)) S = .ok (.d z) (updS p (.lst ds) S) := Eq.trans rfl rfl
@[simp] theorem updS_1 {i : Nat} {n t : MV} {S : MS} (h : S[i]? = some (some t)) : updS [i + 1] n S = S.set i (some n) := by
  unfold updS
  simp only [List.reverse_cons, List.reverse_nil, List.nil_append, h, updT]
@[simp] theorem gAppend_ok {ds : List PyData} {y : PyData} (h : ds.length < 16777216) : gAppend ds y = some (ds ++ [y], .none) := by unfold gAppend; rw [if_pos h]
@[simp] theorem gExtend_ok {ds es : List PyData} (h : ds.length + es.length ≤ 16777216) : gExtend ds (.list es) = some (ds ++ es, .none) := by
  show (if ds.length + es.length ≤ 16777216 then some (ds ++ es, PyData.none) else none) = _
  rw [if_pos h]
@[simp] theorem gLe_ap (i j : Int) : gLe (.int i) (.int j) = some (.d (.bool (decide (i ≤ j)))) := Eq.trans rfl rfl
@[simp] theorem gLt_ap (i j : Int) : gLt (.int i) (.int j) = some (.d (.bool (decide (i < j)))) := Eq.trans rfl rfl
@[simp] theorem gGe_ap (i j : Int) : gGe (.int i) (.int j) = some (.d (.bool (decide (j ≤ i)))) := Eq.trans rfl rfl
@[simp] theorem gGt_ap (i j : Int) : gGt (.int i) (.int j) = some (.d (.bool (decide (j < i)))) := Eq.trans rfl rfl
@[simp] theorem gAdd_ii (i j : Int) : gAdd (.int i) (.int j) = some (.d (.int (i + j))) := Eq.trans rfl rfl
@[simp] theorem gAdd_ll {xs ys : List PyData} (h : xs.length + ys.length ≤ 16777216) : gAdd (.list xs) (.list ys) = some (.nw (.lst (xs ++ ys))) := by
  show (if xs.length + ys.length ≤ 16777216 then some (RV.nw (.lst (xs ++ ys))) else none) = _
  rw [if_pos h]
@[simp] theorem gAdd_tt {xs ys : List PyData} (h : xs.length + ys.length ≤ 16777216) : gAdd (.tuple xs) (.tuple ys) = some (.d (.tuple (xs ++ ys))) := by
  show (if xs.length + ys.length ≤ 16777216 then some (RV.d (.tuple (xs ++ ys))) else none) = _
  rw [if_pos h]
@[simp] theorem gSub_ii (i j : Int) : gSub (.int i) (.int j) = some (.d (.int (i - j))) := Eq.trans rfl rfl
@[simp] theorem gMod_ii {i j : Int} (h : 0 < j) : gMod (.int i) (.int j) = some (.d (.int (i % j))) := if_pos h
@[simp] theorem gFdiv_ii {i j : Int} (h : 0 < j) (h2 : j < 1073741824) : gFdiv (.int i) (.int j) = some (.d (.int (i / j))) := if_pos ⟨h, h2⟩
@[simp] theorem gPow_ii {i j : Int} (h : 0 ≤ j) (h2 : j ≤ 1000000) (h3 : i.natAbs < 18446744073709551616) : gPow (.int i) (.int j) = some (.d (.int (i ^ j.toNat))) := if_pos ⟨h, h2, h3⟩
@[simp] theorem gMulR_l {i j : Int} {y : RV} (hy : y.dat = some (.int j)) (h : -18446744073709551616 < i) (h2 : i < 18446744073709551616) : gMulR (.d (.int i)) y = some (.d (.int (i * j))) := by
  unfold gMulR
  simp only [hy]
  rw [if_pos]
  simp [mulOk, h, h2]
@[simp] theorem gMulR_r {i j : Int} {y : RV} (hy : y.dat = some (.int j)) (h : -18446744073709551616 < j) (h2 : j < 18446744073709551616) : gMulR (.d (.int i)) y = some (.d (.int (i * j))) := by
  unfold gMulR
  simp only [hy]
  rw [if_pos]
  simp [mulOk, h, h2]
@[simp] theorem gNeg_i (i : Int) : gNeg (.int i) = some (.d (.int (-i))) := Eq.trans rfl rfl
@[simp] theorem gLen_l {x : RV} {ds : List PyData} (h : x.dat = some (.list ds)) : gLen x = some (.d (.int ds.length)) := by unfold gLen; rw [h]
@[simp] theorem gLen_t {x : RV} {ds : List PyData} (h : x.dat = some (.tuple ds)) : gLen x = some (.d (.int ds.length)) := by unfold gLen; rw [h]
@[simp] theorem gList_l (ds : List PyData) : gList (.list ds) = some (.nw (.lst ds)) := Eq.trans rfl rfl
@[simp] theorem gList_t (ds : List PyData) : gList (.tuple ds) = some (.nw (.lst ds)) := Eq.trans rfl rfl
@[simp] theorem gTuple_l (ds : List PyData) : gTuple (.list ds) = some (.d (.tuple ds)) := Eq.trans rfl rfl
@[simp] theorem gTuple_t (ds : List PyData) : gTuple (.tuple ds) = some (.d (.tuple ds)) := Eq.trans rfl rfl
@[simp] theorem gInt_i (i : Int) : gInt (.int i) = some (.d (.int i)) := Eq.trans rfl rfl
@[simp] theorem gInt_b (i : Bool) : gInt (.bool i) = some (.d (.int (if i then 1 else 0))) := Eq.trans rfl rfl
@[simp] theorem gRev_l (ds : List PyData) : gRev (.list ds) = some (.nw (.lst ds.reverse)) := Eq.trans rfl rfl
@[simp] theorem gSl_l (ds : List PyData) (lo hi : Option Int) : gSl (.list ds) lo hi = some (.nw (.lst (cutD ds lo hi))) := Eq.trans rfl rfl
@[simp] theorem gSl_t (ds : List PyData) (lo hi : Option Int) : gSl (.tuple ds) lo hi = some (.d (.tuple (cutD ds lo hi))) := Eq.trans rfl rfl
@[simp] theorem gIsi_none (T : String) : gIsi T .none = some (.d (.bool (isiT T .none))) := Eq.trans rfl rfl
@[simp] theorem gIsi_bool (T : String) (x : Bool) : gIsi T (.bool x) = some (.d (.bool (isiT T (.bool x)))) := Eq.trans rfl rfl
@[simp] theorem gIsi_int (T : String) (x : Int) : gIsi T (.int x) = some (.d (.bool (isiT T (.int x)))) := Eq.trans rfl rfl
@[simp] theorem gIsi_str (T : String) (x : Str) : gIsi T (.str x) = some (.d (.bool (isiT T (.str x)))) := Eq.trans rfl rfl
@[simp] theorem gIsi_list (T : String) (x : List PyData) : gIsi T (.list x) = some (.d (.bool (isiT T (.list x)))) := Eq.trans rfl rfl
@[simp] theorem gIsi_tuple (T : String) (x : List PyData) : gIsi T (.tuple x) = some (.d (.bool (isiT T (.tuple x)))) := Eq.trans rfl rfl
@[simp] theorem isi_none (T : String) : isiT T .none = false := by unfold isiT; split <;> simp_all
@[simp] theorem isi_ib (x : Bool) : isiT "int" (.bool x) = true := Eq.trans rfl rfl
@[simp] theorem isi_ii (x : Int) : isiT "int" (.int x) = true := Eq.trans rfl rfl
@[simp] theorem isi_is (x : Str) : isiT "int" (.str x) = false := Eq.trans rfl rfl
@[simp] theorem isi_il (x : List PyData) : isiT "int" (.list x) = false := Eq.trans rfl rfl
@[simp] theorem isi_it (x : List PyData) : isiT "int" (.tuple x) = false := Eq.trans rfl rfl
@[simp] theorem isi_bb (x : Bool) : isiT "bool" (.bool x) = true := Eq.trans rfl rfl
@[simp] theorem isi_bi (x : Int) : isiT "bool" (.int x) = false := Eq.trans rfl rfl
@[simp] theorem isi_bs (x : Str) : isiT "bool" (.str x) = false := Eq.trans rfl rfl
@[simp] theorem isi_bl (x : List PyData) : isiT "bool" (.list x) = false := Eq.trans rfl rfl
@[simp] theorem isi_bt (x : List PyData) : isiT "bool" (.tuple x) = false := Eq.trans rfl rfl
@[simp] theorem isi_sb (x : Bool) : isiT "str" (.bool x) = false := Eq.trans rfl rfl
@[simp] theorem isi_si (x : Int) : isiT "str" (.int x) = false := Eq.trans rfl rfl
@[simp] theorem isi_ss (x : Str) : isiT "str" (.str x) = true := Eq.trans rfl rfl
@[simp] theorem isi_sl (x : List PyData) : isiT "str" (.list x) = false := Eq.trans rfl rfl
@[simp] theorem isi_st (x : List PyData) : isiT "str" (.tuple x) = false := Eq.trans rfl rfl
@[simp] theorem isi_lb (x : Bool) : isiT "list" (.bool x) = false := Eq.trans rfl rfl
@[simp] theorem isi_li (x : Int) : isiT "list" (.int x) = false := Eq.trans rfl rfl
@[simp] theorem isi_ls (x : Str) : isiT "list" (.str x) = false := Eq.trans rfl rfl
@[simp] theorem isi_ll (x : List PyData) : isiT "list" (.list x) = true := Eq.trans rfl rfl
@[simp] theorem isi_lt (x : List PyData) : isiT "list" (.tuple x) = false := Eq.trans rfl rfl
@[simp] theorem isi_tb (x : Bool) : isiT "tuple" (.bool x) = false := Eq.trans rfl rfl
@[simp] theorem isi_ti (x : Int) : isiT "tuple" (.int x) = false := Eq.trans rfl rfl
@[simp] theorem isi_ts (x : Str) : isiT "tuple" (.str x) = false := Eq.trans rfl rfl
@[simp] theorem isi_tl (x : List PyData) : isiT "tuple" (.list x) = false := Eq.trans rfl rfl
@[simp] theorem isi_tt (x : List PyData) : isiT "tuple" (.tuple x) = true := Eq.trans rfl rfl
@[simp] theorem gIs_n (d : PyData) : gIs d .none = some (.d (.bool (isN d))) := by unfold gIs; rfl
@[simp] theorem gIsNot_n (d : PyData) : gIsNot d .none = some (.d (.bool (!isN d))) := by unfold gIsNot; rfl
@[simp] theorem gIs_b (a b : Bool) : gIs (.bool a) (.bool b) = some (.d (.bool (decide (a = b)))) := Eq.trans rfl rfl
@[simp] theorem mret_ap (m : ME) (s : Option MV) (S : MS) : mret m (s :: S) = (m (s :: S)).toS fun r S1 => .rt r S1 := Eq.trans rfl rfl
@[simp] theorem mretN_ap (s : Option MV) (S : MS) : mretN (s :: S) = .rt (.d .none) (s :: S) := Eq.trans rfl rfl
@[simp] theorem mifS_ap (t : MT) (m k : MSt) (s : Option MV) (S : MS) : mifS t m k (s :: S) = (t (s :: S)).toS fun c S1 => if c = true then m S1 else k S1 := Eq.trans rfl rfl
@[simp] theorem mset_ap (i : Nat) (m : ME) (s : Option MV) (S : MS) : mset i m (s :: S) = (m (s :: S)).toS fun r S1 => setS i r.keep S1 := Eq.trans rfl rfl
@[simp] theorem msetF_ap (i : Nat) (m : ME) (s : Option MV) (S : MS) : msetF i m (s :: S) = (m (s :: S)).toS fun r S1 => setS i r.keepF S1 := Eq.trans rfl rfl
@[simp] theorem mc_ap (x : PyData) (s : Option MV) (S : MS) : mc x (s :: S) = .ok (.d x) (s :: S) := Eq.trans rfl rfl
@[simp] theorem mop1_ap (g : RV → Option RV) (m : ME) (s : Option MV) (S : MS) : mop1 g m (s :: S) = (m (s :: S)).bind fun x S1 => toR (g x) S1 := Eq.trans rfl rfl
@[simp] theorem mop2_ap (fl : Bool) (g : RV → RV → Option RV) (m k : ME) (s : Option MV) (S : MS) : mop2 fl g m k (s :: S) = (m (s :: S)).bind fun x S1 => msel (stab fl x) fun x1 => (k S1).bind fun y S2 => toR (g x1 y) S2 := Eq.trans rfl rfl
@[simp] theorem mconsA_ap (fl : Bool) (m : ME) (k : ML) (s : Option MV) (S : MS) : mconsA fl m k (s :: S) = (m (s :: S)).bind fun x S1 => msel' (sarg fl x) fun x1 => (k S1).bind fun xs S2 => .ok (x1 :: xs) S2 := Eq.trans rfl rfl
@[simp] theorem mnilA_ap (s : Option MV) (S : MS) : mnilA (s :: S) = .ok [] (s :: S) := Eq.trans rfl rfl
@[simp] theorem mcall_ap (fl : Bool) (f : MF) (ma : ML) (s : Option MV) (S : MS) : mcall fl f ma (s :: S) = (ma (s :: S)).bind fun rs S1 => callR fl f rs S1 := Eq.trans rfl rfl
@[simp] theorem tobool_ap (m : ME) (s : Option MV) (S : MS) : tobool m (s :: S) = (m (s :: S)).bind fun r S1 => match r with
  | .d (.bool c) => .ok c S1
  | _ => .stuck := Eq.trans rfl rfl
@[simp] theorem mtru_ap (m : ME) (s : Option MV) (S : MS) : mtru m (s :: S) = (m (s :: S)).bind fun r S1 => match truR r with
  | some c => .ok c S1
  | none => .stuck := Eq.trans rfl rfl
@[simp] theorem mandT_ap (m k : MT) (s : Option MV) (S : MS) : mandT m k (s :: S) = (m (s :: S)).bind fun c S1 => if c = true then k S1 else .ok false S1 := Eq.trans rfl rfl
@[simp] theorem morT_ap (m k : MT) (s : Option MV) (S : MS) : morT m k (s :: S) = (m (s :: S)).bind fun c S1 => if c = true then .ok true S1 else k S1 := Eq.trans rfl rfl
@[simp] theorem mnotT_ap (m : MT) (s : Option MV) (S : MS) : mnotT m (s :: S) = (m (s :: S)).bind fun c S1 => .ok (!c) S1 := Eq.trans rfl rfl
@[simp] theorem mandV_ap (m k : ME) (s : Option MV) (S : MS) : mandV m k (s :: S) = (m (s :: S)).bind fun r S1 => match r with
  | .d (.bool true) => k S1
  | .d (.bool false) => .ok (.d (.bool false)) S1
  | _ => .stuck := Eq.trans rfl rfl
@[simp] theorem morV_ap (m k : ME) (s : Option MV) (S : MS) : morV m k (s :: S) = (m (s :: S)).bind fun r S1 => match r with
  | .d (.bool true) => .ok (.d (.bool true)) S1
  | .d (.bool false) => k S1
  | _ => .stuck := Eq.trans rfl rfl
@[simp] theorem mnotV_ap (m : ME) (s : Option MV) (S : MS) : mnotV m (s :: S) = (m (s :: S)).bind fun r S1 => match r with
  | .d (.bool c) => .ok (.d (.bool !c)) S1
  | _ => .stuck := Eq.trans rfl rfl
@[simp] theorem mifE_ap (t : MT) (m k : ME) (s : Option MV) (S : MS) : mifE t m k (s :: S) = (t (s :: S)).bind fun c S1 => if c = true then m S1 else k S1 := Eq.trans rfl rfl
@[simp] theorem mtup_ap (m : ML) (s : Option MV) (S : MS) : mtup m (s :: S) = (m (s :: S)).bind fun rs S1 => mdatas (datas rs) fun ds => .ok (.d (.tuple ds)) S1 := Eq.trans rfl rfl
@[simp] theorem mlst_ap (m : ML) (s : Option MV) (S : MS) : mlst m (s :: S) = (m (s :: S)).bind fun rs S1 => mdatas (datas rs) fun ds => .ok (.nw (.lst ds)) S1 := Eq.trans rfl rfl
@[simp] theorem mchain_ap (g g' : RV → RV → Option RV) (m k l : ME) (s : Option MV) (S : MS) : mchain g g' m k l (s :: S) = (m (s :: S)).bind fun x S1 => (k S1).bind fun y S2 => msel (g x y) fun r => match r with
  | .d (.bool true) => (l S2).bind fun z S3 => toR (g' y z) S3
  | .d (.bool false) => .ok (.d (.bool false)) S2
  | _ => .stuck := Eq.trans rfl rfl
@[simp] theorem misi_ap (T : String) (m : ME) (s : Option MV) (S : MS) : misi T m (s :: S) = (mop1 (lift1 (gIsi T)) m) (s :: S) := Eq.trans rfl rfl
@[simp] theorem mnil_ap (s : Option MV) (S : MS) : mnil (s :: S) = .nx (s :: S) := Eq.trans rfl rfl
@[simp] theorem mdrop_ap (m : ME) (s : Option MV) (S : MS) : mdrop m (s :: S) = (m (s :: S)).toS fun _ S1 => .nx S1 := Eq.trans rfl rfl
@[simp] theorem mraise_ap (c : Str) (s : Option MV) (S : MS) : mraise c (s :: S) = .exc c (s :: S) := Eq.trans rfl rfl
@[simp] theorem mfor_ap (mi : MI) (f : MG) (body : MSt) (s : Option MV) (S : MS) : mfor mi f body (s :: S) = (mi (s :: S)).toS fun ds S1 => loopM f body ds S1 := Eq.trans rfl rfl
@[simp] theorem miL_ap (bl : Bool) (m : ME) (s : Option MV) (S : MS) : miL bl m (s :: S) = (m (s :: S)).bind fun r S1 => toI ((stab bl r).bind datL) S1 := Eq.trans rfl rfl
@[simp] theorem miT_ap (m : ME) (s : Option MV) (S : MS) : miT m (s :: S) = (m (s :: S)).bind fun r S1 => toI (datT r) S1 := Eq.trans rfl rfl
def rngK1 (r : RV) (S1 : MS) : R (List PyData) := match r with
  | .d (.int j) => if inR j = true then .ok (rngD 0 1 j.toNat) S1 else .stuck
  | _ => .stuck
theorem rngK1_i {j : Int} {S1 : MS} (h : inR j = true) : rngK1 (.d (.int j)) S1 = .ok (rngD 0 1 j.toNat) S1 := if_pos h
@[simp] theorem miR1_ap (m : ME) (s : Option MV) (S : MS) : miR1 m (s :: S) = (m (s :: S)).bind rngK1 := Eq.trans rfl rfl
def rngK3 (i : Int) (r : RV) (S1 : MS) : R (List PyData) := match r with
  | .d (.int j) => if (inR i && inR j) = true then .ok (rngD i 1 (j - i).toNat) S1 else .stuck
  | _ => .stuck
def rngK2 (k : ME) (r : RV) (S1 : MS) : R (List PyData) := match r with
  | .d (.int i) => (k S1).bind (rngK3 i)
  | _ => .stuck
@[simp] theorem rngK2_i {i : Int} {k : ME} {S1 : MS} : rngK2 k (.d (.int i)) S1 = (k S1).bind (rngK3 i) := Eq.trans rfl rfl
theorem rngK3_i {i j : Int} {S1 : MS} (h : inR i = true) (h2 : inR j = true) : rngK3 i (.d (.int j)) S1 = .ok (rngD i 1 (j - i).toNat) S1 := if_pos (by rw [h, h2]; rfl)
@[simp] theorem miR2_ap (m k : ME) (s : Option MV) (S : MS) : miR2 m k (s :: S) = (m (s :: S)).bind (rngK2 k) := Eq.trans rfl rfl
theorem inR_of {j : Int} (h : -1000000000 ≤ j) (h2 : j ≤ 1000000000) : inR j = true := by
  unfold inR
  simp only [Bool.and_eq_true, decide_eq_true_eq]
  exact ⟨by omega, by omega⟩
@[simp] theorem rngK1_n {n : Nat} {S1 : MS} (h : n ≤ 1000000000) : rngK1 (.d (.int (n : Int))) S1 = .ok (rngD 0 1 n) S1 := by
  rw [rngK1_i (inR_of (by omega) (by omega)), Int.toNat_natCast]
@[simp] theorem rngK1_z {j : Int} {S1 : MS} (h : -1000000000 ≤ j) (h2 : j ≤ 1000000000) : rngK1 (.d (.int j)) S1 = .ok (rngD 0 1 j.toNat) S1 := rngK1_i (inR_of h h2)
@[simp] theorem rngK3_z {i j : Int} {S1 : MS} (h : -1000000000 ≤ i) (h2 : i ≤ 1000000000) (h3 : -1000000000 ≤ j) (h4 : j ≤ 1000000000) : rngK3 i (.d (.int j)) S1 = .ok (rngD i 1 (j - i).toNat) S1 := rngK3_i (inR_of h h2) (inR_of h3 h4)
@[simp] theorem miE_ap (bl : Bool) (m : ME) (s : Option MV) (S : MS) : miE bl m (s :: S) = (m (s :: S)).bind fun r S1 => toI (((stab bl r).bind datL).map fun ds => enumD ds 0) S1 := Eq.trans rfl rfl
@[simp] theorem msl_ap (m : ME) (l h : MO) (s : Option MV) (S : MS) : msl m l h (s :: S) = (m (s :: S)).bind fun r S1 => (l S1).bind fun i S2 => (h S2).bind fun j S3 => toR (lift1 (fun d => gSl d i j) r) S3 := Eq.trans rfl rfl
@[simp] theorem msomeO_ap (m : ME) (s : Option MV) (S : MS) : msomeO m (s :: S) = (m (s :: S)).bind fun r S1 => match r with
  | .d (.int i) => .ok (some i) S1
  | _ => .stuck := Eq.trans rfl rfl
@[simp] theorem mnoO_ap (s : Option MV) (S : MS) : mnoO (s :: S) = .ok none (s :: S) := Eq.trans rfl rfl
@[simp] theorem mpar2_ap (i j : Nat) (ma : ML) (s : Option MV) (S : MS) : mpar2 i j ma (s :: S) = (ma (s :: S)).toS fun rs S1 => match rs with
  | [.d x, .d y] => .nx ((S1.set i (some (.d x))).set j (some (.d y)))
  | _ => .stuck := Eq.trans rfl rfl
@[simp] theorem mpar3_ap (i j l : Nat) (ma : ML) (s : Option MV) (S : MS) : mpar3 i j l ma (s :: S) = (ma (s :: S)).toS fun rs S1 => match rs with
  | [.d x, .d y, .d z] => .nx (((S1.set i (some (.d x))).set j (some (.d y))).set l (some (.d z)))
  | _ => .stuck := Eq.trans rfl rfl
@[simp] theorem masgT_ap (f : MG) (m : ME) (s : Option MV) (S : MS) : masgT f m (s :: S) = (m (s :: S)).toS fun r S1 => match r.dat with
  | some d => match r with
    | .nw _ => .stuck
    | .pk _ (.lst _) => .stuck
    | _ => match f d S1 with
      | some S2 => .nx S2
      | none => .stuck
  | none => .stuck := Eq.trans rfl rfl
@[simp] theorem mlmI_ap (g : List PyData → PyData → Option (List PyData × PyData)) (mo me : ME) (s : Option MV) (S : MS) : mlmI g mo me (s :: S) = (mo (s :: S)).bind fun x S1 => match x with
  | .pk p (.lst ds) => (me S1).bind fun y S2 => match stab false y with
    | some (.d y) => putL p (g ds y) S2
    | _ => .stuck
  | _ => .stuck := Eq.trans rfl rfl
@[simp] theorem mlm0_ap (g : List PyData → Option (List PyData × PyData)) (mo : ME) (s : Option MV) (S : MS) : mlm0 g mo (s :: S) = (mo (s :: S)).bind fun x S1 => match x with
  | .pk p (.lst ds) => putL p (g ds) S1
  | _ => .stuck := Eq.trans rfl rfl
@[simp] theorem mmeth_ap (c nm : Str) (g : MF) (i : Nat) (ma : ML) (s : Option MV) (S : MS) : mmeth c nm g i ma (s :: S) = if isObj c nm (s :: S)[i]? = true then (ma (s :: S)).bind fun rs S1 => match S1[i]? with
    | some (some (.obj c' fs)) => callR false g (.pk [i + 1] (.obj c' fs) :: rs) S1
    | _ => .stuck
  else .stuck := Eq.trans rfl rfl
@[simp] theorem mfld_ap (c f : Str) (m : ME) (s : Option MV) (S : MS) : mfld c f m (s :: S) = (m (s :: S)).bind fun r S1 => match r with
  | .pk p (.obj c' fs) => if c' = c then (match fIx f 0 fs with
    | some (k, t) => .ok (fldV (k :: p) t) S1
    | none => .stuck) else .stuck
  | _ => .stuck := Eq.trans rfl rfl
@[simp] theorem msfld_ap (own : Bool) (c f : Str) (i : Nat) (m : ME) (s : Option MV) (S : MS) : msfld own c f i m (s :: S) = (m (s :: S)).toS fun r S1 => match r.st own, S1[i]? with
  | some t, some (some (.obj c' fs)) => if c' = c ∧ fs.length < 1000 then .nx (updS [i + 1] (.obj c' (putT f t fs)) S1) else .stuck
  | _, _ => .stuck := Eq.trans rfl rfl
@[simp] theorem mmake_ap (c : Str) (g : MF) (ma : ML) (s : Option MV) (S : MS) : mmake c g ma (s :: S) = (ma (s :: S)).bind fun rs S1 => makeR c g rs S1 := Eq.trans rfl rfl
@[simp] theorem mct_ap (s : Option MV) (S : MS) : mct (s :: S) = .ct (s :: S) := Eq.trans rfl rfl
@[simp] theorem mbk_ap (s : Option MV) (S : MS) : mbk (s :: S) = .bk (s :: S) := Eq.trans rfl rfl
@[simp] theorem myes_ap (s : Option MV) (S : MS) : myes (s :: S) = .ok true (s :: S) := Eq.trans rfl rfl
@[simp] theorem mtwo_ap (g : Int → Int → Int) (ma : ML) (s : Option MV) (S : MS) : mtwo g ma (s :: S) = (ma (s :: S)).bind fun rs S1 => match rs with
  | [.d (.int i), .d (.int j)] => .ok (.d (.int (g i j))) S1
  | _ => .stuck := Eq.trans rfl rfl
@[simp] theorem mlenset_ap (m : ME) (s : Option MV) (S : MS) : mlenset m (s :: S) = (mop1 (lift1 gLenSet) m) (s :: S) := Eq.trans rfl rfl
@[simp] theorem mLR1_ap (m : ME) (s : Option MV) (S : MS) : mLR1 m (s :: S) = (m (s :: S)).bind fun r S1 => match r with
  | .d (.int j) => if smR j = true then .ok (.nw (.lst (rgD 0 j))) S1 else .stuck
  | _ => .stuck := Eq.trans rfl rfl
@[simp] theorem mLR2_ap (m k : ME) (s : Option MV) (S : MS) : mLR2 m k (s :: S) = (m (s :: S)).bind fun r S1 => match r with
  | .d (.int i) => (k S1).bind fun r2 S2 => match r2 with
    | .d (.int j) => if (smR i && smR j) = true then .ok (.nw (.lst (rgD i j))) S2 else .stuck
    | _ => .stuck
  | _ => .stuck := Eq.trans rfl rfl
@[simp] theorem mlc_ap (vs : List Nat) (mi : MI) (f : MG) (mt : MT) (me : ME) (s : Option MV) (S : MS) : mlc vs mi f mt me (s :: S) = (mi (s :: S)).bind fun ds S1 => if ds.length < 16777216 then lcR (lcL f mt me (wipeS S1 vs) ds) S1 else .stuck := Eq.trans rfl rfl
theorem atI_nat {α : Type} {ds : List α} {i : Int} (h0 : 0 ≤ i) (h1 : i < ds.length) (z : α) : L2.atI ds i = some (ds.getD i.toNat z) := by
  have h2 : i.toNat < ds.length := by omega
  unfold L2.atI L2.ixN
  rw [if_pos h0, if_pos h1]
  simp [List.getD_eq_getElem?_getD, List.getElem?_eq_getElem h2]
@[simp] theorem ix_nat {ds : List PyData} {i : Int} (h0 : 0 ≤ i) (h1 : i < ds.length) : gIx (.list ds) (.int i) = some (.d (ds.getD i.toNat .none)) := by
  show Option.map RV.d (L2.atI ds i) = _
  rw [atI_nat h0 h1 .none]
  rfl
@[simp] theorem ix_natT {ds : List PyData} {i : Int} (h0 : 0 ≤ i) (h1 : i < ds.length) : gIx (.tuple ds) (.int i) = some (.d (ds.getD i.toNat .none)) := by
  show Option.map RV.d (L2.atI ds i) = _
  rw [atI_nat h0 h1 .none]
  rfl
@[simp] theorem atI_eq {α : Type} (xs : List α) (i : Int) : L2.atI xs i = (L2.ixN xs.length i).bind fun j => xs[j]? := Eq.trans rfl rfl
end M

set_option maxHeartbeats 2000000
/-! M20: plain law: settings, keys, numbers drawn. Own work. -/
namespace M
open PySem PySem.Spec PyProof.Rows L2

abbrev intL (ns : List Int) : PyData := .list (ns.map PyData.int)
abbrev strL (xs : List Str) : List PyData := xs.map PyData.str
def ordersS : List Str := ["up", "down", "both", "bounce", "in", "thumb", "played"]
def startsS : List Str := ["now", "grid"]
/-- a whole number within bounds -/
def isW (x : PyData) (lo hi : Int) : Bool := match x with
  | .int i => decide (lo ≤ i) && decide (i ≤ hi)
  | _ => false
def noDic : PyData → Bool
  | .dict _ => false
  | _ => true
def isOneS (x : PyData) (ws : List Str) : Bool := match x with
  | .str z => ws.any fun w => w == z
  | _ => false
def isB : PyData → Bool
  | .bool _ => true
  | _ => false
/-- strings within lay -/
def okD (x : PyData) : Bool := SeqAt.shaped x
theorem okD_noDic {x : PyData} (h : okD x = true) : noDic x = true := by
  cases x with
  | dict _ => simp [okD, SeqAt.shaped, PyData.canLay0] at h
  | _ => rfl
def isS (x : PyData) : Bool := match x with
  | .tuple [o, s, st, g, h, sta, w] => isOneS o ordersS && isW s 1 3 && isW st 1 8 && isW g 1 16 && isB h && isOneS sta startsS && isB w
  | _ => false
theorem okD_all : ∀ {ds : List PyData}, PyData.canLayAll0 ds = true → PyData.depthAll ds ≤ 63 → ∀ d ∈ ds, okD d = true
  | [], _, _, d, hd => by cases hd
  | x :: r, h1, h2, d, hd => by
    simp only [PyData.canLayAll0, Bool.and_eq_true] at h1
    simp only [PyData.depthAll] at h2
    rcases List.mem_cons.mp hd with e | e
    · subst e
      unfold okD SeqAt.shaped
      simp only [Bool.and_eq_true, decide_eq_true_eq]
      exact ⟨h1.1, by omega⟩
    · exact okD_all h1.2 (by omega) d e
theorem okD_tuple {ds : List PyData} (h : okD (.tuple ds) = true) : ∀ d ∈ ds, okD d = true := by
  unfold okD SeqAt.shaped at h
  simp only [Bool.and_eq_true, decide_eq_true_eq] at h
  obtain ⟨h1, h2⟩ := h
  have h1 : PyData.canLayAll0 ds = true := by simpa [PyData.canLay0] using h1
  have h2 : PyData.depthAll ds + 1 ≤ 64 := by simpa [PyData.depth] using h2
  exact okD_all h1 (by omega)
theorem canLay_ints : ∀ ns : List Int, PyData.canLayAll0 (ns.map PyData.int) = true
  | [] => rfl
  | n :: r => by simp [PyData.canLayAll0, PyData.canLay0, canLay_ints r]
theorem depth_ints : ∀ ns : List Int, PyData.depthAll (ns.map PyData.int) = 0
  | [] => rfl
  | n :: r => by simp [PyData.depthAll, PyData.depth, depth_ints r]
@[simp] theorem shaped_ints (ns : List Int) : SeqAt.shaped (.list (ns.map PyData.int)) = true := by
  simp [SeqAt.shaped, PyData.canLay0, canLay_ints, PyData.depth, depth_ints]
@[simp] theorem shaped_int (n : Int) : SeqAt.shaped (.int n) = true := by simp [SeqAt.shaped, PyData.canLay0, PyData.depth]
@[simp] theorem shaped_bool (n : Bool) : SeqAt.shaped (.bool n) = true := by simp [SeqAt.shaped, PyData.canLay0, PyData.depth]
@[simp] theorem shaped_none : SeqAt.shaped .none = true := by simp [SeqAt.shaped, PyData.canLay0, PyData.depth]
theorem eqv_ints : ∀ xs ys : List Int, PyData.eqvAll (xs.map PyData.int) (ys.map PyData.int) = decide (xs = ys)
  | [], [] => by simp [PyData.eqvAll]
  | [], _ :: _ => by simp [PyData.eqvAll]
  | _ :: _, [] => by simp [PyData.eqvAll]
  | x :: xs, y :: ys => by
    simp only [List.map_cons, PyData.eqvAll, PyData.eqv, eqv_ints xs ys, List.cons.injEq, Bool.decide_and]
    rw [Bool.beq_eq_decide_eq]
@[simp] theorem eq_ints (xs ys : List Int) : gEq (.list (xs.map PyData.int)) (.list (ys.map PyData.int)) = some (.d (.bool (decide (xs = ys)))) := by
  simp [gEq, PyData.eqv, eqv_ints]
@[simp] theorem ne_ints (xs ys : List Int) : gNe (.list (xs.map PyData.int)) (.list (ys.map PyData.int)) = some (.d (.bool (!decide (xs = ys)))) := by
  simp [gNe, PyData.eqv, eqv_ints]
@[simp] theorem eq_int (x y : Int) : gEq (.int x) (.int y) = some (.d (.bool (decide (x = y)))) := by
  simp [gEq, scalD, PyData.eqv, Bool.beq_eq_decide_eq]
@[simp] theorem ne_int (x y : Int) : gNe (.int x) (.int y) = some (.d (.bool (!decide (x = y)))) := by
  simp [gNe, scalD, PyData.eqv, Bool.beq_eq_decide_eq]
@[simp] theorem eq_str (x y : Str) : gEq (.str x) (.str y) = some (.d (.bool (decide (x = y)))) := by
  simp [gEq, scalD, PyData.eqv, Bool.beq_eq_decide_eq]
@[simp] theorem ne_str (x y : Str) : gNe (.str x) (.str y) = some (.d (.bool (!decide (x = y)))) := by
  simp [gNe, scalD, PyData.eqv, Bool.beq_eq_decide_eq]
@[simp] theorem eq_bool (x y : Bool) : gEq (.bool x) (.bool y) = some (.d (.bool (decide (x = y)))) := by
  simp [gEq, scalD, PyData.eqv, Bool.beq_eq_decide_eq]
@[simp] theorem in_ints (x : Int) (ns : List Int) (neg : Bool) : gInL neg (.int x) (.list (ns.map PyData.int)) = some (.d (.bool (xor neg (decide (x ∈ ns))))) := by
  have : ((ns.map PyData.int).any fun z => PyData.eqv z (.int x)) = decide (x ∈ ns) := by
    induction ns with
    | nil => simp
    | cons y r ih =>
      simp only [List.map_cons, List.any_cons, ih, PyData.eqv, List.mem_cons, Bool.decide_or, Bool.beq_eq_decide_eq]
      congr 1
      exact decide_eq_decide.mpr ⟨Eq.symm, Eq.symm⟩
  simp only [gInL, shaped_int, shaped_ints, Bool.and_self, if_true, this]
/-- numbers drawn -/
def cell (ns : List Int) (k : Int) : Int := ns.getD k.toNat 0
def mixZ (c p m : Int) : Int := (c * 48271 % p) ^ 3 % p % m
def seedZ (s k : Int) : Int := ((s * 1103515245 + 7919 * k + 12345) % 2147483647) ^ 5 % 2147483647
def pickZ (s m : Int) : Int := s / 97 % m
theorem pick_lo {s m : Int} (h : 0 < m) : 0 ≤ pickZ s m := Int.emod_nonneg _ (by omega)
theorem pick_hi {s m : Int} (h : 0 < m) : pickZ s m < m := Int.emod_lt_of_pos _ h
theorem mix_lo {s p m : Int} (h : 0 < m) : 0 ≤ mixZ s p m := Int.emod_nonneg _ (by omega)
theorem mix_hi {s p m : Int} (h : 0 < m) : mixZ s p m < m := Int.emod_lt_of_pos _ h
/-- asInts of ints -/
@[simp] theorem asInts_ints (ns : List Int) : asInts (ns.map PyData.int) = some ns := asInts_map ns
@[simp] theorem sorted_d (ns : List Int) : gSorted (.d (.list (ns.map PyData.int))) = some (.nw (.lst ((srt ns).map PyData.int))) := by
  show gSortedI (ns.map PyData.int) = _
  simp [gSortedI]
@[simp] theorem sorted_n (ns : List Int) : gSorted (.nw (.lst (ns.map PyData.int))) = some (.nw (.lst ((srt ns).map PyData.int))) := by
  show gSortedI (ns.map PyData.int) = _
  simp [gSortedI]
@[simp] theorem sorted_p (p : Path) (ns : List Int) : gSorted (.pk p (.lst (ns.map PyData.int))) = some (.nw (.lst ((srt ns).map PyData.int))) := by
  show gSortedI (ns.map PyData.int) = _
  simp [gSortedI]
/-! uniq -/
theorem uniq_nodup : ∀ (ns acc : List Int), ns.Nodup → (∀ n ∈ ns, n ∉ acc) → ns.foldl PyProof.Rows.step_dedup acc = acc ++ ns
  | [], acc, _, _ => by simp
  | n :: r, acc, h, h2 => by
    have hn := List.nodup_cons.mp h
    have e : PyProof.Rows.step_dedup acc n = acc ++ [n] := by
      unfold PyProof.Rows.step_dedup
      rw [if_neg]
      simp only [List.any_eq_true, beq_iff_eq, not_exists, not_and]
      exact fun x hx e => h2 n List.mem_cons_self (by rw [← e]; exact hx)
    rw [List.foldl_cons, e, uniq_nodup r _ hn.2 fun m hm => ?_]
    · simp
    · rw [List.mem_append, not_or]
      exact ⟨h2 m (List.mem_cons_of_mem _ hm), fun e => hn.1 (by rw [← List.mem_singleton.mp e]; exact hm)⟩
theorem lenset_nodup {ns : List Int} (h : ns.Nodup) (hl : ns.length < 1000) : gLenSet (intL ns) = some (.d (.int (ns.length : Nat))) := by
  unfold gLenSet
  simp only [asInts_ints, if_pos hl, uniqI, uniq_nodup ns [] h (fun _ _ => by simp), List.nil_append]
end M

set_option maxHeartbeats 2000000
/-! M21: plain law: loops, rounds. Own work. -/
namespace M
open PySem PySem.Spec PyProof.Rows L2

/-! ### loops -/
@[simp] theorem tgN_ap (i : Nat) (d : PyData) (S : MS) : tgN i d S = some (S.set i (some (.d d))) := Eq.trans rfl rfl
def RS.lp (r : RS) (k : MS → RS) : RS := match r with
  | .nx S2 => k S2
  | .ct S2 => k S2
  | .bk S2 => .nx S2
  | .rt r S2 => .rt r S2
  | .exc c S2 => .exc c S2
  | .stuck => .stuck
@[simp] theorem lp_nx (S : MS) (k : MS → RS) : (RS.nx S).lp k = k S := Eq.trans rfl rfl
@[simp] theorem lp_ct (S : MS) (k : MS → RS) : (RS.ct S).lp k = k S := Eq.trans rfl rfl
@[simp] theorem lp_bk (S : MS) (k : MS → RS) : (RS.bk S).lp k = .nx S := Eq.trans rfl rfl
@[simp] theorem lp_rt (r : RV) (S : MS) (k : MS → RS) : (RS.rt r S).lp k = .rt r S := Eq.trans rfl rfl
@[simp] theorem lp_exc (c : Str) (S : MS) (k : MS → RS) : (RS.exc c S).lp k = .exc c S := Eq.trans rfl rfl
@[simp] theorem loopM_nil (f : MG) (body : MSt) (S : MS) : loopM f body [] S = .nx S := Eq.trans rfl rfl
@[simp] theorem loopM_cons {f : MG} {body : MSt} {d : PyData} {ds : List PyData} {S S1 : MS} (h : f d S = some S1) : loopM f body (d :: ds) S = (body S1).lp (loopM f body ds) := by
  conv => lhs; unfold loopM
  simp only [h]
  cases body S1 <;> rfl
theorem loopM_inv {f : MG} {body : MSt} (I : List PyData → MS → Prop) : ∀ (ds pre : List PyData) {S : MS}, I pre S →
    (∀ pre d post S, pre ++ d :: post = pre ++ d :: post → d ∈ ds → I pre S → ∃ S1 S2, f d S = some S1 ∧ (body S1 = .nx S2 ∨ body S1 = .ct S2) ∧ I (pre ++ [d]) S2) → ∃ S', loopM f body ds S = .nx S' ∧ I (pre ++ ds) S'
  | [], pre, S, h0, _ => ⟨S, rfl, by simpa using h0⟩
  | d :: ds, pre, S, h0, hs => by
    obtain ⟨S1, S2, e1, e2, h1⟩ := hs pre d ds S rfl List.mem_cons_self h0
    obtain ⟨S', e3, h3⟩ := loopM_inv I ds (pre ++ [d]) h1 fun p x q S e hx hI => hs p x q S rfl (List.mem_cons_of_mem _ hx) hI
    refine ⟨S', ?_, by simpa using h3⟩
    rcases e2 with e2 | e2
    · simp only [loopM, e1, e2, e3]
    · simp only [loopM, e1, e2, e3]
theorem lcL_map {i : Nat} {mt : MT} {me : ME} {S : MS} (P : PyData → Bool) (F : PyData → PyData) : ∀ {ds : List PyData}, (∀ d ∈ ds, ∃ S2, mt (S.set i (some (.d d))) = .ok (P d) S2 ∧ (P d = true → ∃ r S3, me S2 = .ok r S3 ∧ stab false r = some (.d (F d)))) →
    lcL (tgN i) mt me S ds = some ((ds.filter P).map F)
  | [], _ => rfl
  | d :: ds, h => by
    obtain ⟨S2, e1, e2⟩ := h d List.mem_cons_self
    have ih := lcL_map P F (ds := ds) fun x hx => h x (List.mem_cons_of_mem _ hx)
    unfold lcL
    simp only [tgN, e1]
    cases hp : P d with
    | true =>
      obtain ⟨r, S3, e3, e4⟩ := e2 hp
      simp only [e3, e4, ih, List.filter_cons, hp, if_true, List.map_cons]
    | false => simp only [ih, List.filter_cons, hp, Bool.false_eq_true, if_false]
theorem lcL_all {i : Nat} {me : ME} {S : MS} (F : PyData → PyData) {ds : List PyData} (h : ∀ d ∈ ds, ∃ r S3, me (S.set i (some (.d d))) = .ok r S3 ∧ stab false r = some (.d (F d))) : lcL (tgN i) myes me S ds = some (ds.map F) := by
  have := lcL_map (i := i) (mt := myes) (me := me) (S := S) (fun _ => true) F (ds := ds) fun d hd => ⟨_, rfl, fun _ => h d hd⟩
  rw [this, List.filter_eq_self.mpr (fun _ _ => rfl)]
theorem ix_ints {ns : List Int} {j : Int} (h0 : 0 ≤ j) (h1 : j < ns.length) : gIx (.list (ns.map PyData.int)) (.int j) = some (.d (.int (ns.getD j.toNat 0))) := by
  rw [ix_nat h0 (by simpa using h1)]
  have h2 : j.toNat < ns.length := by omega
  congr 2
  simp [List.getD_eq_getElem?_getD, List.getElem?_eq_getElem h2]
/-! ### rounds -/
def inw {α : Type} : List α → List α
  | [] => []
  | [a] => [a]
  | a :: b :: r => a :: (b :: r).getLast (by simp) :: inw ((b :: r).dropLast)
termination_by l => l.length
decreasing_by simp; omega
theorem inw_nil {α : Type} : inw ([] : List α) = [] := by unfold inw; rfl
theorem inw_one {α : Type} (a : α) : inw [a] = [a] := by unfold inw; rfl
theorem inw_two {α : Type} (a z : α) (m : List α) : inw (a :: (m ++ [z])) = a :: z :: inw m := by
  cases m with
  | nil => rw [List.nil_append]; unfold inw; simp [inw_nil]
  | cons b r =>
    rw [List.cons_append]
    conv => lhs; unfold inw
    have e : b :: (r ++ [z]) = (b :: r) ++ [z] := rfl
    have e1 : (b :: (r ++ [z])).getLast (by simp) = z := by simp only [e]; exact List.getLast_concat
    have e2 : (b :: (r ++ [z])).dropLast = b :: r := by rw [e, List.dropLast_concat]
    rw [e1, e2]
theorem ends3 {α : Type} (l : List α) : l = [] ∨ (∃ a, l = [a]) ∨ ∃ a m z, l = a :: (m ++ [z]) := by
  cases l with
  | nil => exact .inl rfl
  | cons a r =>
    rcases List.eq_nil_or_concat r with e | ⟨m, z, e⟩
    · subst e; exact .inr (.inl ⟨a, rfl⟩)
    · subst e; exact .inr (.inr ⟨a, m, z, by simp⟩)
theorem inw_map {α β : Type} (f : α → β) : ∀ (n : Nat) (l : List α), l.length ≤ n → inw (l.map f) = (inw l).map f
  | 0, l, h => by
    have : l = [] := List.eq_nil_of_length_eq_zero (by omega)
    subst this
    simp [inw_nil]
  | n + 1, l, h => by
    rcases ends3 l with e | ⟨a, e⟩ | ⟨a, m, z, e⟩
    · subst e; simp [inw_nil]
    · subst e; simp [inw_one]
    · subst e
      have hm : m.length ≤ n := by simp at h; omega
      simp only [List.map_cons, List.map_append, List.map_nil, inw_two, inw_map f n m hm]
theorem inw_perm {α : Type} : ∀ (n : Nat) (l : List α), l.length ≤ n → (inw l).Perm l
  | 0, l, h => by
    have : l = [] := List.eq_nil_of_length_eq_zero (by omega)
    subst this
    rw [inw_nil]
  | n + 1, l, h => by
    rcases ends3 l with e | ⟨a, e⟩ | ⟨a, m, z, e⟩
    · subst e; rw [inw_nil]
    · subst e; rw [inw_one]
    · subst e
      have hm : m.length ≤ n := by simp at h; omega
      rw [inw_two]
      refine .cons a ?_
      exact ((inw_perm n m hm).cons z).trans (List.perm_append_comm (l₁ := [z]) (l₂ := m))
/-- the law's own way: by places -/
def inwX (l : List Int) : List Int := (List.range l.length).map fun k => if k % 2 = 0 then l.getD (k / 2) 0 else l.getD (l.length - 1 - k / 2) 0
theorem inwX_eq : ∀ (n : Nat) (l : List Int), l.length ≤ n → inwX l = inw l
  | 0, l, h => by
    have : l = [] := List.eq_nil_of_length_eq_zero (by omega)
    subst this
    rw [inw_nil]; rfl
  | n + 1, l, h => by
    rcases ends3 l with e | ⟨a, e⟩ | ⟨a, m, z, e⟩
    · subst e; rw [inw_nil]; rfl
    · subst e; rw [inw_one]; rfl
    · subst e
      have hm : m.length ≤ n := by simp at h; omega
      rw [inw_two, ← inwX_eq n m hm]
      unfold inwX
      have hl : (a :: (m ++ [z])).length = m.length + 2 := by simp
      rw [hl, List.range_succ_eq_map, List.range_succ_eq_map]
      simp only [List.map_cons, List.map_map]
      congr 1
      congr 1
      · simp
      · apply List.map_congr_left
        intro k hk
        have hk : k < m.length := List.mem_range.mp hk
        simp only [Function.comp]
        have e1 : (k + 1 + 1) % 2 = k % 2 := by omega
        have e2 : (k + 1 + 1) / 2 = k / 2 + 1 := by omega
        have e3 : m.length + 2 - 1 - (k / 2 + 1) = (m.length - 1 - k / 2) + 1 := by omega
        rw [e1, e2, e3]
        simp only [List.getD_cons_succ]
        have g : ∀ j, j < m.length → (m ++ [z]).getD j 0 = m.getD j 0 := fun j hj => by
          rw [List.getD_eq_getElem?_getD, List.getD_eq_getElem?_getD, List.getElem?_append_left hj]
        rw [g _ (by omega), g _ (by omega)]
def thumbT (a : Int) (t : List Int) : List Int := t.flatMap fun k => [a, k]
def thumbX (a : Int) (t : List Int) : List Int := (List.range (2 * t.length)).map fun k => if k % 2 = 0 then a else t.getD (k / 2) 0
theorem thumbX_eq (a : Int) : ∀ t : List Int, thumbX a t = thumbT a t
  | [] => rfl
  | b :: r => by
    unfold thumbX thumbT
    rw [show 2 * (b :: r).length = 2 * r.length + 1 + 1 by simp; omega, List.range_succ_eq_map, List.range_succ_eq_map]
    simp only [List.map_cons, List.map_map, List.flatMap_cons]
    show _ = a :: b :: thumbT a r
    rw [← thumbX_eq a r]
    congr 1
    congr 1
    unfold thumbX
    apply List.map_congr_left
    intro k _
    simp only [Function.comp]
    have e1 : (k + 1 + 1) % 2 = k % 2 := by omega
    have e2 : (k + 1 + 1) / 2 = k / 2 + 1 := by omega
    rw [e1, e2]
    simp
def inOrderZ (o : Str) (ks : List Int) : List Int := if o = "played" then ks else if o = "in" then inw (srt ks) else if o = "thumb" ∧ 1 < (srt ks).length then thumbT ((srt ks).getD 0 0) ((srt ks).drop 1) else srt ks
def foundZ (one : List Int) (n : Nat) : List Int := (List.range n).flatMap fun (s : Nat) => one.map fun k => k + 12 * (s : Int)
def midZ (f : List Int) : List Int := (f.drop 1).take (f.length - 2)
def roundZ (o : Str) (n : Nat) (ks : List Int) : List Int :=
  let f := foundZ (inOrderZ o ks) n
  if o = "down" then f.reverse else if o = "both" ∧ 1 < f.length then f ++ (midZ f).reverse else if o = "bounce" then f ++ f.reverse else f
theorem foundZ_succ (one : List Int) (n : Nat) : foundZ one (n + 1) = foundZ one n ++ one.map fun k => k + 12 * (n : Int) := by
  unfold foundZ
  rw [List.range_succ, List.flatMap_append]
  simp
theorem midZ_rev (f : List Int) (h : 1 < f.length) : (f.reverse.drop 1).take (f.length - 2) = (midZ f).reverse := by
  rcases ends3 f with e | ⟨a, e⟩ | ⟨a, m, z, e⟩
  · subst e; simp at h
  · subst e; simp at h
  · subst e
    unfold midZ
    simp
theorem srt_len (l : List Int) : (srt l).length = l.length := (srt_perm l).length_eq
end M

set_option maxHeartbeats 2000000
/-! M22: dicts put into, popped from, walked; list.remove. Own work. -/
namespace M
open PySem PySem.Spec PyProof.Rows L2

/-! ### list.remove of ints -/
def gRemove (ds : List PyData) (y : PyData) : Option (List PyData × PyData) := match asInts ds, y with
  | some ns, .int k => if k ∈ ns then some ((ns.erase k).map PyData.int, .none) else none
  | _, _ => none
theorem erase_at : ∀ (ns : List Int) (k : Int), k ∈ ns → ∃ j : Nat, ns[j]? = some k ∧ (∀ m : Nat, m < j → ns[m]? ≠ some k) ∧ ns.eraseIdx j = ns.erase k
  | [], k, h => by cases h
  | n :: r, k, h => by
    by_cases e : n = k
    · subst e
      exact ⟨0, rfl, fun m hm => absurd hm (Nat.not_lt_zero _), by simp⟩
    · obtain ⟨j, h1, h2, h3⟩ := erase_at r k ((List.mem_cons.mp h).resolve_left fun z => e z.symm)
      refine ⟨j + 1, by simpa using h1, fun m hm => ?_, ?_⟩
      · cases m with
        | zero => simpa using e
        | succ m => simpa using h2 m (by omega)
      · rw [List.eraseIdx_cons_succ, h3, List.erase_cons_tail (by simpa using e)]
theorem lm_remove {K : Frag} : LM1 K rRemI gRemove := by
  intro W H a xs ds u y ds' z Q ha rx ru e k
  unfold gRemove at e
  split at e
  · rename_i ns kk en
    split at e
    · rename_i hk
      cases e
      obtain ⟨e1, _⟩ := asInts_ok rx en
      subst e1
      cases ru
      obtain ⟨j, h1, h2, h3⟩ := erase_at ns kk hk
      refine ⟨a, ns, kk, j, rfl, rfl, ha, h1, h2, ?_⟩
      rw [h3]
      exact k .non _ (rpInts _) .non
    · cases e
  · cases e
/-! ### d[k] = v, d.pop(k) -/
theorem okR_of_S' {α β : Type} {ra : Own → Hp → β → α → Prop} {b : Bool} {K : Frag} {G : GC} {W : Own} {H : Hp} {σ : L2.St} {D : Ends} {z : R α} {f : α → MS → RS}
    (h : okS K G W H D (z.toS f)) :
    okR ra K G b W H σ (fun v H1 => ∃ r S1 W1, Stp b W H W1 H1 ∧ Conc K G S1 σ H1 W1 ∧ ra W1 H1 v r ∧ okS K G W1 H1 D (f r S1)) z := by
  cases z with
  | ok r S1 => exact fun v H' W' st c rv => ⟨r, S1, W', st, c, rv, okS.shift h st.mono⟩
  | exc c S1 => exact fun H' W' mo c => h σ H' W' mo c
  | stuck => exact h
theorem okS.ext {K : Frag} {G : GC} {W W1 : Own} {H H1 : Hp} {D : Ends} {z : RS} (h : okS K G W H D z) (st : Ext W H W1 H1) : okS K G W1 H1 D z := okS.shift h st.mono
def putK1 (p : Path) (kvs : List (Key × PyData)) (x : PyData) (y : RV) (S : MS) : RS := match y.dat with
  | some d => match keyD d with
    | some k => if kvs.length < 16777216 then .nx (updS p (.dic (putD kvs k x)) S) else .stuck
    | none => .stuck
  | none => .stuck
def mdput (mv mo mi : ME) : MSt := fun S => (mv S).toS fun v S1 => match stab false v with
  | some (.d x) => (mo S1).toS fun o S2 => match o with
    | .pk p (.dic kvs) => (mi S2).toS fun y S3 => putK1 p kvs x y S3
    | _ => .stuck
  | _ => .stuck
section
variable {X : Cx} {G : GC} {b b1 b2 : Bool} {o i e : Expr} {mv mo mi m : ME} {pos pos' : Pos}
theorem st_dput (hu : X.A.units + 64 < cLine) (ho : EV true X G o mo) (hi : EV true X G i mi) (hv : EV b X G e mv) (hs : swapsWith e (some (.Subscript o i pos')) pos.line X.env = pure false := by rfl) : ST X G (.Assign [.Subscript o i pos'] e pos) (mdput mv mo mi) :=
  ⟨(ps_dput (by omega) ho.pe hi.pe hv.pe hs).imp fun D σ H ⟨S, W, cc, q⟩ => ⟨S, W, cc, (okR_of_S' (ra := relV X.K σ) q).imp fun v H1 ⟨r, S1, W1, _, c1, rv, q1⟩ => by
    split at q1
    · rename_i x ex
      obtain ⟨W1', ext, hx⟩ := stab_ok rv ex
      have q1 := q1.ext ext
      have c1 := c1.ext ext
      refine ⟨S1, W1', c1, (okR_of_S' (b := true) (ra := relV X.K σ) q1).imp fun u H2 ⟨ro, S2, W2, st2, c2, rv2, q2⟩ => ?_⟩
      split at q2
      · rename_i p kvs
        refine ⟨S2, W2, c2, (okR_of_S' (b := true) (ra := relV X.K σ) q2).imp fun w H3 ⟨y, S3, W3, st3, c3, rv3, q3⟩ => ?_⟩
        unfold putK1 at q3
        split at q3
        · rename_i d ed
          split at q3
          · rename_i k ek
            split at q3
            · rename_i hl
              obtain ⟨tr, nv⟩ := rv2
              have ek2 := keyD_ok ((Opd.of rv3).root ed) ek
              subst ek2
              obtain ⟨q0, i0, ep⟩ := nv.last
              subst ep
              have tr := Tr.ext st3 tr
              have nv := nv.ext st3
              have rx : Rp X.K W3 H3 v x := Rp.fz st3.fz x (hx W2 H2 (Ext.mono st2))
              cases tr with
              | @dic _ a ks _ w e1 rk =>
                refine ⟨a, _, rfl, DPut.k e1 (by rw [rk.len, sizeLine_eq]; exact hl), ?_⟩
                have mo0 : Mono W3 H3 W3 (upd H3 a (.dK (putK ks k v))) := fun b u hb hw => by
                  have : b ≠ a := fun e => by rw [e, w] at hw; rcases hw with hw | hw <;> cases hw
                  exact ⟨rfl, by rw [upd_ne this]; exact hb⟩
                obtain ⟨mo, c4⟩ := c3.mut nv w (o := .dK (putK ks k v)) (t := .dic (putD kvs k x)) (.dic w upd_same ((rk.put rx).fz mo0.fz))
                exact q3 σ _ W3 mo c4
            · exact q3.elim
          · exact q3.elim
        · exact q3.elim
      · exact q2.elim
    · exact q1.elim⟩⟩
def popK1 (p : Path) (kvs : List (Key × PyData)) (y : RV) (S : MS) : R RV := match y.dat with
  | some d => match keyD d with
    | some k => match valD kvs k with
      | some x => .ok (.d x) (updS p (.dic (dropD kvs k)) S)
      | none => .stuck
    | none => .stuck
  | none => .stuck
def mdpop (mo mi : ME) : ME := fun S => (mo S).bind fun o S2 => match o with
    | .pk p (.dic kvs) => (mi S2).bind fun y S3 => popK1 p kvs y S3
    | _ => .stuck
theorem ev_dpop {apos cpos : Pos} (ho : EV true X G o mo) (hi : EV true X G i mi) (mm : M1 X o "pop" apos i cpos := by exact ⟨rfl, rfl, rfl, rfl⟩) : EV false X G (.Call (.Attribute o "pop" apos) [i] [] cpos) (mdpop mo mi) :=
  ⟨(pe_dpop1 ho.pe hi.pe mm).imp fun σ H Q ⟨S, W, cc, q⟩ => ⟨S, W, cc, (okR.bind (b1 := true) (b2 := false) q).imp fun u H2 ⟨ro, S2, W2, st2, c2, rv2, q2⟩ => by
    split at q2
    · rename_i p kvs
      obtain ⟨tr, nv⟩ := rv2
      cases tr with
      | @dic _ a ks _ w e1 rk =>
        refine ⟨a, rfl, .inl ⟨ks, .inl e1⟩, S2, W2, c2, (okR.bind (b1 := true) (b2 := false) q2).imp fun y H3 ⟨ry, S3, W3, st3, c3, rv3, q3⟩ => ?_⟩
        unfold popK1 at q3
        split at q3
        · rename_i d ed
          split at q3
          · rename_i k ek
            split at q3
            · rename_i x ev
              have ek2 := keyD_ok ((Opd.of rv3).root ed) ek
              subst ek2
              obtain ⟨q0, i0, ep⟩ := nv.last
              subst ep
              have rk := rk.fz st3.fz
              have e3 := (st3 _ _ e1).1
              have w3 : W3 a = .own (q0 ++ [i0 + 1]) := by rw [(st3 _ _ e1).2 (by rw [w]; exact ntmp_own)]; exact w
              obtain ⟨v, h1, h2⟩ := rk.val.1 x ev
              refine ⟨ks, k, v, e3, rfl, h1, ?_⟩
              have mo0 : Mono W3 H3 W3 (upd H3 a (.dK (dropK ks k))) := fun b u hb hw => by
                have : b ≠ a := fun e => by rw [e, w3] at hw; rcases hw with hw | hw <;> cases hw
                exact ⟨rfl, by rw [upd_ne this]; exact hb⟩
              obtain ⟨mo, c4⟩ := c3.mut (nv.ext st3) w3 (o := .dK (dropK ks k)) (t := .dic (dropD kvs k)) (.dic w3 upd_same (rk.drop.fz mo0.fz))
              exact q3 v _ W3 mo c4 (Rp.fz mo0.fz _ h2)
            · exact q3.elim
          · exact q3.elim
        · exact q3.elim
    · exact q2.elim⟩⟩
end
end M

set_option maxHeartbeats 2000000
/-! M23: a dict walked while it is locked; dict(pairs). Own work. -/
namespace M
open PySem PySem.Spec PyProof.Rows L2

def kD : Key → PyData
  | .inl i => .int i
  | .inr s => .str s
/-! ### for k in d, d told frozen -/
def miK (m : ME) : MI := fun S => (m S).bind fun r S1 => match r with
  | .pk _ (.fdc kvs) => .ok (kvs.map fun kv => kD kv.1) S1
  | _ => .stuck
section
variable {K : Frag} {W : Own} {H : Hp}
theorem RpKV.key : ∀ {ks : List (Key × V)} {kvs : List (Key × PyData)} {i : Nat} {k : Key} {v : V}, RpKV K W H ks kvs → ks[i]? = some (k, v) → ∃ d, kvs[i]? = some (k, d)
  | _, _, i, _, _, .nil, h => by simp at h
  | _, _, 0, _, _, .cons a b, h => by simp at h; obtain ⟨rfl, rfl⟩ := h; exact ⟨_, rfl⟩
  | _, _, i + 1, _, _, .cons a b, h => by
    obtain ⟨d, e⟩ := b.key (i := i) (by simpa using h)
    exact ⟨d, by simpa using e⟩
theorem rp_key {k : Key} : Rp K W H (kV k) (kD k) := by
  cases k with
  | inl i => exact .int
  | inr s => exact .str
end
section
variable {X : Cx} {G : GC} {b : Bool} {e tg : Expr} {m : ME}
theorem iv_keys (h : EV b X G e m) : IV b true X G tg e (miK m) :=
  ⟨PI.imp (pi_keys h.pe) fun σ H R ⟨S, W, c, q⟩ => ⟨S, W, c, (okR.one q).imp fun v H1 ⟨r, S1, W1, st, c1, rv, q1⟩ => by
    split at q1
    · rename_i p kvs
      obtain ⟨tr, nv⟩ := rv
      cases tr with
      | @fdc _ a ks _ w e1 rk =>
        obtain ⟨o, e1⟩ := e1
        refine ⟨a, o, rfl, .inl ⟨ks, e1, q1 _ H1 W1 Stp.refl c1 fun W2 H2 st2 i => ⟨fun d hd => ?_, fun hl => ?_⟩⟩⟩
        · have e2 := (st2 _ _ e1).1
          refine ⟨⟨e2, ?_⟩, fun x H' ⟨eH, k, v, hk, hx⟩ => ?_⟩
          · have hlt := (List.getElem?_eq_some_iff.mp hd).1
            rw [List.length_map] at hlt
            rw [rk.len]; exact hlt
          · subst eH hx
            obtain ⟨d', ed⟩ := rk.key hk
            rw [List.getElem?_map, ed] at hd
            cases hd
            exact ⟨W2, Ext.refl, rp_key⟩
        · have e2 := (st2 _ _ e1).1
          rw [List.length_map] at hl
          exact ⟨e2, by rw [rk.len]; exact hl⟩
    · exact q1.elim⟩⟩
end
/-! ### an expression while a dict is locked -/
inductive Pl where
  | var (i : Nat)
  | fld (i : Nat) (f : Str)
def getPv (i : Nat) (S : MS) : Option (Path × List (Key × PyData)) := match S[i]? with
  | some (some (.dic kvs)) => some ([i + 1], kvs)
  | _ => none
def getPf (i : Nat) (f : Str) (S : MS) : Option (Path × List (Key × PyData)) := match S[i]? with
  | some (some (.obj _ fs)) => (match fIx f 0 fs with
    | some (k, .dic kvs) => some ([k, i + 1], kvs)
    | _ => none)
  | some (some (.rcd fs)) => (match fIx f 0 fs with
    | some (k, .dic kvs) => some ([k, i + 1], kvs)
    | _ => none)
  | _ => none
def getP : Pl → MS → Option (Path × List (Key × PyData))
  | .var i, S => getPv i S
  | .fld i f, S => getPf i f S
theorem getP_ok {K : Frag} {G : GC} {S : MS} {σ : L2.St} {H : Hp} {W : Own} {pl : Pl} {p : Path} {kvs : List (Key × PyData)} (c : Conc K G S σ H W) (e : getP pl S = some (p, kvs)) :
    ∃ a ks, Nav H σ p (.ref a) ∧ W a = .own p ∧ H a = some (.dK ks) ∧ RpKV K W H ks kvs := by
  cases pl with
  | var i =>
    have e : getPv i S = some (p, kvs) := e
    unfold getPv at e
    split at e
    · rename_i kvs' es
      cases e
      obtain ⟨v, hv, tr⟩ := c.tr i _ es
      cases tr with
      | dic w e1 rk => exact ⟨_, _, ⟨i, rfl, hv⟩, w, e1, rk⟩
    · cases e
  | fld i f =>
    have e : getPf i f S = some (p, kvs) := e
    unfold getPf at e
    split at e
    · rename_i c' fs es
      split at e
      · rename_i k kvs' ef
        cases e
        obtain ⟨v, hv, tr⟩ := c.tr i _ es
        cases tr with
        | @obj _ a dx _ vs _ w wd e1 ed tf =>
          obtain ⟨u, h1, h2, h3, h4⟩ := tf.find ef
          cases h4 with
          | dic w2 e2 rk => exact ⟨_, _, ⟨a, f, ⟨i, rfl, hv⟩, .inl ⟨_, dx, vs, e1, by simpa using h3⟩⟩, w2, e2, rk⟩
      · cases e
    · rename_i fs es
      split at e
      · rename_i k kvs' ef
        cases e
        obtain ⟨v, hv, tr⟩ := c.tr i _ es
        cases tr with
        | @rcd _ a vs _ w e1 tf =>
          obtain ⟨u, h1, h2, h3, h4⟩ := tf.find ef
          cases h4 with
          | dic w2 e2 rk => exact ⟨_, _, ⟨a, f, ⟨i, rfl, hv⟩, .inr (.inl ⟨vs, e1, by simpa using h3⟩)⟩, w2, e2, rk⟩
      · cases e
    · cases e
def mlock (pl : Pl) (m : ME) : ME := fun S => match getP pl S with
  | some (p, kvs) => (match m (updS p (.fdc kvs) S) with
    | .ok (.d x) _ => .ok (.d x) S
    | .ok (.nw (.lst ds)) _ => .ok (.nw (.lst ds)) S
    | _ => .stuck)
  | none => .stuck
section
variable {K : Frag} {W : Own} {H : Hp} {a : Addr} {od : Obj} {ks : List (Key × V)} {mk : Mk}
theorem rd_unl {b : Addr} {u : HO} (hne : H a = some (.frz od (.dK ks))) (hu : ∀ ks, u ≠ .dK ks) (hu2 : ∀ o u', u ≠ .frz o u') (h : Rd H b u) : b ≠ a := by
  intro e
  subst e
  rcases h with h | ⟨o, h⟩
  · rw [hne] at h; cases h; exact hu2 _ _ rfl
  · rw [hne] at h; cases h; exact hu _ rfl
mutual
theorem Rp.unl (hne : H a = some (.frz od (.dK ks))) : ∀ (d : PyData) {v : V}, Rp K W H v d → Rp K (setW W a mk) (upd H a (.dK ks)) v d
  | .none, _, h => by cases h; exact .non
  | .bool _, _, h => by cases h; exact .bl
  | .int _, _, h => by cases h; exact .int
  | .str _, _, h => by cases h; exact .str
  | .list ds, _, h => by
    cases h with
    | lst r s =>
      have hb := rd_unl hne (fun _ h => by cases h) (fun _ _ h => by cases h) r.2
      refine .lst ⟨by rw [setW_ne hb]; exact r.1, ?_⟩ (RpAll.unl hne ds s)
      rcases r.2 with h | ⟨o, h⟩
      · exact .inl (by rw [upd_ne hb]; exact h)
      · exact .inr ⟨o, by rw [upd_ne hb]; exact h⟩
  | .tuple ds, _, h => by
    cases h with
    | tup r s =>
      rcases r with ⟨w, r⟩ | r
      · have hb := rd_unl hne (fun _ h => by cases h) (fun _ _ h => by cases h) r
        refine .tup (.inl ⟨by rw [setW_ne hb]; exact w, ?_⟩) (RpAll.unl hne ds s)
        rcases r with h | ⟨o, h⟩
        · exact .inl (by rw [upd_ne hb]; exact h)
        · exact .inr ⟨o, by rw [upd_ne hb]; exact h⟩
      · exact .tup (.inr r) (RpAll.unl hne ds s)
  | .dict _, _, h => by cases h
theorem RpAll.unl (hne : H a = some (.frz od (.dK ks))) : ∀ (ds : List PyData) {vs : List V}, RpAll K W H vs ds → RpAll K (setW W a mk) (upd H a (.dK ks)) vs ds
  | [], _, h => by cases h; exact .nil
  | d :: ds, _, h => by cases h with | cons r s => exact .cons (Rp.unl hne d r) (RpAll.unl hne ds s)
end
end
section
variable {X : Cx} {G : GC} {e : Expr} {m : ME}
theorem ev_lock {pl : Pl} (h : EV true X G e m) : EV true X G e (mlock pl m) :=
  ⟨(pe_lock h.pe).imp fun σ H Q ⟨S, W, c, q⟩ => by
    unfold mlock at q
    split at q
    · rename_i p kvs eg
      obtain ⟨a, ks, nv, w, ha, rk⟩ := getP_ok c eg
      refine ⟨a, .dK ks, ha, trivial, fun od => ?_⟩
      have mo : Mono W H (setW W a .frz) (upd H a (.frz od (.dK ks))) := fun b u hb hw => by
        have : b ≠ a := fun e => by rw [e, w] at hw; rcases hw with hw | hw <;> cases hw
        exact ⟨setW_ne this, by rw [upd_ne this]; exact hb⟩
      have c' : Conc X.K G (updS p (.fdc kvs) S) σ (upd H a (.frz od (.dK ks))) (setW W a .frz) := c.rep mo nv (fun b u q hb hw hq _ => by
        have : b ≠ a := fun e => by
          rw [e, w] at hw
          have := Mk.own.inj hw
          exact hq ⟨[], by rw [← this]; rfl⟩
        exact ⟨by rw [setW_ne this]; exact hw, by rw [upd_ne this]; exact hb⟩) (.fdc setW_same ⟨od, upd_same⟩ (rk.fz mo.fz))
      refine ⟨_, _, c', ?_⟩
      have back : ∀ {W2 : Own} {H2 : Hp}, Ext (setW W a .frz) (upd H a (.frz od (.dK ks))) W2 H2 → H2 a = some (.frz od (.dK ks)) ∧ Ext W H (setW W2 a (.own p)) (upd H2 a (.dK ks)) := fun {W2 H2} st => by
        have e1 := st a _ upd_same
        refine ⟨e1.1, fun b o hb => ?_⟩
        by_cases eb : b = a
        · subst eb
          rw [ha] at hb
          cases hb
          exact ⟨upd_same, fun _ => by rw [setW_same, w]⟩
        · have e2 := st b o (by rw [upd_ne eb]; exact hb)
          rw [setW_ne eb] at e2
          exact ⟨by rw [upd_ne eb]; exact e2.1, fun n => by rw [setW_ne eb]; exact e2.2 n⟩
      cases em : m (updS p (.fdc kvs) S) with
      | exc _ _ => rw [em] at q; exact q.elim
      | stuck => rw [em] at q; exact q.elim
      | ok r S1 =>
        rw [em] at q
        intro v H2 W2 st c2 rv
        obtain ⟨e1, ext⟩ := back st
        refine ⟨e1, ?_⟩
        cases r with
        | d x => exact q v _ _ ext (c.ext ext) (Rp.unl e1 x rv)
        | pk _ _ => exact q.elim
        | nw t =>
          cases t with
          | lst ds =>
            have rv : Tr X.K W2 H2 [0] v (.lst ds) := rv
            cases rv with
            | @lst _ l xs _ wl el rl =>
              have hb : l ≠ a := rd_unl e1 (fun _ h => by cases h) (fun _ _ h => by cases h) (.inl el)
              exact q _ _ _ ext (c.ext ext) (.lst (by rw [setW_ne hb]; exact wl) (by rw [upd_ne hb]; exact el) (RpAll.unl e1 ds rl))
          | _ => exact q.elim
    · exact q.elim⟩
end
/-! ### dict(pairs) -/
def pairsD : List PyData → Option (List (Key × PyData))
  | [] => some []
  | .tuple [x, y] :: r => match keyD x, pairsD r with
    | some k, some kvs => some ((k, y) :: kvs)
    | _, _ => none
  | _ :: _ => none
def mergeD (kvs more : List (Key × PyData)) : List (Key × PyData) := more.foldl (fun acc kv => putD acc kv.1 kv.2) kvs
theorem RpKV.merge {K : Frag} {W : Own} {H : Hp} : ∀ {more : List (Key × V)} {moreD : List (Key × PyData)} {ks : List (Key × V)} {kvs : List (Key × PyData)}, RpKV K W H more moreD → RpKV K W H ks kvs → RpKV K W H (mergeK ks more) (mergeD kvs moreD)
  | _, _, _, _, .nil, h => h
  | _, _, _, _, @RpKV.cons _ _ _ k v vs d ds a b, h => by
    have := RpKV.merge b (h.put (k := k) a)
    exact this
def gDictP : PyData → Option RV
  | .list ds => (pairsD ds).map fun kvs => .nw (.dic (mergeD [] kvs))
  | _ => none
section
variable {K : Frag}
theorem pairs_ok {W : Own} {H : Hp} : ∀ {ds : List PyData} {xs : List V} {kvs : List (Key × PyData)}, RpAll K W H xs ds → pairsD ds = some kvs → ∃ (ps : List Addr) (ks : List (Key × V)), xs = ps.map V.ref ∧ Paired (fun p kv => SqT K H p [kV kv.1, kv.2]) ps ks ∧ RpKV K W H ks kvs
  | [], _, _, h, e => by cases h; cases e; exact ⟨[], [], rfl, .nil, .nil⟩
  | d :: ds, _, kvs, h, e => by
    cases h with
    | @cons v vs _ _ r s =>
      unfold pairsD at e
      split at e
      · rename_i heq
        cases heq
      · rename_i x y r' heq
        cases heq
        split at e
        · rename_i k kvs' ek ep
          cases e
          obtain ⟨ps, ks, e1, e2, e3⟩ := pairs_ok s ep
          cases r with
          | @tup a ws _ ft rr =>
            cases rr with
            | @cons vx _ _ _ rx rr =>
              cases rr with
              | @cons vy _ _ _ ry rr =>
                cases rr
                have hk := keyD_ok (Root.rp rx) ek
                subst hk
                exact ⟨a :: ps, (k, vy) :: ks, by rw [e1]; rfl, .cons ft.sq e2, .cons ry e3⟩
        · cases e
      · cases e
theorem og_dictP : OpD1 K (fun v H Q => (fun xs H Q => ∃ (a : Addr) (ps : List Addr) (kvs : List (Key × V)), xs = [V.ref a] ∧ SqL K H a (ps.map V.ref) ∧ Paired (fun p kv => SqT K H p [kV kv.1, kv.2]) ps kvs ∧
    ∀ p, H p = none → Q (.ref p) (upd H p (.dK (mergeK [] kvs)))) [v] H Q) gDictP := by
  intro W H v x z Q rx e k
  cases x with
  | list ds =>
    obtain ⟨a, xs, rfl, s, r⟩ := rx
    have e : (pairsD ds).map (fun kvs => RV.nw (.dic (mergeD [] kvs))) = some z := e
    cases ep : pairsD ds with
    | none => rw [ep] at e; cases e
    | some kvs =>
      rw [ep] at e
      cases e
      obtain ⟨ps, ks, e1, e2, e3⟩ := pairs_ok r ep
      subst e1
      refine ⟨a, ps, ks, rfl, .inl s, e2, fun p np => ?_⟩
      have ex : Ext W H (setW W p (.own [0])) (upd H p (.dK (mergeK [] ks))) := ext_new (K := K) np
      exact k _ _ _ ex (.dic setW_same upd_same ((RpKV.merge e3 .nil).fz ex.fz))
  | _ => cases e
end
end M

set_option maxHeartbeats 2000000
/-! M24: records (dicts by fixed words): read, stored, made. Own work. -/
namespace M
open PySem PySem.Spec PyProof.Rows L2

theorem valV_rk {f : Str} : ∀ {vs : List (Str × V)}, valV (rk vs) (Sum.inr f) = vs.lookup f
  | [] => rfl
  | (g, v) :: r => by
    rw [lookup_cons]
    by_cases e : g = f
    · rw [if_pos e]
      subst e
      simp [valV, rk, List.find?_cons]
    · rw [if_neg e, ← valV_rk (vs := r)]
      simp [valV, rk, List.find?_cons, e]
theorem rk_any {f : Str} {vs : List (Str × V)} : ((rk vs).any fun kv => decide (kv.1 = (Sum.inr f : Key))) = vs.any fun kv => decide (kv.1 = f) := by
  induction vs with
  | nil => rfl
  | cons x r ih => simp only [rk, List.map_cons, List.any_cons] at ih ⊢; rw [ih]; congr 1; simp
theorem rk_put {f : Str} {v : V} : ∀ {vs : List (Str × V)}, (vs.map (·.1)).Nodup → putK (rk vs) (Sum.inr f) v = rk (putF f v vs)
  | [], _ => rfl
  | (g, u) :: r, hn => by
    have hn := List.nodup_cons.mp hn
    have ih := rk_put (f := f) (v := v) (vs := r) hn.2
    unfold putF
    by_cases e : g = f
    · rw [if_pos e]
      subst e
      have hno : (rk r).map (fun kv => if kv.1 = (Sum.inr g : Key) then (kv.1, v) else kv) = rk r := by
        have : ∀ kv ∈ rk r, (if kv.1 = (Sum.inr g : Key) then (kv.1, v) else kv) = kv := fun kv hkv => by
          obtain ⟨x, hx, rfl⟩ := List.mem_map.mp hkv
          rw [if_neg]
          intro e
          exact hn.1 (List.mem_map.mpr ⟨x, hx, Sum.inr.inj e⟩)
        rw [List.map_congr_left this, List.map_id']
      have hp : putK (rk ((g, u) :: r)) (Sum.inr g) v = ((Sum.inr g : Key), v) :: (rk r).map (fun kv => if kv.1 = (Sum.inr g : Key) then (kv.1, v) else kv) := by
        unfold putK
        rw [if_pos (by simp [rk])]
        simp [rk]
      rw [hp, hno]
      rfl
    · rw [if_neg e]
      have e' : ¬ ((Sum.inr g : Key) = Sum.inr f) := fun z => e (Sum.inr.inj z)
      unfold putK at ih ⊢
      rw [rk_any] at ih ⊢
      by_cases h : (r.any fun kv => decide (kv.1 = f)) = true
      · rw [if_pos h] at ih
        rw [if_pos (by simp only [List.any_cons, h, Bool.or_true])]
        show ((if (Sum.inr g : Key) = Sum.inr f then ((Sum.inr g : Key), v) else (Sum.inr g, u)) :: (rk r).map _) = _
        rw [if_neg e', ih]
        rfl
      · rw [if_neg h] at ih
        rw [if_neg (by simp only [List.any_cons, e, decide_false, Bool.false_or]; exact h)]
        show (Sum.inr g, u) :: (rk r ++ _) = _
        rw [ih]
        rfl
/-! ### r["f"] -/
def mrget (f : Str) (m : ME) : ME := fun S => (m S).bind fun r S1 => match r with
  | .pk p (.rcd fs) => match fIx f 0 fs with
    | some (k, t) => .ok (fldV (k :: p) t) S1
    | none => .stuck
  | _ => .stuck
section
variable {X : Cx} {G : GC} {b : Bool} {o e : Expr} {m : ME} {pos pos' cp : Pos} {f : Str} {j : Nat}
theorem ev_rget (hu : X.A.units + 64 < cLine) (h : EV b X G o m) (hs : NoSl (.Constant (.str f) j cp) := by exact fun _ _ => rfl) : EV b X G (.Subscript o (.Constant (.str f) j cp) pos) (mrget f m) :=
  ⟨(pe_dget (by omega) h.pe pe_str hs).imp fun σ H Q ⟨S, W, cc, q⟩ => ⟨S, W, cc, (okR.one q).imp fun v H1 ⟨r, S1, W1, st, c1, rv, q1⟩ => by
    split at q1
    · rename_i p fs
      split at q1
      · rename_i k t ek
        obtain ⟨tr, nv⟩ := rv
        obtain ⟨q0, i0, ep⟩ := nv.last
        cases tr with
        | @rcd _ a vs _ w e1 tf =>
          obtain ⟨u, h1, h2, h3, h4⟩ := tf.find ek
          have hv : valV (rk vs) (Sum.inr f) = some u := by rw [valV_rk]; exact h1
          refine ⟨a, u, rfl, by rw [← hv]; exact DGet.k (k := Sum.inr f) e1, q1 u H1 W1 Stp.refl c1 ?_⟩
          cases t with
          | d x => cases h4 with | d h => exact h
          | lst x => refine ⟨h4, ?_⟩; subst ep; cases q0 <;> exact ⟨a, f, nv, .inr (.inl ⟨vs, e1, by simpa using h3⟩)⟩
          | dic x => refine ⟨h4, ?_⟩; subst ep; cases q0 <;> exact ⟨a, f, nv, .inr (.inl ⟨vs, e1, by simpa using h3⟩)⟩
          | obj x y => refine ⟨h4, ?_⟩; subst ep; cases q0 <;> exact ⟨a, f, nv, .inr (.inl ⟨vs, e1, by simpa using h3⟩)⟩
          | rcd x => refine ⟨h4, ?_⟩; subst ep; cases q0 <;> exact ⟨a, f, nv, .inr (.inl ⟨vs, e1, by simpa using h3⟩)⟩
          | fdc x => refine ⟨h4, ?_⟩; subst ep; cases q0 <;> exact ⟨a, f, nv, .inr (.inl ⟨vs, e1, by simpa using h3⟩)⟩
          | lot x => refine ⟨h4, ?_⟩; subst ep; cases q0 <;> exact ⟨a, f, nv, .inr (.inl ⟨vs, e1, by simpa using h3⟩)⟩
          | tot x => refine ⟨h4, ?_⟩; subst ep; cases q0 <;> exact ⟨a, f, nv, .inr (.inl ⟨vs, e1, by simpa using h3⟩)⟩
      · exact q1.elim
    · exact q1.elim⟩⟩
/-- the words of a record are unlike -/
def ndS (fs : List (Str × MV)) : Bool := decide ((fs.map (·.1)).Nodup)
theorem TrF.names {K : Frag} {W : Own} {H : Hp} {p : Path} : ∀ {fs : List (Str × MV)} {n : Nat} {vs : List (Str × V)}, TrF K W H p n vs fs → vs.map (·.1) = fs.map (·.1)
  | [], _, _, h => by cases h; rfl
  | _ :: fs, _, _, h => by cases h with | cons a b => simp [b.names]
/-- r["f"] = e, r a name -/
def mrput (own : Bool) (f : Str) (i : Nat) (m : ME) : MSt := fun S => (m S).toS fun r S1 => match r.st own, S1[i]? with
  | some t, some (some (.rcd fs)) => if ndS fs = true ∧ fs.length < 1000 then .nx (updS [i + 1] (.rcd (putT f t fs)) S1) else .stuck
  | _, _ => .stuck
theorem rcd_put {K : Frag} {S1 : MS} {σ : L2.St} {W1 W2 : Own} {H1 : Hp} {i : Nat} {u v : V} {f : Str} {t : MV} {fs : List (Str × MV)} (c1 : Conc K G S1 σ H1 W1) (hu : σ[i]? = some (some u)) (tr : Tr K W1 H1 [i + 1] u (.rcd fs)) (nd : ndS fs = true) (hl : fs.length < 1000)
    (ex : Ext W1 H1 W2 H1) (tv : Tr K W2 H1 [posF f 0 fs, i + 1] v t) : ∃ a H2, u = .ref a ∧ DPut H1 a (kV (Sum.inr f)) v H2 ∧ Mono W1 H1 W2 H2 ∧ Conc K G (updS [i + 1] (.rcd (putT f t fs)) S1) σ H2 W2 := by
  have c2 := c1.ext ex
  have tr2 := Tr.ext (q := []) ex tr
  cases tr2 with
  | @rcd _ a vs _ w e1 tf =>
    refine ⟨a, _, rfl, DPut.k e1 (by rw [rk, List.length_map, tf.len, sizeLine_eq]; omega), ?_⟩
    rw [rk_put (by rw [tf.names]; exact of_decide_eq_true nd)]
    have tv' : Tr K W2 (upd H1 a (.dK (rk (putF f v vs)))) [posF f 0 fs, i + 1] v t := tv.keep (fun b u hb hw => ⟨hw, by
      have : b ≠ a := fun e => by rw [e, w] at hw; cases hw
      rw [upd_ne this]; exact hb⟩) fun b u l hb hw => ⟨hw, by
      have : b ≠ a := fun e => by
        rw [e, w] at hw
        have := congrArg List.length (Mk.own.inj hw)
        simp at this
      rw [upd_ne this]; exact hb⟩
    obtain ⟨mo, c3⟩ := c2.mut (p := [i + 1]) (a := a) ⟨i, rfl, hu⟩ w (t := .rcd (putT f t fs)) (.rcd w upd_same ((tf.upd w).put tv'))
    exact ⟨ex.mono.trans mo, c3⟩
theorem st_rput {own : Bool} {i : Nat} (hx : X.A.units + 64 < cLine) (ho : PE X o (tVar i)) (h : EV b X G e m) (hs : swapsWith e (some (.Subscript o (.Constant (.str f) j cp) pos')) pos.line X.env = pure false := by rfl) : ST X G (.Assign [.Subscript o (.Constant (.str f) j cp) pos'] e pos) (mrput own f i m) :=
  ⟨(ps_dput (by omega) ho pe_str h.pe hs).imp fun D σ H ⟨S, W, cc, q⟩ => ⟨S, W, cc, (okR_of_S (ra := relV X.K σ) q).imp fun v H1 ⟨r, S1, W1, c1, rv, q1⟩ => by
    split at q1
    · rename_i t fs et es
      split at q1
      · rename_i hc
        obtain ⟨u, hu, tr⟩ := c1.tr i _ es
        obtain ⟨W2, ex, tv⟩ := st_ok [posF f 0 fs, i + 1] rv et
        obtain ⟨a, H2, eu, hd, mo, c2⟩ := rcd_put (f := f) c1 hu tr hc.1 hc.2 ex tv
        exact ⟨u, hu, a, H2, eu, hd, q1 σ H2 W2 mo c2⟩
      · exact q1.elim
    · exact q1.elim⟩⟩
/-- r["f"] op= e (ints) -/
def mraug (f : Str) (i : Nat) (g : Int → Int → Int) (m : ME) : MSt := fun S => match S[i]? with
  | some (some (.rcd fs)) => match fIx f 0 fs with
    | some (_, .d (.int x)) => (m S).toS fun r S1 => match r, S1[i]? with
      | .d (.int y), some (some (.rcd fs')) => if ndS fs' = true ∧ fs'.length < 1000 then .nx (updS [i + 1] (.rcd (putT f (.d (.int (g x y))) fs')) S1) else .stuck
      | _, _ => .stuck
    | _ => .stuck
  | _ => .stuck
end
/-! ### x = {"f": .., ..} -/
section
variable {X : Cx} {G : GC} {b : Bool} {v e : Expr} {m mv : ME} {pos cp : Pos} {f : Str} {j i n : Nat} {ks : List (Option Expr)} {vs : List Expr} {ns : List Str}
abbrev relF (K : Frag) (i n : Nat) (ns : List Str) : Own → Hp → List (Str × V) → List (Str × MV) → Prop := fun W H us fs => TrF K W H [i + 1] n us fs ∧ us.map (·.1) = ns
abbrev MFs := MS → R (List (Str × MV))
structure DV (X : Cx) (G : GC) (pos : Pos) (i n : Nat) (ks : List (Option Expr)) (vs : List Expr) (ns : List Str) (m : MFs) : Prop where
  ex : ∃ trs, PPs X pos ks vs trs ∧ ∀ (σ : L2.St) (H : Hp) (Q : List (Str × V) → Hp → Prop) (Q' : List (V × V) → Hp → Prop) (S : MS) (W : Own), (∀ us H', Q us H' → Q' (us.map fun kv => (V.str kv.1, kv.2)) H') → Conc X.K G S σ H W → okR (relF X.K i n ns) X.K G true W H σ Q (m S) →
    tPairs trs σ H Q'
  lens : ks.length = ns.length ∧ True
def mrnil : MFs := fun S => .ok [] S
def mkeepF (o : Option MV) (k : MV → R (List (Str × MV))) : R (List (Str × MV)) := match o with
  | some t => k t
  | none => .stuck
def mrcons (f : Str) (mv : ME) (m : MFs) : MFs := fun S => (mv S).bind fun r S1 => mkeepF r.keepF fun t => (m S1).bind fun fs S2 => .ok ((f, t) :: fs) S2
theorem dv_nil : DV X G pos i n [] [] [] mrnil := ⟨⟨[], pps_nil, fun σ H Q Q' S W z c q => z [] H (q [] H W Stp.refl c ⟨.nil, rfl⟩)⟩, rfl, trivial⟩
theorem dv_cons {mr : MFs} (h : EV true X G v mv) (r : DV X G pos i (n + 1) ks vs ns mr) : DV X G pos i n (some (.Constant (.str f) j cp) :: ks) (v :: vs) (f :: ns) (mrcons f mv mr) := by
  obtain ⟨trs, pp, hp⟩ := r.ex
  refine ⟨⟨_, pps_cons pe_str h.pe pp, fun σ H Q Q' S W z c q => ?_⟩, by simp [r.lens.1], trivial⟩
  refine ⟨S, W, c, (okR.one q).imp fun u H1 ⟨x, S1, W1, st, c1, rv, q1⟩ => ?_⟩
  unfold mkeepF at q1
  split at q1
  · rename_i t et
    obtain ⟨W2, ex, tv⟩ := keepF_ok [n, i + 1] rv et
    have q2 := okR.one (ra := relF X.K i (n + 1) ns) (q1.shift' ex)
    exact hp σ H1 (fun us H' => Q ((f, u) :: us) H') _ S1 W2 (fun us H' hq => z ((f, u) :: us) H' hq) (c1.ext ex)
      (q2.imp fun us H2 ⟨fs, S2, W3, st2, c2, rr, q3⟩ => q3 _ H2 W3 Stp.refl c2 ⟨.cons (Tr.ext (q := [n]) st2 tv) rr.1, by simp [rr.2]⟩)
  · exact q1.elim
theorem mergeK_rk : ∀ {us : List (Str × V)} {ks : List (Key × V)}, (us.map (·.1)).Nodup → (∀ u ∈ us, ∀ k ∈ ks, k.1 ≠ (Sum.inr u.1 : Key)) → mergeK ks (rk us) = ks ++ rk us
  | [], ks, _, _ => by simp [mergeK, rk]
  | (g, v) :: r, ks, hn, hd => by
    have hn := List.nodup_cons.mp hn
    have e : putK ks (Sum.inr g : Key) v = ks ++ [(Sum.inr g, v)] := by
      unfold putK
      rw [if_neg]
      simp only [List.any_eq_true, decide_eq_true_eq, not_exists, not_and]
      exact fun k hk => hd (g, v) List.mem_cons_self k hk
    show mergeK (putK ks (Sum.inr g : Key) v) (rk r) = _
    rw [e, mergeK_rk hn.2 fun u hu k hk => ?_]
    · simp [rk]
    · rcases List.mem_append.mp hk with hk | hk
      · exact hd u (List.mem_cons_of_mem _ hu) k hk
      · rw [List.mem_singleton.mp hk]
        intro z
        have z := Sum.inr.inj z
        exact hn.1 (List.mem_map.mpr ⟨u, hu, z.symm⟩)
def mrcd (i : Nat) (m : MFs) : MSt := fun S => match S[i]? with
  | some none => (m S).toS fun fs S1 => match S1[i]? with
    | some none => .nx (S1.set i (some (.rcd fs)))
    | _ => .stuck
  | _ => .stuck
theorem st_rcd {st : Stmt} {m : MFs} (hp : ∀ te, PE X (.Dict ks vs pos) te → PS X st (tAsg te (gName i))) (hi : Free G i) (d : DV X G pos i 0 ks vs ns m) (hn : ns.Nodup := by decide +kernel)
    (hall : ks.all (·.isSome) = true := by rfl) (hl : ks.length = vs.length := by rfl) (h0 : ks ≠ [] := by exact fun h => nomatch h) (h15 : ks.length ≤ 15 := by decide) : ST X G st (mrcd i m) := by
  obtain ⟨trs, pp, hd⟩ := d.ex
  refine ⟨(hp _ (pe_disp pp hall hl h0 h15)).imp fun D σ H ⟨S, W, c, q⟩ => ?_⟩
  unfold mrcd at q
  split at q
  · rename_i es
    intro p np
    have ex : Ext W H (setW W p (.own [i + 1])) (upd H p (.dK [])) := ext_new (K := X.K) np
    have q1 := okR_of_S' (σ := σ) (ra := relF X.K i 0 ns) (b := true) (okS.ext q ex)
    refine hd σ _ (fun us H2 => H2 p = some (.dK []) ∧ us.length ≤ 15 ∧ D.nx (σ.set i (some (.ref p))) (upd H2 p (.dK (mergeK [] (rk us))))) _ S (setW W p (.own [i + 1])) (fun us H' hq => ?_) (c.ext ex) (q1.imp fun us H2 ⟨fs, S1, W1, st1, c1, rr, q2⟩ => ?_)
    · exact ⟨hq.1, rk us, by simp [rk, kV], by rw [rk, List.length_map]; exact hq.2.1, hq.2.2⟩
    · have e0 := st1 p _ upd_same
      have w1 : W1 p = .own [i + 1] := by rw [e0.2 (by rw [setW_same]; exact ntmp_own (l := []))]; exact setW_same
      obtain ⟨tf, en⟩ := rr
      have hnd : (us.map (·.1)).Nodup := by rw [en]; exact hn
      have lp : ks.length = ns.length := d.lens.1
      refine ⟨e0.1, by have := congrArg List.length en; simp at this; omega, ?_⟩
      rw [mergeK_rk hnd (fun _ _ _ h => by cases h), List.nil_append]
      split at q2
      rotate_left
      · exact q2.elim
      rename_i es1
      have mo : Mono W1 H2 W1 (upd H2 p (.dK (rk us))) := fun b u hb hw => by
        have : b ≠ p := fun e => by rw [e, w1] at hw; rcases hw with hw | hw <;> cases hw
        exact ⟨rfl, by rw [upd_ne this]; exact hb⟩
      have c2 : Conc X.K G S1 σ (upd H2 p (.dK (rk us))) W1 := ⟨c1.len, fun j t hj => by
        obtain ⟨v, h1, h2⟩ := c1.tr j t hj
        refine ⟨v, h1, h2.keep mo.fz fun a o l ha hw => ⟨hw, ?_⟩⟩
        have : a ≠ p := fun e => by
          rw [e, w1] at hw
          have h3 := Mk.own.inj hw
          have h4 := congrArg List.getLast? h3
          simp at h4
          subst h4
          rw [es1] at hj
          cases hj
        rw [upd_ne this]; exact ha, c1.mono.trans mo, c1.args⟩
      exact q2 _ _ W1 mo (c2.set hi Ext.refl (.rcd w1 upd_same (tf.upd w1)))
  · exact q.elim
end
end M

set_option maxHeartbeats 2000000
/-! M25: r["f"] op= e; a, b = e, f with things that are owned. Own work. -/
namespace M
open PySem PySem.Spec PyProof.Rows L2

section
variable {X : Cx} {G : GC} {b : Bool} {o e a c : Expr} {m k : ME} {pos cp tpos : Pos} {f : Str} {j' : Nat}
theorem st_raug {i : Nat} {op : Operator} {g : Int → Int → Int} {rd : V → V → Hp → VK → Prop} (hx : X.A.units + 64 < cLine) (hop : InOp X op rd) (hrd : ∀ (x y : Int) H (Q : VK), Q (.int (g x y)) H → rd (.int x) (.int y) H Q)
    (ho : PE X o (tVar i)) (h : EV b X G e m) (ha : ∀ ov iv new, augStore (.Constant (.str f) j' cp) ov iv new = (do holding [new, ov, iv] (setItem ov iv new); release [new, ov, iv] []; pure .next) := by intro _ _ _; rfl) :
    ST X G (.AugAssign (.Subscript o (.Constant (.str f) j' cp) tpos) op e pos) (mraug f i g m) :=
  ⟨(ps_daug (by omega) ho pe_str h.pe hop ha).imp fun D σ H ⟨S, W, cc, q⟩ => by
    unfold mraug at q
    split at q
    · rename_i fs es0
      split at q
      · rename_i k0 x ek
        obtain ⟨u, hu, tr⟩ := cc.tr i _ es0
        refine ⟨u, hu, ?_⟩
        cases tr with
        | @rcd _ a vs _ w e1 tf =>
          obtain ⟨v0, h1, h2, h3, h4⟩ := tf.find ek
          cases h4 with
          | d h4 =>
            cases h4
            have hv : valV (rk vs) (Sum.inr f) = some (V.int x) := by rw [valV_rk]; exact h1
            refine ⟨a, .int x, rfl, by rw [← hv]; exact DGet.k (k := Sum.inr f) e1, S, W, cc, (okR_of_S (ra := relV X.K σ) q).imp fun v H1 ⟨r, S1, W1, c1, rv, q1⟩ => ?_⟩
            split at q1
            · rename_i y fs' es1
              split at q1
              · rename_i hc
                have rv : Rp X.K W1 H1 v (.int y) := rv
                cases rv
                obtain ⟨u', hu', tr'⟩ := c1.tr i _ es1
                rw [hu] at hu'
                cases hu'
                obtain ⟨a', H2, eu, hd, mo, c2⟩ := rcd_put (f := f) (t := .d (.int (g x y))) (v := .int (g x y)) c1 hu tr' hc.1 hc.2 Ext.refl (.d .int)
                cases eu
                exact hrd _ _ _ _ ⟨H2, hd, q1 σ H2 W1 mo c2⟩
              · exact q1.elim
            · exact q1.elim
      · exact q.elim
    · exact q.elim⟩
def mpar2T (i j : Nat) (m k : ME) : MSt := fun S => (m S).toS fun r S1 => match r.keep with
  | some t1 => (k S1).toS fun r2 S2 => match r2.keep, S2[i]? with
    | some t2, some none => .nx ((S2.set i (some t1)).set j (some t2))
    | _, _ => .stuck
  | none => .stuck
theorem st_par2T {i j : Nat} {st : Stmt} (hp : ∀ ta, PA X [a, c] ta → PS X st (tPar i j ta)) (hi : Free G i) (hj : Free G j) (h : EV b X G a m) (h2 : EV true X G c k)
    (hs : starEach [a, c] X.env = (false, eval a X.env) :: starEach [c] X.env := by rfl) (hs2 : starEach [c] X.env = (false, eval c X.env) :: starEach [] X.env := by rfl) : ST X G st (mpar2T i j m k) :=
  ⟨(hp _ (pa_cons h.pe (pa_cons h2.pe pa_nil hs2) hs)).imp fun D σ H ⟨S, W, cc, q⟩ => ⟨S, W, cc, (okR_of_S (ra := relV X.K σ) q).imp fun v H1 ⟨r, S1, W1, c1, rv, q1⟩ => by
    split at q1
    · rename_i t1 e1
      have tr1 := keep_ok [i + 1] rv e1
      have q1 := q1.ext (ext_mvW (p := [i + 1]))
      refine ⟨S1, _, c1.ext ext_mvW, (okR_of_S' (b := true) (ra := relV X.K σ) q1).imp fun w H2 ⟨r2, S2, W2, st2, c2, rv2, q2⟩ => ?_⟩
      split at q2
      · rename_i t2 e2 es
        have tr2 := keep_ok [j + 1] rv2 e2
        have tr1 := Tr.ext (q := []) (Ext.trans st2 (ext_mvW (p := [j + 1]))) tr1
        refine ⟨v, w, rfl, ?_⟩
        have c3 := ((c2.ext (ext_mvW (p := [j + 1]))).set hi Ext.refl tr1).set hj Ext.refl tr2
        exact q2 _ _ _ ext_mvW.mono c3
      · exact q2.elim
    · exact q1.elim⟩⟩
end
/-! ### r["f"], r["g"] = e, h -/
inductive RT (K : Frag) (W : Own) (H : Hp) (i : Nat) : List Nat → List V → List MV → Prop
  | nil : RT K W H i [] [] []
  | cons {p : Nat} {ps : List Nat} {v : V} {vs : List V} {t : MV} {ts : List MV} : Tr K W H [p, i + 1] v t → RT K W H i ps vs ts → RT K W H i (p :: ps) (v :: vs) (t :: ts)
theorem RT.ext {K : Frag} {W W' : Own} {H H' : Hp} {i : Nat} (e : Ext W H W' H') : ∀ {ps : List Nat} {vs : List V} {ts : List MV}, RT K W H i ps vs ts → RT K W' H' i ps vs ts
  | _, _, _, .nil => .nil
  | _, _, _, .cons a b => .cons (Tr.ext (q := [_]) e a) (b.ext e)
theorem RT.len {K : Frag} {W : Own} {H : Hp} {i : Nat} : ∀ {ps : List Nat} {vs : List V} {ts : List MV}, RT K W H i ps vs ts → vs.length = ps.length
  | _, _, _, .nil => rfl
  | _, _, _, .cons a b => by simp [b.len]
theorem RT.upd {K : Frag} {W : Own} {H : Hp} {i : Nat} {a : Addr} {o : HO} (ha : W a = .own [i + 1]) : ∀ {ps : List Nat} {vs : List V} {ts : List MV}, RT K W H i ps vs ts → RT K W (upd H a o) i ps vs ts
  | _, _, _, .nil => .nil
  | _, _, _, .cons x y => .cons (x.keep (fun b u hb hw => ⟨hw, by
      have : b ≠ a := fun e => by rw [e, ha] at hw; cases hw
      rw [upd_ne this]; exact hb⟩) fun b u l hb hw => ⟨hw, by
      have : b ≠ a := fun e => by
        rw [e, ha] at hw
        have := congrArg List.length (Mk.own.inj hw)
        simp at this
      rw [upd_ne this]; exact hb⟩) (y.upd ha)
abbrev MTs := MS → R (List MV)
def tAT (K : Frag) (G : GC) (i : Nat) (ps : List Nat) (m : MTs) : TA := fun σ H Q => ∃ S W, Conc K G S σ H W ∧ okR (fun W H vs ts => RT K W H i ps vs ts) K G true W H σ Q (m S)
structure AT (X : Cx) (G : GC) (i : Nat) (es : List Expr) (ps : List Nat) (m : MTs) : Prop where
  pa : PA X es (tAT X.K G i ps m)
def mtnil : MTs := fun S => .ok [] S
def mkT (o : Option MV) (k : MV → R (List MV)) : R (List MV) := match o with
  | some t => k t
  | none => .stuck
def mtcons (own : Bool) (m : ME) (k : MTs) : MTs := fun S => (m S).bind fun r S1 => mkT (r.st own) fun t => (k S1).bind fun ts S2 => .ok (t :: ts) S2
section
variable {X : Cx} {G : GC} {i p : Nat} {e o : Expr} {es : List Expr} {ps : List Nat} {m : ME} {k : MTs} {pos cp p1 p2 : Pos} {f : Str} {j : Nat}
theorem at_nil : AT X G i [] [] mtnil := ⟨⟨fun pos pins s σ H Q I ⟨S, W, c, q⟩ => pa_nil.run pos pins s σ H Q I (q [] H W Stp.refl c .nil)⟩⟩
theorem at_cons {own : Bool} (h : EV true X G e m) (r : AT X G i es ps k) (hs : starEach (e :: es) X.env = (false, eval e X.env) :: starEach es X.env := by rfl) : AT X G i (e :: es) (p :: ps) (mtcons own m k) :=
  ⟨⟨fun pos pins s σ H Q I ⟨S, W, cc, q⟩ => (pa_cons h.pe r.pa hs).run pos pins s σ H Q I ⟨S, W, cc, (okR.one q).imp fun v H1 ⟨x, S1, W1, st, c1, rv, q1⟩ => by
    unfold mkT at q1
    split at q1
    · rename_i t et
      obtain ⟨W2, ex, tv⟩ := st_ok [p, i + 1] rv et
      exact ⟨S1, W2, c1.ext ex, (okR.one (q1.shift' ex)).imp fun vs H2 ⟨ts, S2, W3, st2, c2, rr, q2⟩ => q2 _ H2 W3 Stp.refl c2 (.cons (Tr.ext (q := [p]) st2 tv) rr)⟩
    · exact q1.elim⟩⟩⟩
def rputs (i : Nat) : List (Str × Nat) → List MV → MS → Option MS
  | [], [], S => some S
  | (f, p) :: r, t :: ts, S => match S[i]? with
    | some (some (.rcd fs)) => if ndS fs = true ∧ fs.length < 1000 ∧ posF f 0 fs = p then rputs i r ts (updS [i + 1] (.rcd (putT f t fs)) S) else none
    | _ => none
  | _, _, _ => none
structure GR (X : Cx) (G : GC) (i : Nat) (tgs : List Expr) (fps : List (Str × Nat)) : Prop where
  ex : ∃ u : TGs, PGs X tgs u ∧ ∀ (vs : List V) (ts : List MV) (σ : L2.St) (H : Hp) (W : Own) (S S' : MS) (Q : L2.St → Hp → Prop), Conc X.K G S σ H W → RT X.K W H i (fps.map (·.2)) vs ts → rputs i fps ts S = some S' →
    (∀ H' W', Mono W H W' H' → Conc X.K G S' σ H' W' → Q σ H') → u vs σ H Q
theorem gr_nil : GR X G i [] [] := ⟨gNil, pgs_nil, fun vs ts σ H W S S' Q c r e q => by
  cases r
  cases e
  exact ⟨rfl, q H W Mono.refl c⟩⟩
theorem gr_cons {tgs : List Expr} {fps : List (Str × Nat)} (hx : X.A.units + 64 < cLine) (ho : PE X o (tVar i)) (r : GR X G i tgs fps)
    (ha : ∀ v, assign (.Subscript o (.Constant (.str f) j cp) pos) X.env v = (do
      let ov ← holding [v] (eval o X.env)
      let iv ← holding [v, ov] (eval (.Constant (.str f) j cp) X.env)
      standAt pos
      holding [v, ov, iv] (setItem ov iv v)
      release [v, ov, iv] []) := by intro _; rfl)
    (hs : (assignEach (.Subscript o (.Constant (.str f) j cp) pos :: tgs) X.env).map (·.2) = assign (.Subscript o (.Constant (.str f) j cp) pos) X.env :: (assignEach tgs X.env).map (·.2) := by rfl) : GR X G i (.Subscript o (.Constant (.str f) j cp) pos :: tgs) ((f, p) :: fps) := by
  obtain ⟨u, pg, hu⟩ := r.ex
  refine ⟨_, pgs_cons (pg_sub ho pe_str (set_dict (by omega)) ha) pg hs, fun vs ts σ H W S S' Q c rt e q => ?_⟩
  cases rt with
  | @cons _ _ v vs t ts tr rt =>
    unfold rputs at e
    split at e
    · rename_i fs es
      split at e
      · rename_i hc
        obtain ⟨h1, h2, h3⟩ := hc
        obtain ⟨w, hw, trr⟩ := c.tr i _ es
        refine ⟨v, vs, rfl, w, hw, ?_⟩
        subst h3
        obtain ⟨a, H2, eu, hd, mo, c2⟩ := rcd_put (f := f) c hw trr h1 h2 Ext.refl tr
        refine ⟨a, H2, eu, hd, ?_⟩
        subst eu
        have rt2 : RT X.K W H2 i (fps.map (·.2)) vs ts := by
          cases trr with
          | @rcd _ _ us _ wa e1 tf =>
            rcases hd with ⟨kvs, k, g1, g2, g3, g4⟩ | ⟨kvs, k, b, g1, _⟩
            · rw [g4]; exact rt.upd wa
            · rw [e1] at g1; cases g1
        exact hu vs ts σ H2 W _ S' Q c2 rt2 e fun H' W' mo' c' => q H' W' (mo.trans mo') c'
      · cases e
    · cases e
def mrtup (i : Nat) (fps : List (Str × Nat)) (m : MTs) : MSt := fun S => (m S).toS fun ts S1 => match rputs i fps ts S1 with
  | some S2 => .nx S2
  | none => .stuck
theorem st_rtup {tgs : List Expr} {fps : List (Str × Nat)} {kt k2 : Nat} {n : Nat} (hm : AT X G i es (fps.map (·.2)) k) (hg : GR X G i tgs fps) (hc : X.calm = true := by rfl) (hl : fps.length = n := by rfl) (hsm : n ≤ 1000000 := by decide)
    (hn : (assignEach tgs X.env).length = n := by rfl) (hst : (assignEach tgs X.env).findIdx? (·.1) = none := by rfl)
    (hs : swapsWithSole [.Tuple tgs kt p1] (.Tuple es k2 p2) pos.line X.env = pure false := by rfl) (hw : swappedStores [.Tuple tgs kt p1] (.Tuple es k2 p2) X.env = pure none := by rfl)
    (h1 : (assignEach [.Tuple tgs kt p1] X.env).map (·.2) = [assign (.Tuple tgs kt p1) X.env] := by rfl) : ST X G (.Assign [.Tuple tgs kt p1] (.Tuple es k2 p2) pos) (mrtup i fps k) := by
  obtain ⟨u, pg, hu⟩ := hg.ex
  refine ⟨(ps_asg (pe_tup hm.pa) (pg_tup hc pg hn hst) hs hw h1).imp fun D σ H ⟨S, W, cc, q⟩ => ⟨S, W, cc, (okR_of_S q).imp fun vs H1 ⟨ts, S1, W1, c1, rt, q1⟩ => ?_⟩⟩
  have ll := rt.len
  rw [List.length_map, hl] at ll
  refine ⟨by rw [ll, sizeLine_eq]; omega, fun p np => ?_⟩
  split at q1
  · rename_i S2 e2
    have ex : Ext W1 H1 (setW W1 p .frz) (upd H1 p (.tup vs)) := ext_new (K := X.K) np
    exact ⟨p, vs, rfl, .inl (.inl upd_same), ll, hu vs ts σ _ _ S1 S2 _ (c1.ext ex) (rt.ext ex) e2 fun H' W' mo c' => q1 σ H' W' (ex.mono.trans mo) c'⟩
  · exact q1.elim
end
end M

set_option maxHeartbeats 2000000
/-! M26: an owned list moved out as an expression; an owned list read by a call. Own work. -/
namespace M
open PySem PySem.Spec PyProof.Rows L2

section
variable {X : Cx} {G : GC} {e : Expr} {m : ME}
/-- an owned list as the expression's own value -/
def mmvV (i : Nat) : ME := fun S => match S[i]? with
  | some (some (.d x)) => .ok (.d x) S
  | some (some (.lst ds)) => .ok (.nw (.lst ds)) (S.set i none)
  | _ => .stuck
theorem ev_mvV {i : Nat} (h : PE X e (tVar i)) (hi : Free G i) : EV false X G e (mmvV i) :=
  ⟨h.imp fun σ H Q ⟨S, W, c, q⟩ => by
    unfold mmvV at q
    cases hs : S[i]? with
    | none => rw [hs] at q; exact q.elim
    | some o =>
      cases o with
      | none => rw [hs] at q; exact q.elim
      | some t =>
        obtain ⟨v, hv, htr⟩ := c.tr i t hs
        refine ⟨v, hv, ?_⟩
        rw [hs] at q
        obtain ⟨W', mo, c', mv⟩ := mv_rest c hi
        cases t with
        | d x => cases htr with | d r => exact q v H W Mono.refl c r
        | lst ds => exact q v H W' mo c' (mv v _ htr)
        | _ => exact q.elim⟩
end
/-! ### a list that a call reads -/
def getLv (i : Nat) (S : MS) : Option (Path × List PyData) := match S[i]? with
  | some (some (.lst ds)) => some ([i + 1], ds)
  | _ => none
def getLf (i : Nat) (f : Str) (S : MS) : Option (Path × List PyData) := match S[i]? with
  | some (some (.obj _ fs)) => (match fIx f 0 fs with
    | some (k, .lst ds) => some ([k, i + 1], ds)
    | _ => none)
  | _ => none
def getL : Pl → MS → Option (Path × List PyData)
  | .var i, S => getLv i S
  | .fld i f, S => getLf i f S
theorem getL_ok {K : Frag} {G : GC} {S : MS} {σ : L2.St} {H : Hp} {W : Own} {pl : Pl} {p : Path} {ds : List PyData} (c : Conc K G S σ H W) (e : getL pl S = some (p, ds)) :
    ∃ a xs, Nav H σ p (.ref a) ∧ W a = .own p ∧ H a = some (.lst xs) ∧ RpAll K W H xs ds := by
  cases pl with
  | var i =>
    have e : getLv i S = some (p, ds) := e
    unfold getLv at e
    split at e
    · rename_i ds' es
      cases e
      obtain ⟨v, hv, tr⟩ := c.tr i _ es
      cases tr with
      | lst w e1 rk => exact ⟨_, _, ⟨i, rfl, hv⟩, w, e1, rk⟩
    · cases e
  | fld i f =>
    have e : getLf i f S = some (p, ds) := e
    unfold getLf at e
    split at e
    · rename_i c' fs es
      split at e
      · rename_i k ds' ef
        cases e
        obtain ⟨v, hv, tr⟩ := c.tr i _ es
        cases tr with
        | @obj _ a dx _ vs _ w wd e1 ed tf =>
          obtain ⟨u, h1, h2, h3, h4⟩ := tf.find ef
          cases h4 with
          | lst w2 e2 rk => exact ⟨_, _, ⟨a, f, ⟨i, rfl, hv⟩, .inl ⟨_, dx, vs, e1, by simpa using h3⟩⟩, w2, e2, rk⟩
      · cases e
    · cases e
/-- scalars -/
def scal : PyData → Bool
  | .none => true
  | .bool _ => true
  | .int _ => true
  | .str _ => true
  | _ => false
def mborrow (pl : Pl) (m : ME) : ME := fun S => match getL pl S with
  | some (p, ds) => (match m (updS p (.d (.list ds)) S) with
    | .ok (.d x) _ => if scal x = true then .ok (.d x) S else .stuck
    | .ok (.nw (.lst es)) _ => if es.all scal = true then .ok (.nw (.lst es)) S else .stuck
    | _ => .stuck)
  | none => .stuck
section
variable {K : Frag} {W W' : Own} {H H' : Hp}
theorem scal_rp {v : V} {x : PyData} (h : Rp K W H v x) (e : scal x = true) : Rp K W' H' v x := by
  cases x with
  | none => cases h; exact .non
  | bool _ => cases h; exact .bl
  | int _ => cases h; exact .int
  | str _ => cases h; exact .str
  | _ => cases e
theorem scal_all : ∀ {es : List PyData} {vs : List V}, RpAll K W H vs es → es.all scal = true → RpAll K W' H' vs es
  | [], _, h, _ => by cases h; exact .nil
  | x :: es, _, h, e => by
    simp only [List.all_cons, Bool.and_eq_true] at e
    cases h with
    | cons a b => exact .cons (scal_rp a e.1) (scal_all b e.2)
end
section
variable {X : Cx} {G : GC} {e : Expr} {m : ME}
theorem ev_borrow {pl : Pl} (h : EV true X G e m) : EV true X G e (mborrow pl m) :=
  ⟨h.pe.imp fun σ H Q ⟨S, W, c, q⟩ => by
    unfold mborrow at q
    split at q
    · rename_i p ds eg
      obtain ⟨a, xs, nv, w, ha, rk⟩ := getL_ok c eg
      have mo : Mono W H (setW W a .frz) H := fun b u hb hw => by
        have : b ≠ a := fun e => by rw [e, w] at hw; rcases hw with hw | hw <;> cases hw
        exact ⟨setW_ne this, hb⟩
      have c' : Conc X.K G (updS p (.d (.list ds)) S) σ H (setW W a .frz) := c.rep mo nv (fun b u q hb hw hq _ => by
        have : b ≠ a := fun e => by
          rw [e, w] at hw
          have := Mk.own.inj hw
          exact hq ⟨[], by rw [← this]; rfl⟩
        exact ⟨by rw [setW_ne this]; exact hw, hb⟩) (.d (.lst ⟨setW_same, .inl ha⟩ (rk.fz mo.fz)))
      refine ⟨_, _, c', ?_⟩
      have back : ∀ {W2 : Own} {H2 : Hp}, Ext (setW W a .frz) H W2 H2 → W2 a = .frz ∧ Ext W H (setW W2 a (.own p)) H2 := fun {W2 H2} st => by
        have e1 := st a _ ha
        refine ⟨by rw [e1.2 (by rw [setW_same]; exact ntmp_frz), setW_same], fun b o hb => ⟨(st b o hb).1, fun n => ?_⟩⟩
        by_cases eb : b = a
        · subst eb; rw [setW_same, w]
        · have e2 := st b o hb
          rw [setW_ne eb] at e2
          rw [setW_ne eb]; exact e2.2 n
      cases em : m (updS p (.d (.list ds)) S) with
      | exc _ _ => rw [em] at q; exact q.elim
      | stuck => rw [em] at q; exact q.elim
      | ok r S1 =>
        rw [em] at q
        intro v H2 W2 st c2 rv
        obtain ⟨e1, ext⟩ := back st
        cases r with
        | d x =>
          dsimp only at q
          split at q
          · rename_i hs
            exact q v _ _ ext (c.ext ext) (scal_rp rv hs)
          · exact q.elim
        | pk _ _ => exact q.elim
        | nw t =>
          cases t with
          | lst es =>
            dsimp only at q
            split at q
            · rename_i hs
              have rv : Tr X.K W2 H2 [0] v (.lst es) := rv
              cases rv with
              | @lst _ l ys _ wl el rl =>
                have hb : l ≠ a := fun e => by rw [e, e1] at wl; cases wl
                exact q _ _ _ ext (c.ext ext) (.lst (by rw [setW_ne hb]; exact wl) el (scal_all rl hs))
            · exact q.elim
          | _ => exact q.elim
    · exact q.elim⟩
end
end M

set_option maxHeartbeats 2000000
/-! M27: reckoning with the models of M22 to M26. Own work. -/
namespace M
open PySem PySem.Spec PyProof.Rows L2

@[simp] theorem ne_bool (x y : Bool) : gNe (.bool x) (.bool y) = some (.d (.bool (!decide (x = y)))) := by
  simp [gNe, scalD, PyData.eqv, Bool.beq_eq_decide_eq]
@[simp] theorem mmvV_d {i : Nat} {x : PyData} {S : MS} (h : S[i]? = some (some (.d x))) : mmvV i S = .ok (.d x) S := by unfold mmvV; rw [h]
@[simp] theorem mmvV_l {i : Nat} {x : List PyData} {S : MS} (h : S[i]? = some (some (.lst x))) : mmvV i S = .ok (.nw (.lst x)) (S.set i none) := by unfold mmvV; rw [h]
theorem mborrow_l {pl : Pl} {m : ME} {S S1 : MS} {p : Path} {ds es : List PyData} (hg : getL pl S = some (p, ds)) (hm : m (updS p (.d (.list ds)) S) = .ok (.nw (.lst es)) S1) (hs : es.all scal = true) : mborrow pl m S = .ok (.nw (.lst es)) S := by
  unfold mborrow
  simp only [hg, hm, hs, if_true]
theorem mlock_l {pl : Pl} {m : ME} {S S1 : MS} {p : Path} {kvs : List (Key × PyData)} {es : List PyData} (hg : getP pl S = some (p, kvs)) (hm : m (updS p (.fdc kvs) S) = .ok (.nw (.lst es)) S1) : mlock pl m S = .ok (.nw (.lst es)) S := by
  unfold mlock
  simp only [hg, hm]
theorem scal_ints (ns : List Int) : (ns.map PyData.int).all scal = true := by
  rw [List.all_map]
  simp [scal]
@[simp] theorem mvar_r {i : Nat} {x : List (Str × MV)} {S : MS} (h : S[i]? = some (some (.rcd x))) : mvar i S = .ok (.pk [i + 1] (.rcd x)) S := by unfold mvar; rw [h]
@[simp] theorem mvar_f {i : Nat} {x : List (Key × PyData)} {S : MS} (h : S[i]? = some (some (.fdc x))) : mvar i S = .ok (.pk [i + 1] (.fdc x)) S := by unfold mvar; rw [h]
def isT : MV → Bool
  | .d _ => false
  | _ => true
@[simp] theorem isT_o (c : Str) (fs : List (Str × MV)) : isT (.obj c fs) = true := Eq.trans rfl rfl
@[simp] theorem isT_r (fs : List (Str × MV)) : isT (.rcd fs) = true := Eq.trans rfl rfl
@[simp] theorem mvar_t {i : Nat} {t : MV} {S : MS} (h : S[i]? = some (some t)) (ht : isT t = true) : mvar i S = .ok (.pk [i + 1] t) S := by
  unfold mvar
  rw [h]
  cases t <;> first | rfl | cases ht
@[simp] theorem updS_2 {i k : Nat} {n t : MV} {S : MS} (h : S[i]? = some (some t)) : updS [k, i + 1] n S = S.set i (some (updT [k] n t)) := by
  unfold updS
  simp only [List.reverse_cons, List.reverse_nil, List.nil_append, List.cons_append, h]
/-! ### dicts by ints -/
abbrev DI := List (Int × Int)
def kvI (d : DI) : List (Key × PyData) := d.map fun p => (Sum.inl p.1, .int p.2)
def valI (d : DI) (k : Int) : Option Int := (d.find? fun p => decide (p.1 = k)).map (·.2)
def putI (d : DI) (k v : Int) : DI := if (d.any fun p => decide (p.1 = k)) = true then d.map (fun p => if p.1 = k then (p.1, v) else p) else d ++ [(k, v)]
def dropI (d : DI) (k : Int) : DI := d.filter fun p => decide (p.1 ≠ k)
theorem valD_kvI : ∀ (d : DI) (k : Int), valD (kvI d) (Sum.inl k) = (valI d k).map PyData.int
  | [], _ => rfl
  | (a, b) :: d, k => by
    by_cases h : a = k
    · simp [valD, valI, kvI, List.find?_cons, h]
    · have ih := valD_kvI d k
      unfold valD valI kvI at ih ⊢
      simp only [List.map_cons, List.find?_cons, h, Sum.inl.injEq, decide_false]
      exact ih
theorem any_kvI (d : DI) (k : Int) : ((kvI d).any fun kv => decide (kv.1 = (Sum.inl k : Key))) = d.any fun p => decide (p.1 = k) := by
  unfold kvI
  rw [List.any_map]
  congr 1
  funext p
  simp
theorem putD_kvI (d : DI) (k v : Int) : putD (kvI d) (Sum.inl k) (.int v) = kvI (putI d k v) := by
  unfold putD putI
  rw [any_kvI]
  split
  · unfold kvI
    rw [List.map_map, List.map_map]
    apply List.map_congr_left
    intro p _
    by_cases h : p.1 = k <;> simp [h]
  · simp [kvI]
theorem dropD_kvI (d : DI) (k : Int) : dropD (kvI d) (Sum.inl k) = kvI (dropI d k) := by
  unfold dropD dropI kvI
  rw [List.filter_map]
  congr 1
  apply List.filter_congr
  intro p _
  simp
theorem keysI_kvI (d : DI) : keysI (kvI d) = some (d.map (·.1)) := by
  induction d with
  | nil => rfl
  | cons p d ih =>
    show (match keysI (kvI d) with | some ns => some (p.1 :: ns) | none => none) = _
    rw [ih]
    rfl
theorem sorted_dic {d : DI} {p : Path} (h : d.length < 64) : gSorted (.pk p (.dic (kvI d))) = some (.nw (.lst ((srt (d.map (·.1))).map PyData.int))) := by
  show (match keysI (kvI d) with | some ns => if ns.length < 64 then some (RV.nw (.lst ((srt ns).map PyData.int))) else none | none => none) = _
  rw [keysI_kvI]
  simp only [List.length_map, h, if_true]
theorem pairs_kvI : ∀ d : DI, pairsD (d.map fun p => PyData.tuple [.int p.1, .int p.2]) = some (kvI d)
  | [] => rfl
  | (a, b) :: d => by
    show (match keyD (.int a), pairsD (d.map fun p => PyData.tuple [.int p.1, .int p.2]) with | some k, some kvs => some ((k, PyData.int b) :: kvs) | _, _ => none) = _
    rw [pairs_kvI d]
    rfl
theorem mergeD_nd : ∀ {d : DI} {acc : List (Key × PyData)}, (d.map (·.1)).Nodup → (∀ p ∈ d, ∀ k ∈ acc, k.1 ≠ (Sum.inl p.1 : Key)) → mergeD acc (kvI d) = acc ++ kvI d
  | [], acc, _, _ => by simp [mergeD, kvI]
  | (a, b) :: d, acc, hn, hd => by
    have hn := List.nodup_cons.mp hn
    have e : putD acc (Sum.inl a : Key) (.int b) = acc ++ [(Sum.inl a, .int b)] := by
      unfold putD
      rw [if_neg]
      simp only [List.any_eq_true, decide_eq_true_eq, not_exists, not_and]
      exact fun k hk => hd (a, b) List.mem_cons_self k hk
    show mergeD (putD acc (Sum.inl a : Key) (.int b)) (kvI d) = _
    rw [e, mergeD_nd hn.2 fun u hu k hk => ?_]
    · simp [kvI]
    · rcases List.mem_append.mp hk with hk | hk
      · exact hd u (List.mem_cons_of_mem _ hu) k hk
      · rw [List.mem_singleton.mp hk]
        intro z
        have z := Sum.inl.inj z
        exact hn.1 (List.mem_map.mpr ⟨u, hu, z.symm⟩)
end M

set_option maxHeartbeats 2000000
/-! M28: reckoning with models: loops, comprehensions, records. Own work. -/
namespace M
open PySem PySem.Spec PyProof.Rows L2

/-! ### loops by a relation -/
def lpOk (P : MS → Prop) : RS → Prop
  | .nx S => P S
  | .ct S => P S
  | _ => False
@[simp] theorem lpOk_nx (P : MS → Prop) (S : MS) : lpOk P (.nx S) = P S := Eq.trans rfl rfl
@[simp] theorem lpOk_ct (P : MS → Prop) (S : MS) : lpOk P (.ct S) = P S := Eq.trans rfl rfl
theorem loopM_pre {β : Type} {f : MG} {body : MSt} (enc : β → PyData) (R : List β → MS → Prop) (bs : List β)
    (h : ∀ pre b post S, bs = pre ++ b :: post → R pre S → ∃ S1, f (enc b) S = some S1 ∧ lpOk (R (pre ++ [b])) (body S1)) :
    ∀ (post pre : List β) (S : MS), bs = pre ++ post → R pre S → ∃ S', loopM f body (post.map enc) S = .nx S' ∧ R bs S'
  | [], pre, S, e, h0 => ⟨S, rfl, by rw [e, List.append_nil]; exact h0⟩
  | b :: post, pre, S, e, h0 => by
    obtain ⟨S1, e1, h1⟩ := h pre b post S e h0
    rw [List.map_cons, loopM_cons e1]
    cases eb : body S1 with
    | nx S2 =>
      rw [eb] at h1
      exact loopM_pre enc R bs h post (pre ++ [b]) S2 (by rw [e]; simp) h1
    | ct S2 =>
      rw [eb] at h1
      exact loopM_pre enc R bs h post (pre ++ [b]) S2 (by rw [e]; simp) h1
    | _ => rw [eb] at h1; exact h1.elim
theorem loopM_all {β : Type} {f : MG} {body : MSt} (enc : β → PyData) (R : List β → MS → Prop) (bs : List β) (S : MS) (h0 : R [] S)
    (h : ∀ pre b post S, bs = pre ++ b :: post → R pre S → ∃ S1, f (enc b) S = some S1 ∧ lpOk (R (pre ++ [b])) (body S1)) : ∃ S', loopM f body (bs.map enc) S = .nx S' ∧ R bs S' :=
  loopM_pre enc R bs h bs [] S rfl h0
/-- by a fold -/
theorem loopM_fold {α β : Type} {f : MG} {body : MSt} (enc : β → PyData) (R : α → MS → Prop) (step : α → β → α) : ∀ (bs : List β) (a : α) (S : MS), R a S →
    (∀ a b S, b ∈ bs → R a S → ∃ S1, f (enc b) S = some S1 ∧ lpOk (R (step a b)) (body S1)) → ∃ S', loopM f body (bs.map enc) S = .nx S' ∧ R (bs.foldl step a) S'
  | [], a, S, h0, _ => ⟨S, rfl, h0⟩
  | b :: bs, a, S, h0, h => by
    obtain ⟨S1, e1, h1⟩ := h a b S List.mem_cons_self h0
    have ih := fun S2 (h2 : R (step a b) S2) => loopM_fold enc R step bs (step a b) S2 h2 fun a b S hb => h a b S (List.mem_cons_of_mem _ hb)
    rw [List.map_cons, loopM_cons e1]
    cases eb : body S1 with
    | nx S2 =>
      rw [eb] at h1
      exact ih S2 h1
    | ct S2 =>
      rw [eb] at h1
      exact ih S2 h1
    | _ => rw [eb] at h1; exact h1.elim
/-- with a return on the way -/
def lpOk2 (P : MS → Prop) (Q : RV → MS → Prop) : RS → Prop
  | .nx S => P S
  | .ct S => P S
  | .rt r S => Q r S
  | _ => False
@[simp] theorem lpOk2_nx (P : MS → Prop) (Q : RV → MS → Prop) (S : MS) : lpOk2 P Q (.nx S) = P S := Eq.trans rfl rfl
@[simp] theorem lpOk2_ct (P : MS → Prop) (Q : RV → MS → Prop) (S : MS) : lpOk2 P Q (.ct S) = P S := Eq.trans rfl rfl
@[simp] theorem lpOk2_rt (P : MS → Prop) (Q : RV → MS → Prop) (r : RV) (S : MS) : lpOk2 P Q (.rt r S) = Q r S := Eq.trans rfl rfl
theorem loopM_ret {β : Type} {f : MG} {body : MSt} (enc : β → PyData) (R : List β → MS → Prop) (Q : List β → RV → MS → Prop) (bs : List β)
    (h : ∀ pre b post S, bs = pre ++ b :: post → R pre S → ∃ S1, f (enc b) S = some S1 ∧ lpOk2 (R (pre ++ [b])) (Q (pre ++ [b])) (body S1)) :
    ∀ (post pre : List β) (S : MS), bs = pre ++ post → R pre S → (∃ S', loopM f body (post.map enc) S = .nx S' ∧ R bs S') ∨ ∃ r S' pre' post', loopM f body (post.map enc) S = .rt r S' ∧ bs = pre' ++ post' ∧ Q pre' r S'
  | [], pre, S, e, h0 => .inl ⟨S, rfl, by rw [e, List.append_nil]; exact h0⟩
  | b :: post, pre, S, e, h0 => by
    obtain ⟨S1, e1, h1⟩ := h pre b post S e h0
    rw [List.map_cons, loopM_cons e1]
    cases eb : body S1 with
    | nx S2 =>
      rw [eb] at h1
      exact loopM_ret enc R Q bs h post (pre ++ [b]) S2 (by rw [e]; simp) h1
    | ct S2 =>
      rw [eb] at h1
      exact loopM_ret enc R Q bs h post (pre ++ [b]) S2 (by rw [e]; simp) h1
    | rt r S2 =>
      rw [eb] at h1
      exact .inr ⟨r, S2, pre ++ [b], post, rfl, by rw [e]; simp, h1⟩
    | _ => rw [eb] at h1; exact h1.elim
/-- while, by a number that falls -/
def whOk (t : MT) (body : MSt) (P Fin : MS → Prop) (S : MS) : Prop := match t S with
  | .ok true S1 => (match body S1 with
    | .nx S2 => P S2
    | .ct S2 => P S2
    | .bk S2 => Fin S2
    | _ => False)
  | .ok false S1 => Fin S1
  | _ => False
def whB (P Fin : MS → Prop) : RS → Prop
  | .nx S2 => P S2
  | .ct S2 => P S2
  | .bk S2 => Fin S2
  | _ => False
def whT (body : MSt) (P Fin : MS → Prop) : R Bool → Prop
  | .ok c S1 => if c = true then whB P Fin (body S1) else Fin S1
  | _ => False
@[simp] theorem whT_ok (body : MSt) (P Fin : MS → Prop) (c : Bool) (S1 : MS) : whT body P Fin (.ok c S1) = if c = true then whB P Fin (body S1) else Fin S1 := Eq.trans rfl rfl
@[simp] theorem whB_nx (P Fin : MS → Prop) (S : MS) : whB P Fin (.nx S) = P S := Eq.trans rfl rfl
@[simp] theorem whB_ct (P Fin : MS → Prop) (S : MS) : whB P Fin (.ct S) = P S := Eq.trans rfl rfl
@[simp] theorem whB_bk (P Fin : MS → Prop) (S : MS) : whB P Fin (.bk S) = Fin S := Eq.trans rfl rfl
theorem while_F {t : MT} {body : MSt} (I : Nat → MS → Prop) (Fin : MS → Prop) (h : ∀ n S, I n S → whT body (fun S2 => ∃ m, m < n ∧ I m S2) Fin (t S)) :
    ∀ (k n : Nat) (S : MS), n ≤ k → I n S → ∃ S', whileF t body (k + 1) S = .nx S' ∧ Fin S'
  | 0, n, S, hk, h0 => by
    have h1 := h n S h0
    unfold whileF
    cases et : t S with
    | ok c S1 =>
      rw [et] at h1
      cases c with
      | false => exact ⟨S1, rfl, h1⟩
      | true =>
        rw [whT_ok, if_pos rfl] at h1
        cases eb : body S1 with
        | nx S2 => rw [eb] at h1; obtain ⟨m, hm, _⟩ := h1; omega
        | ct S2 => rw [eb] at h1; obtain ⟨m, hm, _⟩ := h1; omega
        | bk S2 => rw [eb] at h1; exact ⟨S2, by simp [eb], h1⟩
        | _ => rw [eb] at h1; exact h1.elim
    | _ => rw [et] at h1; exact h1.elim
  | k + 1, n, S, hk, h0 => by
    have h1 := h n S h0
    unfold whileF
    cases et : t S with
    | ok c S1 =>
      rw [et] at h1
      cases c with
      | false => exact ⟨S1, rfl, h1⟩
      | true =>
        rw [whT_ok, if_pos rfl] at h1
        cases eb : body S1 with
        | nx S2 =>
          rw [eb] at h1
          obtain ⟨m, hm, hI⟩ := h1
          obtain ⟨S', e, hF⟩ := while_F I Fin h k m S2 (by omega) hI
          exact ⟨S', by simp [eb, e], hF⟩
        | ct S2 =>
          rw [eb] at h1
          obtain ⟨m, hm, hI⟩ := h1
          obtain ⟨S', e, hF⟩ := while_F I Fin h k m S2 (by omega) hI
          exact ⟨S', by simp [eb, e], hF⟩
        | bk S2 => rw [eb] at h1; exact ⟨S2, by simp [eb], h1⟩
        | _ => rw [eb] at h1; exact h1.elim
    | _ => rw [et] at h1; exact h1.elim
theorem mwhile_rel {t : MT} {body : MSt} (I : Nat → MS → Prop) (Fin : MS → Prop) (h : ∀ n S, I n S → whT body (fun S2 => ∃ m, m < n ∧ I m S2) Fin (t S)) (n : Nat) (S : MS) (h0 : I n S) :
    ∃ S', mwhile t body S = .nx S' ∧ Fin S' := by
  obtain ⟨S', e, hF⟩ := while_F I Fin h n n S (Nat.le_refl _) h0
  exact ⟨S', by rw [mwhile_eq (by rw [e]; exact fun z => nomatch z), e], hF⟩

/-! ### comprehensions -/
def stOk (g : PyData) : R RV → Prop
  | .ok r _ => stab false r = some (.d g)
  | _ => False
@[simp] theorem stOk_ok (g : PyData) (r : RV) (S : MS) : stOk g (.ok r S) = (stab false r = some (.d g)) := Eq.trans rfl rfl
def lcOk (p : Bool) (g : PyData) (me : ME) : R Bool → Prop
  | .ok c S2 => c = p ∧ (p = true → stOk g (me S2))
  | _ => False
@[simp] theorem lcOk_ok (p : Bool) (g : PyData) (me : ME) (c : Bool) (S2 : MS) : lcOk p g me (.ok c S2) = (c = p ∧ (p = true → stOk g (me S2))) := Eq.trans rfl rfl
theorem lcL_enc {β : Type} {tg : MG} {mt : MT} {me : ME} {S : MS} (enc : β → PyData) (p : β → Bool) (g : β → PyData) : ∀ (bs : List β), (∀ b ∈ bs, ∃ S1, tg (enc b) S = some S1 ∧ lcOk (p b) (g b) me (mt S1)) →
    lcL tg mt me S (bs.map enc) = some ((bs.filter p).map g)
  | [], _ => rfl
  | b :: bs, h => by
    obtain ⟨S1, e1, h1⟩ := h b List.mem_cons_self
    have ih := lcL_enc enc p g bs fun x hx => h x (List.mem_cons_of_mem _ hx)
    rw [List.map_cons]
    unfold lcL
    simp only [e1]
    cases et : mt S1 with
    | ok c S2 =>
      rw [et] at h1
      obtain ⟨h1, h2⟩ := h1
      subst h1
      cases hc : p b with
      | false => simp [hc, ih]
      | true =>
        have h2 := h2 hc
        cases em : me S2 with
        | ok r S3 =>
          rw [em] at h2
          have h2 : stab false r = some (.d (g b)) := h2
          simp [hc, em, h2, ih]
        | _ => rw [em] at h2; exact h2.elim
    | _ => rw [et] at h1; exact h1.elim
theorem lcL_ints {i : Nat} {mt : MT} {me : ME} {S : MS} (p : Int → Bool) (g : Int → PyData) (ns : List Int) (h : ∀ n ∈ ns, lcOk (p n) (g n) me (mt (S.set i (some (.d (.int n)))))) :
    lcL (tgN i) mt me S (ns.map PyData.int) = some ((ns.filter p).map g) := lcL_enc PyData.int p g ns fun b hb => ⟨_, rfl, h b hb⟩
@[simp] theorem lcR_some (ys : List PyData) (S : MS) : lcR (some ys) S = .ok (.nw (.lst ys)) S := Eq.trans rfl rfl
theorem wipeS_nil (S : MS) : wipeS S [] = S := Eq.trans rfl rfl
theorem wipeS_cons (S : MS) (v : Nat) (vs : List Nat) : wipeS S (v :: vs) = (wipeS S vs).set v none := Eq.trans rfl rfl

/-! ### calls that are lent a tree -/
@[simp] theorem callR_p0 (f : MF) (p : Path) (t : MV) (rs : List RV) (S : MS) (h : pks rs 1 = []) : callR false f (.pk p t :: rs) S = (f (t :: rs.map RV.tree)).toR (some (0, p)) S := by
  rw [callR_p (jp := (0, p)) f _ S (by rw [pks_p, h])]
  rfl
@[simp] theorem callR_p1 (f : MF) (x : PyData) (p : Path) (t : MV) (rs : List RV) (S : MS) (h : pks rs 2 = []) : callR false f (.d x :: .pk p t :: rs) S = (f (.d x :: t :: rs.map RV.tree)).toR (some (1, p)) S := by
  rw [callR_p (jp := (1, p)) f _ S (by rw [pks_d, pks_p, h])]
  rfl
/-! ### targets -/
@[simp] theorem tgT_ap (n : Nat) (g : MGs) (ds : List PyData) (S : MS) : tgT n g (.tuple ds) S = if ds.length = n then g ds S else none := Eq.trans rfl rfl
@[simp] theorem tgsN_ap (S : MS) : tgsN [] S = some S := Eq.trans rfl rfl
theorem tgsC_ap' (f : MG) (g : MGs) (d : PyData) (ds : List PyData) (S : MS) : tgsC f g (d :: ds) S = (f d S).bind (g ds) := by
  rfl
@[simp] theorem tgsC_ap (f : MG) (g : MGs) (d : PyData) (ds : List PyData) (S : MS) : tgsC f g (d :: ds) S = (f d S).bind (g ds) := tgsC_ap' f g d ds S
end M

set_option maxHeartbeats 2000000
/-! M29: reckoning with records, dicts, stores; data that is equal to itself. Own work. -/
namespace M
open PySem PySem.Spec PyProof.Rows L2

/-! ### records -/
@[simp] theorem mrget_ap (f : Str) (m : ME) (s : Option MV) (S : MS) : mrget f m (s :: S) = (m (s :: S)).bind fun r S1 => match r with
  | .pk p (.rcd fs) => match fIx f 0 fs with
    | some (k, t) => .ok (fldV (k :: p) t) S1
    | none => .stuck
  | _ => .stuck := Eq.trans rfl rfl
@[simp] theorem mrput_ap (own : Bool) (f : Str) (i : Nat) (m : ME) (s : Option MV) (S : MS) : mrput own f i m (s :: S) = (m (s :: S)).toS fun r S1 => match r.st own, S1[i]? with
  | some t, some (some (.rcd fs)) => if ndS fs = true ∧ fs.length < 1000 then .nx (updS [i + 1] (.rcd (putT f t fs)) S1) else .stuck
  | _, _ => .stuck := Eq.trans rfl rfl
@[simp] theorem mraug_ap (f : Str) (i : Nat) (g : Int → Int → Int) (m : ME) (s : Option MV) (S : MS) : mraug f i g m (s :: S) = match (s :: S)[i]? with
  | some (some (.rcd fs)) => match fIx f 0 fs with
    | some (_, .d (.int x)) => (m (s :: S)).toS fun r S1 => match r, S1[i]? with
      | .d (.int y), some (some (.rcd fs')) => if ndS fs' = true ∧ fs'.length < 1000 then .nx (updS [i + 1] (.rcd (putT f (.d (.int (g x y))) fs')) S1) else .stuck
      | _, _ => .stuck
    | _ => .stuck
  | _ => .stuck := Eq.trans rfl rfl
@[simp] theorem mrnil_ap (s : Option MV) (S : MS) : mrnil (s :: S) = .ok [] (s :: S) := Eq.trans rfl rfl
@[simp] theorem mrcd_ap (i : Nat) (m : MFs) (s : Option MV) (S : MS) : mrcd i m (s :: S) = match (s :: S)[i]? with
  | some none => (m (s :: S)).toS fun fs S1 => match S1[i]? with
    | some none => .nx (S1.set i (some (.rcd fs)))
    | _ => .stuck
  | _ => .stuck := Eq.trans rfl rfl
@[simp] theorem mtnil_ap (s : Option MV) (S : MS) : mtnil (s :: S) = .ok [] (s :: S) := Eq.trans rfl rfl
@[simp] theorem mkT_some (t : MV) (k : MV → R (List MV)) : mkT (some t) k = k t := Eq.trans rfl rfl
@[simp] theorem mtcons_ap (own : Bool) (m : ME) (k : MTs) (s : Option MV) (S : MS) : mtcons own m k (s :: S) = (m (s :: S)).bind fun r S1 => mkT (r.st own) fun t => (k S1).bind fun ts S2 => .ok (t :: ts) S2 := Eq.trans rfl rfl
@[simp] theorem mrtup_ap (i : Nat) (fps : List (Str × Nat)) (m : MTs) (s : Option MV) (S : MS) : mrtup i fps m (s :: S) = (m (s :: S)).toS fun ts S1 => match rputs i fps ts S1 with
  | some S2 => .nx S2
  | none => .stuck := Eq.trans rfl rfl
@[simp] theorem rputs_nil (i : Nat) (S : MS) : rputs i [] [] S = some S := Eq.trans rfl rfl
theorem rputs_cons (i : Nat) (f : Str) (p : Nat) (r : List (Str × Nat)) (t : MV) (ts : List MV) (S : MS) {fs : List (Str × MV)} (h : S[i]? = some (some (.rcd fs))) (h1 : ndS fs = true) (h2 : fs.length < 1000) (h3 : posF f 0 fs = p) :
    rputs i ((f, p) :: r) (t :: ts) S = rputs i r ts (updS [i + 1] (.rcd (putT f t fs)) S) := by
  conv => lhs; unfold rputs
  simp only [h, h1, h2, h3, and_self, if_true]
@[simp] theorem st_t (r : RV) : RV.st true r = r.keep := Eq.trans rfl rfl
@[simp] theorem st_f (r : RV) : RV.st false r = r.keepF := Eq.trans rfl rfl
@[simp] theorem fldV_d (p : Path) (x : PyData) : fldV p (.d x) = .d x := Eq.trans rfl rfl
@[simp] theorem fldV_l (p : Path) (x : List PyData) : fldV p (.lst x) = .pk p (.lst x) := Eq.trans rfl rfl
@[simp] theorem fldV_dic (p : Path) (x : List (Key × PyData)) : fldV p (.dic x) = .pk p (.dic x) := Eq.trans rfl rfl
@[simp] theorem fldV_fdc (p : Path) (x : List (Key × PyData)) : fldV p (.fdc x) = .pk p (.fdc x) := Eq.trans rfl rfl
@[simp] theorem isN_none : isN .none = true := Eq.trans rfl rfl
@[simp] theorem isN_int (i : Int) : isN (.int i) = false := Eq.trans rfl rfl
@[simp] theorem isN_bool (i : Bool) : isN (.bool i) = false := Eq.trans rfl rfl
@[simp] theorem isN_str (i : Str) : isN (.str i) = false := Eq.trans rfl rfl
@[simp] theorem isN_list (i : List PyData) : isN (.list i) = false := Eq.trans rfl rfl
@[simp] theorem isN_tuple (i : List PyData) : isN (.tuple i) = false := Eq.trans rfl rfl
@[simp] theorem sarg_pr (p : Path) (fs : List (Str × MV)) : sarg true (.pk p (.rcd fs)) = some (.pk p (.rcd fs)) := Eq.trans rfl rfl
@[simp] theorem sarg_po (p : Path) (c : Str) (fs : List (Str × MV)) : sarg true (.pk p (.obj c fs)) = some (.pk p (.obj c fs)) := Eq.trans rfl rfl
@[simp] theorem sarg_pd (p : Path) (fs : List (Key × PyData)) : sarg true (.pk p (.dic fs)) = some (.pk p (.dic fs)) := Eq.trans rfl rfl
@[simp] theorem maug_ap (i : Nat) (f : Int → Int → Int) (m : ME) (s : Option MV) (S : MS) : maug i f m (s :: S) = match (s :: S)[i]? with
  | some (some (.d (.int x))) => (m (s :: S)).toS fun r S1 => match r with
    | .d (.int y) => .nx (S1.set i (some (.d (.int (f x y)))))
    | _ => .stuck
  | _ => .stuck := Eq.trans rfl rfl
@[simp] theorem mpar2T_ap (i j : Nat) (m k : ME) (s : Option MV) (S : MS) : mpar2T i j m k (s :: S) = (m (s :: S)).toS fun r S1 => match r.keep with
  | some t1 => (k S1).toS fun r2 S2 => match r2.keep, S2[i]? with
    | some t2, some none => .nx ((S2.set i (some t1)).set j (some t2))
    | _, _ => .stuck
  | none => .stuck := Eq.trans rfl rfl
/-! ### fields -/
@[simp] theorem mafld_ap (c f : Str) (i : Nat) (g : Int → Int → Int) (m : ME) (s : Option MV) (S : MS) : mafld c f i g m (s :: S) = match (s :: S)[i]? with
  | some (some (.obj c' fs)) => if c' = c ∧ fs.length < 1000 then (match fIx f 0 fs with
    | some (_, .d (.int x)) => (m (s :: S)).toS fun r S1 => match r, S1[i]? with
      | .d (.int y), some (some (.obj c'' fs')) => if c'' = c ∧ fs'.length < 1000 then .nx (updS [i + 1] (.obj c'' (putT f (.d (.int (g x y))) fs')) S1) else .stuck
      | _, _ => .stuck
    | _ => .stuck) else .stuck
  | _ => .stuck := Eq.trans rfl rfl
/-! ### dicts -/
@[simp] theorem mdput_ap (mv mo mi : ME) (s : Option MV) (S : MS) : mdput mv mo mi (s :: S) = (mv (s :: S)).toS fun v S1 => match stab false v with
  | some (.d x) => (mo S1).toS fun o S2 => match o with
    | .pk p (.dic kvs) => (mi S2).toS fun y S3 => putK1 p kvs x y S3
    | _ => .stuck
  | _ => .stuck := Eq.trans rfl rfl
@[simp] theorem mdpop_ap (mo mi : ME) (s : Option MV) (S : MS) : mdpop mo mi (s :: S) = (mo (s :: S)).bind fun o S2 => match o with
    | .pk p (.dic kvs) => (mi S2).bind fun y S3 => popK1 p kvs y S3
    | _ => .stuck := Eq.trans rfl rfl
@[simp] theorem miK_ap (m : ME) (s : Option MV) (S : MS) : miK m (s :: S) = (m (s :: S)).bind fun r S1 => match r with
  | .pk _ (.fdc kvs) => .ok (kvs.map fun kv => kD kv.1) S1
  | _ => .stuck := Eq.trans rfl rfl
@[simp] theorem keyD_i (k : Int) : keyD (.int k) = some (Sum.inl k) := Eq.trans rfl rfl
theorem putK1_i (p : Path) (d : DI) (x : Int) (k : Int) (S : MS) (h : d.length < 16777216) : putK1 p (kvI d) (.int x) (.d (.int k)) S = .nx (updS p (.dic (kvI (putI d k x))) S) := by
  show (if (kvI d).length < 16777216 then RS.nx (updS p (.dic (putD (kvI d) (Sum.inl k) (.int x))) S) else .stuck) = _
  rw [if_pos (by simpa [kvI] using h), putD_kvI]
theorem popK1_i (p : Path) (d : DI) (x : Int) (k : Int) (S : MS) (h : valI d k = some x) : popK1 p (kvI d) (.d (.int k)) S = .ok (.d (.int x)) (updS p (.dic (kvI (dropI d k))) S) := by
  show (match valD (kvI d) (Sum.inl k) with | some x => R.ok (RV.d x) (updS p (.dic (dropD (kvI d) (Sum.inl k))) S) | none => .stuck) = _
  rw [valD_kvI, h, dropD_kvI]
  rfl
theorem dget_i (p : Path) (d : DI) (x : Int) (k : Int) (h : valI d k = some x) : gDget (.pk p (.dic (kvI d))) (.d (.int k)) = some (.d (.int x)) := by
  show (valD (kvI d) (Sum.inl k)).map RV.d = _
  rw [valD_kvI, h]
  rfl
theorem dget_if (p : Path) (d : DI) (x : Int) (k : Int) (h : valI d k = some x) : gDget (.pk p (.fdc (kvI d))) (.d (.int k)) = some (.d (.int x)) := by
  show (valD (kvI d) (Sum.inl k)).map RV.d = _
  rw [valD_kvI, h]
  rfl
theorem din_i (neg : Bool) (p : Path) (d : DI) (k : Int) : gDin neg (.d (.int k)) (.pk p (.dic (kvI d))) = some (.d (.bool (if neg = true then !(valI d k).isSome else (valI d k).isSome))) := by
  show some (RV.d (.bool (if neg = true then !(valD (kvI d) (Sum.inl k)).isSome else (valD (kvI d) (Sum.inl k)).isSome))) = _
  rw [valD_kvI]
  cases valI d k <;> rfl
theorem keysD_kvI (d : DI) : (kvI d).map (fun kv => kD kv.1) = (d.map (·.1)).map PyData.int := by
  simp [kvI, kD]
theorem dictP_i (d : DI) (h : (d.map (·.1)).Nodup) : gDictP (.list (d.map fun p => PyData.tuple [.int p.1, .int p.2])) = some (.nw (.dic (kvI d))) := by
  show (pairsD _).map _ = _
  rw [pairs_kvI]
  show some (RV.nw (.dic (mergeD [] (kvI d)))) = _
  rw [mergeD_nd h (fun _ _ _ hk => by cases hk)]
  rfl
theorem valI_mem {d : DI} {k v : Int} (hn : (d.map (·.1)).Nodup) (h : (k, v) ∈ d) : valI d k = some v := by
  induction d with
  | nil => cases h
  | cons p d ih =>
    have hn := List.nodup_cons.mp hn
    unfold valI at ih ⊢
    rw [List.find?_cons]
    rcases List.mem_cons.mp h with e | h
    · subst e; simp
    · have : ¬ p.1 = k := fun e => hn.1 (List.mem_map.mpr ⟨(k, v), h, e.symm⟩)
      simp only [this, decide_false]
      exact ih hn.2 h
theorem mem_valI {d : DI} {k v : Int} (h : valI d k = some v) : (k, v) ∈ d := by
  unfold valI at h
  cases e : d.find? fun p => decide (p.1 = k) with
  | none => rw [e] at h; cases h
  | some p =>
    rw [e] at h
    have h1 := List.mem_of_find?_eq_some e
    have h2 := List.find?_some e
    simp only [decide_eq_true_eq] at h2
    cases h
    obtain ⟨a, b⟩ := p
    cases h2
    exact h1
theorem valI_some {d : DI} {k : Int} (h : k ∈ d.map (·.1)) : ∃ v, valI d k = some v := by
  cases e : valI d k with
  | some v => exact ⟨v, rfl⟩
  | none =>
    unfold valI at e
    rw [Option.map_eq_none_iff, List.find?_eq_none] at e
    obtain ⟨p, hp, hk⟩ := List.mem_map.mp h
    exact absurd (by simpa using hk) (e p hp)
theorem valI_isSome (d : DI) (k : Int) : (valI d k).isSome = decide (k ∈ d.map (·.1)) := by
  by_cases h : k ∈ d.map (·.1)
  · obtain ⟨v, e⟩ := valI_some h
    simp only [e, h, decide_true, Option.isSome_some]
  · cases e : valI d k with
    | none => simp only [h, decide_false, Option.isSome_none]
    | some v => exact absurd (List.mem_map.mpr ⟨_, mem_valI e, rfl⟩) h
theorem keys_putI (d : DI) (k v : Int) : (putI d k v).map (·.1) = if k ∈ d.map (·.1) then d.map (·.1) else d.map (·.1) ++ [k] := by
  unfold putI
  by_cases h : k ∈ d.map (·.1)
  · have h' : (d.any fun p => decide (p.1 = k)) = true := by
      obtain ⟨p, hp, hk⟩ := List.mem_map.mp h
      exact List.any_eq_true.mpr ⟨p, hp, by simpa using hk⟩
    rw [if_pos h', if_pos h, List.map_map]
    apply List.map_congr_left
    intro p _
    by_cases e : p.1 = k <;> simp [e]
  · have h' : ¬ (d.any fun p => decide (p.1 = k)) = true := fun z => by
      obtain ⟨p, hp, hk⟩ := List.any_eq_true.mp z
      exact h (List.mem_map.mpr ⟨p, hp, by simpa using hk⟩)
    rw [if_neg h', if_neg h]
    simp
/-- unlike numbers below m are m at the most -/
theorem nodup_len : ∀ (m : Nat) (ns : List Int), ns.Nodup → (∀ n ∈ ns, 0 ≤ n ∧ n < m) → ns.length ≤ m
  | 0, [], _, _ => Nat.le_refl _
  | 0, n :: r, _, h => by have := h n List.mem_cons_self; omega
  | m + 1, ns, hn, h => by
    have h1 : (ns.erase (m : Int)).Nodup := hn.erase _
    have h2 : ∀ n ∈ ns.erase (m : Int), 0 ≤ n ∧ n < m := fun n hx => by
      have h3 := (hn.mem_erase_iff).mp hx
      have := h n h3.2
      have : n ≠ m := h3.1
      omega
    have ih := nodup_len m _ h1 h2
    have : ns.length ≤ (ns.erase (m : Int)).length + 1 := by
      rw [List.length_erase]
      split <;> omega
    omega
/-! ### data equal to itself -/
mutual
theorem eqv_self : ∀ d : PyData, d.canLay0 = true → PyData.eqv d d = true
  | .none, _ => by simp [PyData.eqv]
  | .bool _, _ => by simp [PyData.eqv]
  | .int _, _ => by simp [PyData.eqv]
  | .str _, _ => by simp [PyData.eqv]
  | .list xs, h => by
    simp only [PyData.canLay0] at h
    simp only [PyData.eqv]
    exact eqvAll_self xs h
  | .tuple xs, h => by
    simp only [PyData.canLay0] at h
    simp only [PyData.eqv]
    exact eqvAll_self xs h
  | .dict _, h => by simp [PyData.canLay0] at h
theorem eqvAll_self : ∀ ds : List PyData, PyData.canLayAll0 ds = true → PyData.eqvAll ds ds = true
  | [], _ => by simp [PyData.eqvAll]
  | d :: ds, h => by
    simp only [PyData.canLayAll0, Bool.and_eq_true] at h
    simp only [PyData.eqvAll, eqv_self d h.1, eqvAll_self ds h.2, Bool.and_self]
end
theorem shaped_lay {d : PyData} (h : SeqAt.shaped d = true) : d.canLay0 = true := by
  unfold SeqAt.shaped at h
  simp only [Bool.and_eq_true] at h
  exact h.1
theorem gNe_self {d : PyData} (h : SeqAt.shaped d = true) : gNe d d = some (.d (.bool false)) := by
  simp [gNe, h, eqv_self d (shaped_lay h)]
theorem gEq_self {d : PyData} (h : SeqAt.shaped d = true) : gEq d d = some (.d (.bool true)) := by
  simp [gEq, h, eqv_self d (shaped_lay h)]
/-- laid, and at most k deep -/
def lay (k : Nat) (d : PyData) : Bool := d.canLay0 && decide (d.depth ≤ k)
theorem lay_all {k : Nat} : ∀ {ds : List PyData}, (∀ d ∈ ds, lay k d = true) → PyData.canLayAll0 ds = true ∧ PyData.depthAll ds ≤ k
  | [], _ => ⟨rfl, by simp [PyData.depthAll]⟩
  | x :: r, h => by
    have h1 := h x List.mem_cons_self
    have h2 := lay_all (ds := r) fun d hd => h d (List.mem_cons_of_mem _ hd)
    unfold lay at h1
    simp only [Bool.and_eq_true, decide_eq_true_eq] at h1
    exact ⟨by simp only [PyData.canLayAll0, Bool.and_eq_true]; exact ⟨h1.1, h2.1⟩, by simp only [PyData.depthAll]; omega⟩
theorem lay_tuple {k : Nat} {ds : List PyData} (h : ∀ d ∈ ds, lay k d = true) : lay (k + 1) (.tuple ds) = true := by
  obtain ⟨h1, h2⟩ := lay_all h
  unfold lay
  simp only [Bool.and_eq_true, decide_eq_true_eq]
  exact ⟨by simpa [PyData.canLay0] using h1, by simp only [PyData.depth]; omega⟩
theorem lay_list {k : Nat} {ds : List PyData} (h : ∀ d ∈ ds, lay k d = true) : lay (k + 1) (.list ds) = true := by
  obtain ⟨h1, h2⟩ := lay_all h
  unfold lay
  simp only [Bool.and_eq_true, decide_eq_true_eq]
  exact ⟨by simpa [PyData.canLay0] using h1, by simp only [PyData.depth]; omega⟩
@[simp] theorem lay_int (k : Nat) (i : Int) : lay k (.int i) = true := by simp [lay, PyData.canLay0, PyData.depth]
@[simp] theorem lay_bool (k : Nat) (i : Bool) : lay k (.bool i) = true := by simp [lay, PyData.canLay0, PyData.depth]
@[simp] theorem lay_none (k : Nat) : lay k .none = true := by simp [lay, PyData.canLay0, PyData.depth]
theorem lay_up {k m : Nat} {d : PyData} (h : lay k d = true) (hk : k ≤ m) : lay m d = true := by
  unfold lay at *
  simp only [Bool.and_eq_true, decide_eq_true_eq] at *
  exact ⟨h.1, by omega⟩
theorem lay_sh {k : Nat} {d : PyData} (h : lay k d = true) (hk : k ≤ 64) : SeqAt.shaped d = true := by
  unfold lay at h
  unfold SeqAt.shaped
  simp only [Bool.and_eq_true, decide_eq_true_eq] at *
  exact ⟨h.1, by omega⟩
theorem lay_intL (ns : List Int) : lay 1 (intL ns) = true := lay_list (k := 0) fun d hd => by
  obtain ⟨n, _, rfl⟩ := List.mem_map.mp hd
  exact lay_int _ _
end M

set_option maxHeartbeats 2000000
/-! M30: xs[i] = v; d.get(k, v). Own work. -/
namespace M
open PySem PySem.Spec PyProof.Rows L2

/-! ### xs[i] = v -/
def putI1 (p : Path) (ds : List PyData) (x : PyData) (y : RV) (S : MS) : RS := match y.dat with
  | some (.int j) => match L2.ixN ds.length j with
    | some k => .nx (updS p (.lst (ds.set k x)) S)
    | none => .stuck
  | _ => .stuck
def mlput (mv mo mi : ME) : MSt := fun S => (mv S).toS fun v S1 => match stab false v with
  | some (.d x) => (mo S1).toS fun o S2 => match o with
    | .pk p (.lst ds) => (mi S2).toS fun y S3 => putI1 p ds x y S3
    | _ => .stuck
  | _ => .stuck
section
variable {X : Cx} {G : GC} {b b1 b2 : Bool} {o i e f : Expr} {mv mo mi mz m : ME} {pos pos' : Pos}
theorem st_lput (ho : EV true X G o mo) (hi : EV true X G i mi) (hv : EV b X G e mv) (hg : ∀ to ti, PE X o to → PE X i ti → PG X (.Subscript o i pos') (L2.gSub to ti rSetL) := by exact fun to ti h1 h2 => pg_sub h1 h2 set_list)
    (hp : ∀ te g, PE X e te → PG X (.Subscript o i pos') g → PS X (.Assign [.Subscript o i pos'] e pos) (tAsg te g) := by exact fun te g h1 h2 => ps_asg h1 h2) : ST X G (.Assign [.Subscript o i pos'] e pos) (mlput mv mo mi) :=
  ⟨(hp _ _ hv.pe (hg _ _ ho.pe hi.pe)).imp fun D σ H ⟨S, W, cc, q⟩ => ⟨S, W, cc, (okR_of_S' (ra := relV X.K σ) q).imp fun v H1 ⟨r, S1, W1, _, c1, rv, q1⟩ => by
    split at q1
    · rename_i x ex
      obtain ⟨W1', ext, hx⟩ := stab_ok rv ex
      have q1 := q1.ext ext
      have c1 := c1.ext ext
      refine ⟨S1, W1', c1, (okR_of_S' (b := true) (ra := relV X.K σ) q1).imp fun u H2 ⟨ro, S2, W2, st2, c2, rv2, q2⟩ => ?_⟩
      split at q2
      · rename_i p ds
        refine ⟨S2, W2, c2, (okR_of_S' (b := true) (ra := relV X.K σ) q2).imp fun w H3 ⟨y, S3, W3, st3, c3, rv3, q3⟩ => ?_⟩
        unfold putI1 at q3
        split at q3
        · rename_i j ej
          split at q3
          · rename_i k ek
            obtain ⟨tr, nv⟩ := rv2
            have ew := ((Opd.of rv3).root ej).int
            subst ew
            obtain ⟨q0, i0, ep⟩ := nv.last
            subst ep
            have tr := Tr.ext st3 tr
            have nv := nv.ext st3
            have rx : Rp X.K W3 H3 v x := Rp.fz st3.fz x (hx W2 H2 (Ext.mono st2))
            cases tr with
            | @lst _ a xs _ w e1 rk =>
              refine ⟨a, _, _, _, rfl, rfl, e1, by rw [rk.len]; exact ek, ?_⟩
              have mo0 : Mono W3 H3 W3 (upd H3 a (.lst (xs.set k v))) := fun b u hb hw => by
                have : b ≠ a := fun e => by rw [e, w] at hw; rcases hw with hw | hw <;> cases hw
                exact ⟨rfl, by rw [upd_ne this]; exact hb⟩
              obtain ⟨mo, c4⟩ := c3.mut nv w (o := .lst (xs.set k v)) (t := .lst (ds.set k x)) (.lst w upd_same ((RpAll.set rx k rk).fz mo0.fz))
              exact q3 σ _ W3 mo c4
          · exact q3.elim
        · exact q3.elim
      · exact q2.elim
    · exact q1.elim⟩⟩
@[simp] theorem mlput_ap (mv mo mi : ME) (s : Option MV) (S : MS) : mlput mv mo mi (s :: S) = (mv (s :: S)).toS fun v S1 => match stab false v with
  | some (.d x) => (mo S1).toS fun o S2 => match o with
    | .pk p (.lst ds) => (mi S2).toS fun y S3 => putI1 p ds x y S3
    | _ => .stuck
  | _ => .stuck := Eq.trans rfl rfl
theorem putI1_n {p : Path} {ds : List PyData} {x : PyData} {j : Int} {S : MS} (h0 : 0 ≤ j) (h1 : j < ds.length) : putI1 p ds x (.d (.int j)) S = .nx (updS p (.lst (ds.set j.toNat x)) S) := by
  show (match L2.ixN ds.length j with | some k => RS.nx (updS p (.lst (ds.set k x)) S) | none => .stuck) = _
  have : L2.ixN ds.length j = some j.toNat := by unfold L2.ixN; rw [if_pos h0, if_pos h1]
  rw [this]
/-! ### d.get(k, v) -/
def getD3 (kvs : List (Key × PyData)) (y z : RV) (S : MS) : R RV := match y.dat, z with
  | some d, .d x => match keyD d with
    | some k => .ok (.d ((valD kvs k).getD x)) S
    | none => .stuck
  | _, _ => .stuck
def mdgetD (mo mi mz : ME) : ME := fun S => (mo S).bind fun o S1 => match o.dicR with
  | some kvs => (mi S1).bind fun y S2 => (mz S2).bind fun z S3 => getD3 kvs y z S3
  | none => .stuck
theorem ev_dgetD {apos cpos : Pos} (hu : X.A.units + 64 < cLine) (ho : EV true X G o mo) (hi : EV true X G i mi) (hz : EV true X G f mz) (mm : M2 X o "get" apos i f cpos := by exact ⟨rfl, rfl, rfl, rfl⟩) : EV true X G (.Call (.Attribute o "get" apos) [i, f] [] cpos) (mdgetD mo mi mz) :=
  ⟨(pe_dget2 (by omega) ho.pe hi.pe hz.pe mm).imp fun σ H Q ⟨S, W, cc, q⟩ => ⟨S, W, cc, (okR.bind (ra := relV X.K σ) (b1 := true) (b2 := true) q).imp fun u H2 ⟨ro, S2, W2, st2, c2, rv2, q2⟩ => by
    split at q2
    · rename_i kvs e1
      obtain ⟨a, ks, rfl, hr, rk⟩ := dic_opd (Opd.of rv2) e1
      refine ⟨a, rfl, .inl ⟨ks, hr⟩, S2, W2, c2, (okR.bind (ra := relV X.K σ) (b1 := true) (b2 := true) q2).imp fun y H3 ⟨ry, S3, W3, st3, c3, rv3, q3⟩ => ?_⟩
      refine ⟨S3, W3, c3, (okR.bind (ra := relV X.K σ) (b1 := true) (b2 := true) q3).imp fun z H4 ⟨rz, S4, W4, st4, c4, rv4, q4⟩ => ?_⟩
      have st34 : Ext W2 H2 W4 H4 := Ext.trans st3 st4
      obtain ⟨a', ks', ea, hr', rk'⟩ := dic_opd (Opd.ext st34 (Opd.of rv2)) e1
      cases ea
      unfold getD3 at q4
      split at q4
      · rename_i d x e2
        split at q4
        · rename_i k ek
          have ey := keyD_ok ((Opd.ext st4 (Opd.of rv3)).root e2) ek
          subst ey
          refine ⟨_, DGet.rd hr', ?_⟩
          have rz : Rp X.K W4 H4 z x := rv4
          cases ev : valD kvs k with
          | none =>
            rw [ev] at q4
            rw [rk'.val.2 ev]
            exact q4 z H4 W4 Stp.refl c4 rz
          | some d' =>
            rw [ev] at q4
            obtain ⟨w, h1, h2⟩ := rk'.val.1 d' ev
            rw [h1]
            exact q4 w H4 W4 Stp.refl c4 h2
        · exact q4.elim
      · exact q4.elim
    · exact q2.elim⟩⟩
@[simp] theorem mdgetD_ap (mo mi mz : ME) (s : Option MV) (S : MS) : mdgetD mo mi mz (s :: S) = (mo (s :: S)).bind fun o S1 => match o.dicR with
  | some kvs => (mi S1).bind fun y S2 => (mz S2).bind fun z S3 => getD3 kvs y z S3
  | none => .stuck := Eq.trans rfl rfl
@[simp] theorem dicR_p (p : Path) (k : List (Key × PyData)) : RV.dicR (.pk p (.dic k)) = some k := Eq.trans rfl rfl
@[simp] theorem dicR_f (p : Path) (k : List (Key × PyData)) : RV.dicR (.pk p (.fdc k)) = some k := Eq.trans rfl rfl
theorem getD3_i (kvs : List (Key × PyData)) (k : Int) (x : PyData) (S : MS) : getD3 kvs (.d (.int k)) (.d x) S = .ok (.d ((valD kvs (Sum.inl k)).getD x)) S := rfl
end
end M

set_option maxHeartbeats 2000000
/-! M31: a, b = e, f; a, b, c = e, f, g with what is kept as one's own, or told frozen. Own work. -/
namespace M
open PySem PySem.Spec PyProof.Rows L2

section
variable {X : Cx} {G : GC} {b : Bool} {a c d : Expr} {m k l : ME}
def mpar2O (o1 o2 : Bool) (i j : Nat) (m k : ME) : MSt := fun S => (m S).toS fun r S1 => match r.st o1 with
  | some t1 => (k S1).toS fun r2 S2 => match r2.st o2 with
    | some t2 => .nx ((S2.set i (some t1)).set j (some t2))
    | _ => .stuck
  | none => .stuck
theorem st_par2O {o1 o2 : Bool} {i j : Nat} {st : Stmt} (hp : ∀ ta, PA X [a, c] ta → PS X st (tPar i j ta)) (hi : Free G i) (hj : Free G j) (h : EV b X G a m) (h2 : EV true X G c k)
    (hs : starEach [a, c] X.env = (false, eval a X.env) :: starEach [c] X.env := by rfl) (hs2 : starEach [c] X.env = (false, eval c X.env) :: starEach [] X.env := by rfl) : ST X G st (mpar2O o1 o2 i j m k) :=
  ⟨(hp _ (pa_cons h.pe (pa_cons h2.pe pa_nil hs2) hs)).imp fun D σ H ⟨S, W, cc, q⟩ => ⟨S, W, cc, (okR_of_S (ra := relV X.K σ) q).imp fun v H1 ⟨r, S1, W1, c1, rv, q1⟩ => by
    split at q1
    · rename_i t1 e1
      obtain ⟨W1', x1, tr1⟩ := st_ok [i + 1] rv e1
      have q1 := q1.ext x1
      refine ⟨S1, _, c1.ext x1, (okR_of_S' (b := true) (ra := relV X.K σ) q1).imp fun w H2 ⟨r2, S2, W2, st2, c2, rv2, q2⟩ => ?_⟩
      split at q2
      · rename_i t2 e2
        obtain ⟨W2', x2, tr2⟩ := st_ok [j + 1] rv2 e2
        have tr1 := Tr.ext (q := []) (Ext.trans st2 x2) tr1
        refine ⟨v, w, rfl, ?_⟩
        have c3 := ((c2.ext x2).set hi Ext.refl tr1).set hj Ext.refl tr2
        exact q2 _ _ _ x2.mono c3
      · exact q2.elim
    · exact q1.elim⟩⟩
@[simp] theorem mpar2O_ap (o1 o2 : Bool) (i j : Nat) (m k : ME) (s : Option MV) (S : MS) : mpar2O o1 o2 i j m k (s :: S) = (m (s :: S)).toS fun r S1 => match r.st o1 with
  | some t1 => (k S1).toS fun r2 S2 => match r2.st o2 with
    | some t2 => .nx ((S2.set i (some t1)).set j (some t2))
    | _ => .stuck
  | none => .stuck := Eq.trans rfl rfl
def mpar3O (o1 o2 o3 : Bool) (i j n : Nat) (m k l : ME) : MSt := fun S => (m S).toS fun r S1 => match r.st o1 with
  | some t1 => (k S1).toS fun r2 S2 => match r2.st o2 with
    | some t2 => (l S2).toS fun r3 S3 => match r3.st o3 with
      | some t3 => .nx (((S3.set i (some t1)).set j (some t2)).set n (some t3))
      | none => .stuck
    | none => .stuck
  | none => .stuck
theorem st_par3O {o1 o2 o3 : Bool} {i j n : Nat} {st : Stmt} (hp : ∀ ta, PA X [a, c, d] ta → PS X st (tPar3 i j n ta)) (hi : Free G i) (hj : Free G j) (hn : Free G n) (h : EV b X G a m) (h2 : EV true X G c k) (h3 : EV true X G d l)
    (hs : starEach [a, c, d] X.env = (false, eval a X.env) :: starEach [c, d] X.env := by rfl) (hs2 : starEach [c, d] X.env = (false, eval c X.env) :: starEach [d] X.env := by rfl) (hs3 : starEach [d] X.env = (false, eval d X.env) :: starEach [] X.env := by rfl) : ST X G st (mpar3O o1 o2 o3 i j n m k l) :=
  ⟨(hp _ (pa_cons h.pe (pa_cons h2.pe (pa_cons h3.pe pa_nil hs3) hs2) hs)).imp fun D σ H ⟨S, W, cc, q⟩ => ⟨S, W, cc, (okR_of_S (ra := relV X.K σ) q).imp fun v H1 ⟨r, S1, W1, c1, rv, q1⟩ => by
    split at q1
    · rename_i t1 e1
      obtain ⟨W1', x1, tr1⟩ := st_ok [i + 1] rv e1
      have q1 := q1.ext x1
      refine ⟨S1, _, c1.ext x1, (okR_of_S' (b := true) (ra := relV X.K σ) q1).imp fun w H2 ⟨r2, S2, W2, st2, c2, rv2, q2⟩ => ?_⟩
      split at q2
      · rename_i t2 e2
        obtain ⟨W2', x2, tr2⟩ := st_ok [j + 1] rv2 e2
        have q2 := q2.ext x2
        have tr1 := Tr.ext (q := []) (Ext.trans st2 x2) tr1
        refine ⟨S2, _, c2.ext x2, (okR_of_S' (b := true) (ra := relV X.K σ) q2).imp fun u H3 ⟨r3, S3, W3, st3, c3, rv3, q3⟩ => ?_⟩
        split at q3
        · rename_i t3 e3
          obtain ⟨W3', x3, tr3⟩ := st_ok [n + 1] rv3 e3
          have tr1 := Tr.ext (q := []) (Ext.trans st3 x3) tr1
          have tr2 := Tr.ext (q := []) (Ext.trans st3 x3) tr2
          refine ⟨v, w, u, rfl, ?_⟩
          have c4 := (((c3.ext x3).set hi Ext.refl tr1).set hj Ext.refl tr2).set hn Ext.refl tr3
          exact q3 _ _ _ x3.mono c4
        · exact q3.elim
      · exact q2.elim
    · exact q1.elim⟩⟩
@[simp] theorem mpar3O_ap (o1 o2 o3 : Bool) (i j n : Nat) (m k l : ME) (s : Option MV) (S : MS) : mpar3O o1 o2 o3 i j n m k l (s :: S) = (m (s :: S)).toS fun r S1 => match r.st o1 with
  | some t1 => (k S1).toS fun r2 S2 => match r2.st o2 with
    | some t2 => (l S2).toS fun r3 S3 => match r3.st o3 with
      | some t3 => .nx (((S3.set i (some t1)).set j (some t2)).set n (some t3))
      | none => .stuck
    | none => .stuck
  | none => .stuck := Eq.trans rfl rfl
end
end M

set_option maxHeartbeats 2000000
/-! M32: more of reckoning. Own work. -/
namespace M
open PySem PySem.Spec PyProof.Rows L2

@[simp] theorem keepF_r (x : List (Str × MV)) : RV.keepF (.nw (.rcd x)) = some (.rcd x) := Eq.trans rfl rfl
@[simp] theorem mmin2_ap (ma : ML) (s : Option MV) (S : MS) : mmin2 ma (s :: S) = (ma (s :: S)).bind fun rs S1 => match rs with
  | [.d (.int i), .d (.int j)] => .ok (.d (.int (if j < i then j else i))) S1
  | _ => .stuck := Eq.trans rfl rfl
@[simp] theorem mmax2_ap (ma : ML) (s : Option MV) (S : MS) : mmax2 ma (s :: S) = (ma (s :: S)).bind fun rs S1 => match rs with
  | [.d (.int i), .d (.int j)] => .ok (.d (.int (if j > i then j else i))) S1
  | _ => .stuck := Eq.trans rfl rfl
theorem lpOk_of {P : MS → Prop} {r : RS} {S2 : MS} (h : r = .nx S2) (hp : P S2) : lpOk P r := by
  subst h
  exact hp
/-- sorted lists of the same numbers -/
theorem srt_perm_eq {a b : List Int} (h : a.Perm b) : srt a = srt b := srt_eq ((srt_perm a).trans h) (srt_pair a)
end M

set_option maxHeartbeats 2000000
/-! M33: sum, max, min of a list. Own work. -/
namespace M
open PySem PySem.Spec PyProof.Rows L2
section
variable {K : Frag}
/-! ### sum, max, min of a list of ints -/
def gSum : PyData → Option RV
  | .list ds => match asInts ds with
    | some ns => some (.d (.int ns.sum))
    | none => none
  | _ => none
def maxI (n : Int) (ns : List Int) : Int := ns.foldl (fun a b => if b > a then b else a) n
def minI (n : Int) (ns : List Int) : Int := ns.foldl (fun a b => if b < a then b else a) n
theorem maxI_spec : ∀ (ns : List Int) (n : Int), maxI n ns ∈ n :: ns ∧ ∀ y, y ∈ n :: ns → y ≤ maxI n ns
  | [], n => ⟨List.mem_singleton.mpr rfl, fun y hy => by rw [List.mem_singleton.mp hy]; exact Int.le_refl _⟩
  | m :: r, n => by
    have ih := maxI_spec r (if m > n then m else n)
    have e : maxI n (m :: r) = maxI (if m > n then m else n) r := rfl
    rw [e]
    refine ⟨?_, fun y hy => ?_⟩
    · rcases List.mem_cons.mp ih.1 with h | h
      · rw [h]; split
        · exact .tail _ (.head _)
        · exact .head _
      · exact .tail _ (.tail _ h)
    · have h0 := ih.2 _ (.head _)
      rcases List.mem_cons.mp hy with h | h
      · subst h; refine Int.le_trans ?_ h0; split <;> omega
      · rcases List.mem_cons.mp h with h | h
        · subst h; refine Int.le_trans ?_ h0; split <;> omega
        · exact ih.2 y (.tail _ h)
theorem minI_spec : ∀ (ns : List Int) (n : Int), minI n ns ∈ n :: ns ∧ ∀ y, y ∈ n :: ns → minI n ns ≤ y
  | [], n => ⟨List.mem_singleton.mpr rfl, fun y hy => by rw [List.mem_singleton.mp hy]; exact Int.le_refl _⟩
  | m :: r, n => by
    have ih := minI_spec r (if m < n then m else n)
    have e : minI n (m :: r) = minI (if m < n then m else n) r := rfl
    rw [e]
    refine ⟨?_, fun y hy => ?_⟩
    · rcases List.mem_cons.mp ih.1 with h | h
      · rw [h]; split
        · exact .tail _ (.head _)
        · exact .head _
      · exact .tail _ (.tail _ h)
    · have h0 := ih.2 _ (.head _)
      rcases List.mem_cons.mp hy with h | h
      · subst h; refine Int.le_trans h0 ?_; split <;> omega
      · rcases List.mem_cons.mp h with h | h
        · subst h; refine Int.le_trans h0 ?_; split <;> omega
        · exact ih.2 y (.tail _ h)
def gMax : PyData → Option RV
  | .list ds => match asInts ds with
    | some (n :: ns) => some (.d (.int (maxI n ns)))
    | _ => none
  | _ => none
def gMin : PyData → Option RV
  | .list ds => match asInts ds with
    | some (n :: ns) => some (.d (.int (minI n ns)))
    | _ => none
  | _ => none
theorem og_sum : OpD1 K (fun v H Q => rSum K [v] H Q) gSum := by
  intro W H v x z Q rx e kk
  unfold gSum at e
  split at e
  · split at e
    · rename_i ns en
      cases e
      obtain ⟨a, vs, rfl, ra, rxs⟩ := rx
      obtain ⟨e1, e2⟩ := asInts_ok rxs en
      subst e1
      exact ⟨a, ns, rfl, .inl ra, kk _ _ _ Ext.refl .int⟩
    · cases e
  · cases e
theorem og_max : OpD1 K (fun v H Q => rMax K [v] H Q) gMax := by
  intro W H v x z Q rx e kk
  unfold gMax at e
  split at e
  · split at e
    · rename_i n ns en
      cases e
      obtain ⟨a, vs, rfl, ra, rxs⟩ := rx
      obtain ⟨e1, e2⟩ := asInts_ok rxs en
      subst e1
      refine ⟨a, n :: ns, rfl, .inl ra, Nat.succ_pos _, fun m h1 h2 => ?_⟩
      have hs := maxI_spec ns n
      have : m = maxI n ns := Int.le_antisymm (hs.2 m h1) (h2 _ hs.1)
      rw [this]
      exact kk _ _ _ Ext.refl .int
    · cases e
  · cases e
theorem og_min : OpD1 K (fun v H Q => rMin K [v] H Q) gMin := by
  intro W H v x z Q rx e kk
  unfold gMin at e
  split at e
  · split at e
    · rename_i n ns en
      cases e
      obtain ⟨a, vs, rfl, ra, rxs⟩ := rx
      obtain ⟨e1, e2⟩ := asInts_ok rxs en
      subst e1
      refine ⟨a, n :: ns, rfl, .inl ra, Nat.succ_pos _, fun m h1 h2 => ?_⟩
      have hs := minI_spec ns n
      have : m = minI n ns := Int.le_antisymm (h2 _ hs.1) (hs.2 m h1)
      rw [this]
      exact kk _ _ _ Ext.refl .int
    · cases e
  · cases e
end
@[simp] theorem gMax_ints (n : Int) (ns : List Int) : gMax (.list (.int n :: ns.map PyData.int)) = some (.d (.int (maxI n ns))) := by
  have : asInts (.int n :: ns.map PyData.int) = some (n :: ns) := asInts_map (n :: ns)
  simp only [gMax, this]
@[simp] theorem gMin_ints (n : Int) (ns : List Int) : gMin (.list (.int n :: ns.map PyData.int)) = some (.d (.int (minI n ns))) := by
  have : asInts (.int n :: ns.map PyData.int) = some (n :: ns) := asInts_map (n :: ns)
  simp only [gMin, this]
@[simp] theorem gSum_ints (ns : List Int) : gSum (.list (ns.map PyData.int)) = some (.d (.int ns.sum)) := by
  simp only [gSum, asInts_map]
end M

set_option maxHeartbeats 3200000
/-! M34: the set that set(xs) makes of a list of ints, and in which order it can be walked. Own work. -/
namespace M
open PySem PySem.Spec PyProof.Rows L2
/-- a set as it is born -/
abbrev bornSet (w : World) : Obj := { cls := .type "set", dict := none, data := .set #[] 0 (.fresh 0 0 (!w.params.followText "set-order")) }
section
variable {P : Program} {w : World} {A : Around} {E : Value → Shared → Prop} {s : Shared}
/-- what set(xs) ends in -/
abbrev EndsIn (w : World) (ns : List Int) (s : Shared) (s2 : Shared) : Prop := ∃ g t c, s2 = { s with heap := g, toks := t } ∧ SetR w g s.heap.objs.size (fun j => decide (j ∈ ns)) c ∧ c ≤ ns.length ∧ ∀ b o, s.heap.get? b = some o → g.get? b = some o
theorem born_walk {l : Addr} {items : Array Value} (ns : List Int) (quiet : A.handled = none) (isl : s.heap.IsList l items) (hint : IntsAre items.toList ns) (few : ns.length + 1 < scanBound) (len : items.size = ns.length)
    {B : Around} (hB : B.handled = none) (R : Result → Shared → Prop)
    (k : ∀ s2, EndsIn w ns s s2 → R (.ok (.ret .none)) s2) :
    let S := s.heap.objs.size
    let h1 := s.heap.push (bornSet w)
    codeAny (model P w) B (.builtin "set.update.loop" ⟨[.ref S, .ref h1.objs.size], []⟩) R { s with heap := h1.push { cls := .type "list_iterator", data := .fields #[.ref l, .int 0 0] } } := by
  intro S h1
  have below : l < S := by
    obtain ⟨o, ho, _⟩ := isl
    exact Heap.lt_size ho
  have z1 : h1.objs.size = S + 1 := Heap.size_push ..
  have isl1 : h1.IsList l items := isl.push _
  have vals : ∀ (i : Nat) (v : Value), items[i]? = some v → ∃ m t, ns[i]? = some m ∧ v = .int m t := by
    intro i v hv
    have hi : i < ns.length := len ▸ (Array.getElem?_eq_some_iff.mp hv).1
    obtain ⟨t, e⟩ := IntsAre.int_at hint i v (by rw [Array.getElem?_toList, hv])
    exact ⟨ns[i], t, List.getElem?_eq_getElem hi, by rw [e, List.getD_eq_getElem?_getD, List.getElem?_eq_getElem hi]; rfl⟩
  have apart : S ∉ [h1.objs.size, l] := by
    rw [z1]
    intro z
    rcases List.mem_cons.mp z with e | e
    · exact absurd e (Nat.ne_of_lt (Nat.lt_succ_self _))
    · exact absurd (List.mem_singleton.mp e) (Nat.ne_of_gt below)
  have q0 : B.in1.handled = none := by simp [hB]
  have it := (Walks.list (prog := P) (w := w) (A := B.in1) q0 h1.objs.size l (by rw [z1]; exact Nat.ne_of_lt (Nat.lt_succ_of_lt below)) items).toS
  refine set_update_ints it S apart ns len few vals items.size 0 _ rfl (Nat.zero_le _) ⟨⟨_, Heap.get?_push_size _ rfl, rfl, rfl⟩, isl1.push _⟩ ⟨0, Nat.le_refl 0, setR_new_at (Heap.get?_push_of_some _ (Heap.get?_push_size _ rfl))⟩ ?_
  intro s2 c mv hc hS
  refine k s2 ?_
  obtain ⟨g, gens2, drawn2, t2, os2⟩ := s2
  have e1 : gens2 = s.gens := mv.gens
  have e2 : drawn2 = s.drawn := mv.drawn
  have e3 : os2 = s.os := mv.os
  cases e1; cases e2; cases e3
  refine ⟨g, t2, c, rfl, hS, by omega, fun b o e => ?_⟩
  have lt := Heap.lt_size e
  refine mv.heap b o (fun z => ?_) (Heap.get?_push_of_some _ (Heap.get?_push_of_some _ e))
  rcases List.mem_cons.mp z with y | y
  · exact absurd y (Nat.ne_of_lt lt)
  · have y := List.mem_singleton.mp y
    rw [z1] at y
    exact absurd y (Nat.ne_of_lt (Nat.lt_succ_of_lt lt))
theorem setOfList {l : Addr} {items : Array Value} (ns : List Int) {Q : Value → Shared → Prop} (quiet : A.handled = none) (isl : s.heap.IsList l items) (hint : IntsAre items.toList ns) (few : ns.length + 1 < scanBound)
    (k : ∀ s2, EndsIn w ns s s2 → Q (.ref s.heap.objs.size) s2) : wpAny (model P w) A (call (.type "set") [.ref l]) Q E s := by
  have len : items.size = ns.length := by have e := hint.length; rwa [Array.length_toList] at e
  obtain ⟨cls, rest, order⟩ := F.called_set.mro
  have u1 := F.called_set.made
  have u2 := F.called_set.sub
  have u3 := F.called_set.notType
  have u4 := F.called_set.canCreate
  have u5 := F.typeCall_set_1 (.ref l)
  have u6 := F.called_set.init.lookup
  have u7 := F.called_set.init.bind (.ref s.heap.objs.size)
  refine wpAny_call (codeAny_of_tree (show wpAny _ _ (callAny (.type "set") _) _ _ _ from wpAny_pure ⟨Code.quiet_builtin _ (by decide +kernel), codeAny_builtin F.entry_type_call ?_⟩))
  rw [Around.under_plain (weight_type_call_type "set" [.ref l] []) rfl]
  repeat (any_goals (first | assumption | wp_step))

  refine codeAny_mono (code_set_led1 (.ref l) (E := E) (Q₁ := fun v s1 => v = .ref s.heap.objs.size ∧ s1 = { s with heap := s.heap.push (bornSet w) }) ⟨rfl, rfl⟩) fun r s1 hr => ?_
  match r, hr with
  | .error e, hr => exact hr
  | .ok (.ret v), hr =>
    obtain ⟨ev, es⟩ := hr
    subst ev
    subst es
    have at0 : (s.heap.push (bornSet w)).get? s.heap.objs.size = some (bornSet w) := Heap.get?_push_size _ rfl
    have ty : Shared.TypeIs { s with heap := s.heap.push (bornSet w) } (.ref s.heap.objs.size) "set" := ⟨_, at0, rfl⟩
    repeat (any_goals (first | assumption | wp_step))

    refine codeAny_mono (codeAny_call_builtin (R := wants (fun r s2 => r = .none ∧ EndsIn w ns s s2) E) F.called_set.init.plain F.entry_set_init (check_set_init_1 ty ?_)) fun r2 s2 hr2 => ?_
    · have isl0 := isl
      obtain ⟨⟨ocls, odict, odata, oslots⟩, ho, hc, n0, hd⟩ := isl0
      dsimp only at hc hd
      subst hc
      subst hd
      have ho1 := Heap.get?_push_of_some (bornSet w) ho
      have v1 := F.sub_list_set
      have v2 := F.sub_list_frozenset
      have v3 : (Value.type "list" == Value.type "dict") = false := by decide
      unfold Builtin.«set.__init__» noKeywords Builtin.Frozenset.updateFrom
      generalize gi : pyIter = PI
      wp_walk
      subst gi

      refine wpAny_pyIter_list (isl.push _) (wpAny_bind (wpAny_runValue ?_))
      refine born_walk ns quiet isl hint few len (by simp [quiet]) _ fun s3 h3 => ?_
      exact wpAny_pure (show wpAny _ _ (ret Value.none) _ _ _ from wpAny_pure ⟨rfl, h3⟩)
    · match r2, hr2 with
      | .error e, hr2 => exact hr2
      | .ok (.ret v), hr2 =>
        obtain ⟨e1, e2⟩ := hr2
        subst e1
        repeat (any_goals (first | assumption | wp_step))
        exact k _ e2
end
end M

set_option maxHeartbeats 3200000
/-! M35: sorted(set(xs)) of ints. Own work. -/
namespace M
open PySem PySem.Spec PyProof.Rows L2
section
variable {X : Cx}
def rSetOfI (K : Frag) (w : World) : List V → Hp → VK → Prop := fun xs H Q => ∃ (a : Addr) (ns : List Int), xs = [V.ref a] ∧ SqL K H a (ns.map V.int) ∧ ns.length < 1000 ∧ ∀ (p : Addr) (c : Nat), H p = none → c ≤ ns.length → Q (.ref p) (upd H p (SetO w p (fun j => decide (j ∈ ns)) c))
theorem cr_setOfI (hc : X.calm = true) : CallR X (.type "set") (rSetOfI X.K X.w) := by
  intro pins s σ H vs us Q I r h
  obtain ⟨a, ns, rfl, hs, hl, q⟩ := h
  obtain ⟨its, rv, pl, _⟩ := I.list hs
  rw [Vals.ref1 r]
  refine setOfList (w := X.w) ns (I.ok.hd hc) pl.isList (by simpa using rv.ints) (by unfold scanBound; omega) fun s2 z => ?_
  obtain ⟨g, tk, c, e, R, hcl, hk⟩ := z
  subst e
  exact ⟨.ref _, upd H s.heap.objs.size (SetO X.w s.heap.objs.size (fun j => decide (j ∈ ns)) c), I.laid (t' := tk) hk (Nat.le_refl _) (setO_new R), rfl, q _ _ (I.hok.fresh (Nat.le_refl _)) hcl⟩
end
/-! ### strictly rising lists -/
def insU (i : Int) : List Int → List Int
  | [] => [i]
  | j :: r => if i < j then i :: j :: r else if i = j then j :: r else j :: insU i r
def sset : List Int → List Int
  | [] => []
  | i :: r => insU i (sset r)
theorem mem_insU {i k : Int} : ∀ {l : List Int}, k ∈ insU i l ↔ k = i ∨ k ∈ l
  | [] => by simp [insU]
  | j :: r => by
    unfold insU
    split
    · simp
    · split
      · rename_i e; subst e; simp
      · rw [List.mem_cons, mem_insU, List.mem_cons]
        constructor
        · rintro (h | h | h)
          · exact .inr (.inl h)
          · exact .inl h
          · exact .inr (.inr h)
        · rintro (h | h | h)
          · exact .inr (.inl h)
          · exact .inl h
          · exact .inr (.inr h)
theorem pair_insU {i : Int} : ∀ {l : List Int}, l.Pairwise (· < ·) → (insU i l).Pairwise (· < ·)
  | [], _ => List.pairwise_singleton _ _
  | j :: r, h => by
    have hp := List.pairwise_cons.mp h
    unfold insU
    split
    · rename_i hij
      refine List.pairwise_cons.mpr ⟨fun y hy => ?_, h⟩
      rcases List.mem_cons.mp hy with e | e
      · rw [e]; exact hij
      · exact Int.lt_trans hij (hp.1 y e)
    · split
      · exact h
      · rename_i h1 h2
        refine List.pairwise_cons.mpr ⟨fun y hy => ?_, pair_insU hp.2⟩
        rcases mem_insU.mp hy with e | e
        · subst e; omega
        · exact hp.1 y e
theorem mem_sset {k : Int} : ∀ {l : List Int}, k ∈ sset l ↔ k ∈ l
  | [] => Iff.rfl
  | i :: r => by unfold sset; rw [mem_insU, mem_sset, List.mem_cons]
theorem pair_sset : ∀ l : List Int, (sset l).Pairwise (· < ·)
  | [] => .nil
  | _ :: r => pair_insU (pair_sset r)
theorem rise_eq : ∀ {a b : List Int}, a.Pairwise (· < ·) → b.Pairwise (· < ·) → (∀ k, k ∈ a ↔ k ∈ b) → a = b
  | [], [], _, _, _ => rfl
  | [], y :: b, _, _, h => absurd ((h y).mpr List.mem_cons_self) (by simp)
  | x :: a, [], _, _, h => absurd ((h x).mp List.mem_cons_self) (by simp)
  | x :: a, y :: b, ha, hb, h => by
    have pa := List.pairwise_cons.mp ha
    have pb := List.pairwise_cons.mp hb
    have e : x = y := by
      rcases List.mem_cons.mp ((h x).mp List.mem_cons_self) with h1 | h1
      · exact h1
      · rcases List.mem_cons.mp ((h y).mpr List.mem_cons_self) with h2 | h2
        · exact h2.symm
        · have := pb.1 x h1
          have := pa.1 y h2
          omega
    subst e
    congr 1
    refine rise_eq pa.2 pb.2 fun k => ⟨fun hk => ?_, fun hk => ?_⟩
    · rcases List.mem_cons.mp ((h k).mp (List.mem_cons_of_mem _ hk)) with z | z
      · have := pa.1 k hk; omega
      · exact z
    · rcases List.mem_cons.mp ((h k).mpr (List.mem_cons_of_mem _ hk)) with z | z
      · have := pb.1 k hk; omega
      · exact z
def gSortedSet : PyData → Option RV
  | .list ds => match asInts ds with
    | some ns => if ns.length < 64 then some (.nw (.lst ((sset ns).map PyData.int))) else none
    | none => none
  | _ => none
section
variable {K : Frag}
theorem og_sortedset {w : World} : OpD1 K (fun v H Q => rSetOfI K w [v] H fun v2 H2 => rSortedSet w [v2] H2 Q) gSortedSet := by
  intro W H v x z Q rx e kk
  unfold gSortedSet at e
  split at e
  · split at e
    · rename_i ns en
      split at e
      · rename_i hl
        cases e
        obtain ⟨a, vs, rfl, ra, rxs⟩ := rx
        obtain ⟨e1, e2⟩ := asInts_ok rxs en
        subst e1
        refine ⟨a, ns, rfl, .inl ra, by omega, fun p c np hc => ⟨p, _, c, rfl, upd_same, by omega, fun ns' p' h1 h2 h3 np' => ?_⟩⟩
        have en' : ns' = sset ns := rise_eq h1 (pair_sset ns) fun k => by rw [h2, mem_sset]; exact decide_eq_true_iff
        subst en'
        have x1 := ext_new (K := K) (W := W) (o := SetO w p (fun j => decide (j ∈ ns)) c) (mk := .out) np
        obtain ⟨y1, y2⟩ := new_lst np' (rpInts (K := K) (W := setW W p .out) (H := upd H p (SetO w p (fun j => decide (j ∈ ns)) c)) (sset ns))
        exact kk _ _ _ (x1.trans y1) y2
      · cases e
    · cases e
  · cases e
end
section
variable {X : Cx} {G : GC} {b : Bool} {e : Expr} {m : ME} {pos : Pos}
theorem ev_sortedset {p p2 q : Pos} (hm : X.mg "sorted" = none) (hm2 : X.mg "set" = none) (h : EV b X G e m) (hg : Gl X "sorted" := by rfl) (hg2 : Gl X "set" := by rfl) (hc : X.calm = true := by rfl)
    (na : starEach [e] X.env = (false, eval e X.env) :: starEach [] X.env := by rfl) (hpl : (backTo q (starEach [] X.env)).any (·.1) = false := by rfl)
    (na2 : starEach [Expr.Call (.Name "set" p2) [e] [] q] X.env = (false, eval (Expr.Call (.Name "set" p2) [e] [] q) X.env) :: starEach [] X.env := by rfl) (hpl2 : (backTo pos (starEach [] X.env)).any (·.1) = false := by rfl) :
    EV b X G (.Call (.Name "sorted" p) [.Call (.Name "set" p2) [e] [] q] [] pos) (mop1 (lift1 gSortedSet) m) :=
  ⟨(pe_callB (cr_sortedSet hc) hg hm (by decide +kernel) (pa_cons (pe_callTy (cr_setOfI hc) hg2 hm2 (by decide +kernel) (pa_cons h.pe pa_nil na) (by decide) (by decide) na hpl) pa_nil na2) (by decide) (by decide) na2 hpl2).imp fun σ H Q q => run1 (r := fun v H Q => rSetOfI X.K X.w [v] H fun v2 H2 => rSortedSet X.w [v2] H2 Q) og_sortedset.op q⟩
end
@[simp] theorem gSortedSet_ints (ns : List Int) : gSortedSet (.list (ns.map PyData.int)) = if ns.length < 64 then some (.nw (.lst ((sset ns).map PyData.int))) else none := by
  simp only [gSortedSet, asInts_map]
end M

set_option maxHeartbeats 2000000
/-! M36: not xs, of a list. Own work. -/
namespace M
open PySem PySem.Spec PyProof.Rows L2
def mnotL (m : ME) : ME := fun S => (m S).bind fun r S1 => match truR r with
  | some c => .ok (.d (.bool !c)) S1
  | none => .stuck
section
variable {X : Cx} {G : GC} {b : Bool} {a : Expr} {m : ME} {pos : Pos}
theorem ev_notL (h : EV b X G a m) : EV b X G (.UnaryOp .Not a pos) (mnotL m) :=
  ⟨(pe_notT h.pe).imp fun σ H Q ⟨S, W, cc, q⟩ => ⟨S, W, cc, (okR.one q).imp fun v H1 ⟨x, S1, W1, st, c1, rv, q1⟩ => by
    split at q1
    · rename_i c e1
      exact ⟨c, truR_ok (Opd.of rv) e1, q1 _ H1 W1 Stp.refl c1 .bl⟩
    · exact q1.elim⟩⟩
end
@[simp] theorem mnotL_ap (m : ME) (s : Option MV) (S : MS) : mnotL m (s :: S) = (m (s :: S)).bind fun r S1 => match truR r with
  | some c => .ok (.d (.bool !c)) S1
  | none => .stuck := Eq.trans rfl rfl
end M

set_option maxHeartbeats 2000000
/-! M37: sorted of lists of tuples that begin with ints. Own work. -/
namespace M
open PySem PySem.Spec PyProof.Rows L2

/-! ### the order of rows of ints -/
def lexL : List Int → List Int → Bool
  | [], [] => false
  | [], _ :: _ => true
  | _ :: _, [] => false
  | x :: xs, y :: ys => if x = y then lexL xs ys else decide (x < y)
theorem lexL_irr : ∀ xs : List Int, lexL xs xs = false
  | [] => rfl
  | x :: xs => by unfold lexL; rw [if_pos rfl]; exact lexL_irr xs
theorem lexL_asym : ∀ {xs ys : List Int}, lexL xs ys = true → lexL ys xs = false
  | [], [], h => by cases h
  | [], _ :: _, _ => rfl
  | _ :: _, [], h => by cases h
  | x :: xs, y :: ys, h => by
    unfold lexL at h ⊢
    by_cases c : x = y
    · rw [if_pos c] at h
      rw [if_pos c.symm]
      exact lexL_asym h
    · rw [if_neg c] at h
      have h := of_decide_eq_true h
      rw [if_neg (fun z => c z.symm)]
      exact decide_eq_false (by omega)
theorem lexL_tr : ∀ {xs ys zs : List Int}, lexL ys xs = false → lexL zs ys = false → lexL zs xs = false
  | [], _, [], _, _ => rfl
  | _ :: _, [], [], h, _ => by cases h
  | _ :: _, _ :: _, [], _, h => by cases h
  | [], _, _ :: _, _, _ => rfl
  | _ :: _, [], _ :: _, h, _ => by cases h
  | x :: xs, y :: ys, z :: zs, h1, h2 => by
    unfold lexL at h1 h2 ⊢
    by_cases c : y = x
    · subst c
      rw [if_pos rfl] at h1
      by_cases c2 : z = y
      · subst c2
        rw [if_pos rfl] at h2 ⊢
        exact lexL_tr h1 h2
      · rw [if_neg c2] at h2 ⊢
        exact h2
    · rw [if_neg c] at h1
      have h1 := of_decide_eq_false h1
      by_cases c2 : z = y
      · subst c2
        rw [if_neg c]
        exact decide_eq_false h1
      · rw [if_neg c2] at h2
        have h2 := of_decide_eq_false h2
        rw [if_neg (by omega)]
        exact decide_eq_false (by omega)
theorem lexL_anti : ∀ {xs ys : List Int}, lexL xs ys = false → lexL ys xs = false → xs = ys
  | [], [], _, _ => rfl
  | [], _ :: _, h, _ => by cases h
  | _ :: _, [], _, h => by cases h
  | x :: xs, y :: ys, h1, h2 => by
    unfold lexL at h1 h2
    by_cases c : x = y
    · subst c
      rw [if_pos rfl] at h1 h2
      rw [lexL_anti h1 h2]
    · rw [if_neg c] at h1
      rw [if_neg (fun z => c z.symm)] at h2
      have := of_decide_eq_false h1
      have := of_decide_eq_false h2
      omega
theorem lexL_swo {α : Type} (k : α → List Int) : SrtO.Swo fun x y => lexL (k x) (k y) := ⟨fun _ _ h => lexL_asym h, fun _ _ _ h1 h2 => lexL_tr h1 h2⟩

/-! ### tuples at the heap -/
def TupV (h : Heap) (v : Value) (ns : List Int) (rest : List Value) : Prop := ∃ a o its pre m, v = .ref a ∧ h.get? a = some o ∧ o.cls = .type "tuple" ∧ o.data = .seq its m ∧ its.toList = pre ++ rest ∧ PyProof.Rows.IntsAre pre ns
theorem TupV.keeps {h h' : Heap} {v : Value} {ns : List Int} {rest : List Value} (k : ∀ b o, h.get? b = some o → o.cls = .type "tuple" → h'.get? b = some o) : TupV h v ns rest → TupV h' v ns rest
  | ⟨a, o, its, pre, m, e, ho, hc, hd, hi, hp⟩ => ⟨a, o, its, pre, m, e, k a o ho hc, hc, hd, hi, hp⟩
theorem IntsAre.len : ∀ {xs : List Value} {ns : List Int}, PyProof.Rows.IntsAre xs ns → xs.length = ns.length := by
  intro xs ns h
  induction h with
  | nil => rfl
  | cons _ _ _ ih => simp [ih]
section
variable {prog : Program} {w : World} {A : Around} {s : Shared} {b fin : Bool} {Q : Bool → Shared → Prop}
theorem katl_same : ∀ (r : List Value) (i : Nat), Q fin s → PySem.W.KatLex prog w A b fin Q (r.zip r) i s
  | [], _, h => PySem.W.kat_nil h
  | v :: r, i, h => PySem.W.kat_cons (SeqAt.EqAt.same v prog w _ _ (PySem.W.kat_yes (katl_same r (i + 1) h)))
theorem katl_ints {xs : List Value} {ns : List Int} (hx : PyProof.Rows.IntsAre xs ns) : ∀ {ys : List Value} {ms : List Int} {rx ry : List Value} (i : Nat), PyProof.Rows.IntsAre ys ms → ns.length = ms.length → (ns = ms → rx = ry ∧ fin = false) → Q (lexL ns ms) s → PySem.W.KatLex prog w A b fin Q ((xs ++ rx).zip (ys ++ ry)) i s := by
  induction hx with
  | nil =>
    intro ys ms rx ry i hy hl hr h
    cases hy with
    | nil =>
      obtain ⟨e, ef⟩ := hr rfl
      subst e
      have h : Q fin s := by rw [ef]; exact h
      exact katl_same rx i h
    | cons q u hy => simp at hl
  | @cons p t xs ns hx ih =>
    intro ys ms rx ry i hy hl hr h
    cases hy with
    | nil => simp at hl
    | @cons q u ys ms hy =>
      have hl' : ns.length = ms.length := by simpa using hl
      show PySem.W.KatLex prog w A b fin Q ((Value.int p t, Value.int q u) :: (xs ++ rx).zip (ys ++ ry)) i s
      refine PySem.W.kat_cons (wpAny_eqBool_int ?_)
      by_cases e : p = q
      · subst e
        rw [beq_self_eq_true]
        have d : lexL (p :: ns) (p :: ms) = lexL ns ms := by rw [lexL]; rw [if_pos rfl]
        rw [d] at h
        exact PySem.W.kat_yes (ih (i + 1) hy hl' (fun z => hr (by rw [z])) h)
      · rw [show (p == q) = false from beq_eq_false_iff_ne.mpr e]
        refine PySem.W.kat_no (TS.oneLt_ints _ ?_)
        have d : lexL (p :: ns) (q :: ms) = decide (p < q) := by rw [lexL]; rw [if_neg e]
        rw [d] at h
        exact h
end
/-- what is sorted: k tells the ints, r what stands behind them -/
structure TupsV (h : Heap) (n : Nat) (vs : List Value) (k : Value → List Int) (r : Value → List Value) : Prop where
  at' : ∀ v ∈ vs, TupV h v (k v) (r v)
  len : ∀ v ∈ vs, (k v).length = n
  one : ∀ v ∈ vs, ∀ u ∈ vs, k v = k u → r v = r u
theorem TupsV.keeps {h h' : Heap} {n : Nat} {vs : List Value} {k : Value → List Int} {r : Value → List Value} (x : TupsV h n vs k r) (kk : ∀ b o, h.get? b = some o → o.cls = .type "tuple" → h'.get? b = some o) : TupsV h' n vs k r :=
  ⟨fun v hv => (x.at' v hv).keeps kk, x.len, x.one⟩
section
variable {prog : Program} {w : World} {A : Around} {E : Value → Shared → Prop} {s : Shared}
theorem tups_cmp {n : Nat} {vs : List Value} {k : Value → List Int} {r : Value → List Value} (hp : TupsV s.heap n vs k r) : SrtO.Cmp prog w A s (tuples' true) (fun p => p.1 ∈ vs) (SrtO.lt2 fun v u => lexL (k v) (k u)) := by
  intro p q hm hm'
  have ho := hp.one _ hm _ hm'
  have l1 := hp.len _ hm
  have l2 := hp.len _ hm'
  obtain ⟨a, o, its, pre, m, e, ho1, hc, hd, hi, hpre⟩ := hp.at' _ hm
  obtain ⟨a', o', its', pre', m', e', ho1', hc', hd', hi', hpre'⟩ := hp.at' _ hm'
  show wpAny (model prog w) A (keyLt' (tuples' true) p.1 q.1) (fun x s' => s' = s ∧ x = lexL (k p.1) (k q.1)) (fun _ _ => False) s
  obtain ⟨kp, ekp⟩ : ∃ kp, kp = k p.1 := ⟨_, rfl⟩
  obtain ⟨kq, ekq⟩ : ∃ kq, kq = k q.1 := ⟨_, rfl⟩
  obtain ⟨rp, erp⟩ : ∃ rp, rp = r p.1 := ⟨_, rfl⟩
  obtain ⟨rq, erq⟩ : ∃ rq, rq = r q.1 := ⟨_, rfl⟩
  rw [← ekp] at ho l1 hpre ⊢
  rw [← ekq] at ho l2 hpre' ⊢
  rw [← erp] at ho hi
  rw [← erq] at ho hi'
  rw [e, e']
  refine PySem.W.kat_lt ho1 hd ho1' hd' ?_
  rw [hi, hi']
  refine katl_ints hpre 0 hpre' (by rw [l1, l2]) (fun z => ⟨ho z, ?_⟩) ⟨rfl, rfl⟩
  have h1 : its.size = its'.size := by
    have z1 := congrArg List.length hi
    have z2 := congrArg List.length hi'
    rw [Array.length_toList, List.length_append, IntsAre.len hpre] at z1
    rw [Array.length_toList, List.length_append, IntsAre.len hpre'] at z2
    rw [z1, z2, ho z, z]
  rw [h1]
  exact decide_eq_false (Nat.lt_irrefl _)
theorem firsts_tup {h : Heap} {n : Nat} {k : Value → List Int} {r : Value → List Value} (hn : 1 ≤ n) : ∀ {vs : List Value}, (∀ v ∈ vs, TupV h v (k v) (r v)) → (∀ v ∈ vs, (k v).length = n) → ∃ fs : List Value, PySem.W.KatTups h vs fs ∧ fs.length = vs.length ∧ ∀ f ∈ fs, ∃ x t, f = Value.int x t
  | [], _, _ => ⟨[], PySem.W.KatTups.nil, rfl, fun _ hm => by simp at hm⟩
  | v :: vs, hp, hl => by
    obtain ⟨fs, h1, h2, h3⟩ := firsts_tup hn (vs := vs) (fun v' hm => hp v' (List.mem_cons_of_mem _ hm)) (fun v' hm => hl v' (List.mem_cons_of_mem _ hm))
    obtain ⟨a, o, its, pre, m, e, ho, hc, hd, hi, hpre⟩ := hp v List.mem_cons_self
    have l := hl v List.mem_cons_self
    obtain ⟨kv, ekv⟩ : ∃ kv, kv = k v := ⟨_, rfl⟩
    rw [← ekv] at hpre l
    subst e
    cases hpre with
    | nil => simp at l; omega
    | @cons x t xs ns hx =>
      refine ⟨.int x t :: fs, PySem.W.KatTups.cons ho hc hd ?_ h1, by rw [List.length_cons, List.length_cons, h2], fun f hm => ?_⟩
      · rw [← Array.getElem?_toList, hi]; rfl
      · rcases List.mem_cons.mp hm with rfl | hm
        · exact ⟨x, t, rfl⟩
        · exact h3 f hm
theorem tups_sortable {n : Nat} (hn : 1 ≤ n) {a : Addr} {vs : List Value} {k : Value → List Int} {r : Value → List Value} (h0 : 0 < vs.length) (hp : TupsV s.heap n vs k r) (ha : ∀ o, s.heap.get? a = some o → o.cls ≠ .type "tuple") : SrtO.SortableO prog w A s a vs fun v u => lexL (k v) (k u) := by
  intro h' keep
  have hp' : TupsV h' n vs k r := hp.keeps fun b o e c => keep b o (fun z => by subst z; exact ha o e c) e
  obtain ⟨fs, h1, h2, h3⟩ := firsts_tup hn hp'.at' hp'.len
  refine ⟨tuples' true, fun Q E hq => ?_, tups_cmp hp'⟩
  refine PySem.W.kat_kind (T := .type "int") h1 (by omega) (fun f hm => ?_) (by rfl) ?_
  · obtain ⟨x, t, rfl⟩ := h3 f hm
    exact PySem.W.Looks.now
  · have e : (Value.type "int" != Value.type "tuple") = true := by first | decide +kernel | rfl | decide
    rw [e]
    exact hq
theorem sorted_tupsO {n : Nat} (hn : 1 ≤ n) {l : Addr} {vs : List Value} {k : Value → List Int} {r : Value → List Value} {Q : Value → Shared → Prop} (hl : s.heap.IsList l vs.toArray) (hz : vs.length ≤ sizeLine) (hp : TupsV s.heap n vs k r)
    (h : ∀ (h' : Heap) (d : Addr) (out : List Value), SrtO.Srtd (fun v u => lexL (k v) (k u)) out → SrtO.Stb (fun v u => lexL (k v) (k u)) out vs → (∀ b o, s.heap.get? b = some o → h'.get? b = some o) → s.heap.objs.size ≤ d → (∃ n, h'.get? d = some (seqObj "list" out.toArray n)) → Q (.ref d) { s with heap := h' }) :
    wpAny (model prog w) A (call (.builtin "sorted") [.ref l]) Q E s := by
  refine SrtO.sorted_ord (lexL_swo k) hl hz (fun h2 h₁ a ha kk => ?_) fun out hs hb => ?_
  · refine tups_sortable hn (s := { s with heap := h₁ }) (by omega) (hp.keeps fun b o e _ => (kk b o e).2) fun o e => ?_
    have e' : some o = some (seqObj "list" vs.toArray 0) := e.symm.trans ha
    cases e'
    intro c
    exact absurd (Value.type.inj c) (by decide)
  · exact h _ _ out hs hb (fun b o e => PyProof.Rows.sortedAll_old e) (Nat.le_succ _) (PyProof.Rows.sortedAll_at s.heap vs out.toArray)
end

/-! ### as a rule -/
theorem perm_back {α β : Type} (f : α → β) {ys zs : List β} (h : ys.Perm zs) : ∀ {L : List α}, zs = L.map f → ∃ L' : List α, L'.Perm L ∧ ys = L'.map f := by
  induction h with
  | nil =>
    intro L e
    cases L with
    | nil => exact ⟨[], List.Perm.refl _, rfl⟩
    | cons l L => cases e
  | cons x _ ih =>
    intro L e
    cases L with
    | nil => cases e
    | cons l L =>
      rw [List.map_cons] at e
      injection e with e1 e2
      obtain ⟨L', h1, h2⟩ := ih e2
      exact ⟨l :: L', h1.cons l, by rw [List.map_cons, h2, e1]⟩
  | swap x y l =>
    intro L e
    match L, e with
    | [], e => cases e
    | [_], e => cases e
    | a :: b :: L, e =>
      rw [List.map_cons, List.map_cons] at e
      injection e with e1 e2
      injection e2 with e2 e3
      exact ⟨b :: a :: L, List.Perm.swap _ _ _, by rw [List.map_cons, List.map_cons, e1, e2, e3]⟩
  | trans _ _ ih1 ih2 =>
    intro L e
    obtain ⟨L1, h1, h2⟩ := ih2 e
    obtain ⟨L2, h3, h4⟩ := ih1 h2
    exact ⟨L2, h3.trans h1, h4⟩
/-- a tuple of a list that is sorted: where it stands, its ints, what stands behind them -/
structure TupE where
  at' : Addr
  ks : List Int
  rest : List V
def rSortedTup (K : Frag) : List V → Hp → VK → Prop := fun vs H Q => ∃ (a : Addr) (L : List TupE) (n : Nat), vs = [V.ref a] ∧ SqL K H a (L.map fun p => V.ref p.at') ∧ 1 ≤ n ∧ (∀ p ∈ L, SqT K H p.at' (p.ks.map V.int ++ p.rest) ∧ p.ks.length = n) ∧
  (∀ p ∈ L, ∀ q ∈ L, p.ks = q.ks → p.at' = q.at' ∨ (p.rest = [] ∧ q.rest = [])) ∧
  ∀ (L' : List TupE) (d : Addr), L'.Perm L → (L'.Pairwise fun p q => lexL q.ks p.ks = false) → H d = none → Q (.ref d) (upd H d (.lst (L'.map fun p => V.ref p.at')))
theorem vals_ints : ∀ {ns : List Int} {r : List V} {us : List Value}, Vals (ns.map V.int ++ r) us → ∃ pre rest, us = pre ++ rest ∧ PyProof.Rows.IntsAre pre ns ∧ Vals r rest
  | [], r, us, h => ⟨[], us, rfl, .nil, h⟩
  | n :: ns, r, us, h => by
    cases h with
    | @cons _ _ _ us hv ht =>
      obtain ⟨t, rfl⟩ := hv
      obtain ⟨pre, rest, e, h1, h2⟩ := vals_ints ht
      exact ⟨.int n t :: pre, rest, by rw [e]; rfl, .cons n t h1, h2⟩
theorem vals_map {L : List TupE} {us : List Value} (h : Vals (L.map fun p => V.ref p.at') us) : us = L.map fun p => Value.ref p.at' := by
  induction L generalizing us with
  | nil => cases h; rfl
  | cons p L ih =>
    cases h with
    | cons a b =>
      cases a
      rw [ih b]; rfl
theorem vals_of (L : List TupE) : Vals (L.map fun p => V.ref p.at') (L.map fun p => Value.ref p.at') := by
  induction L with
  | nil => exact .nil
  | cons p L ih => exact .cons (show RelV (.ref p.at') (.ref p.at') from rfl) ih
theorem cr_sortedTup {X : Cx} : CallR X (.builtin "sorted") (rSortedTup X.K) := by
  intro pins s σ H vs us Q I r h
  obtain ⟨a, L, n, rfl, hs, hn, hx, hone, q⟩ := h
  obtain ⟨its, rv, hl, hz⟩ := I.list hs
  obtain ⟨u, rfl, ru⟩ := vals1 r
  obtain rfl : u = Value.ref a := ru
  have e1 := vals_map rv
  subst e1
  -- what each tuple is, told by its place
  have inj : ∀ p ∈ L, ∀ q ∈ L, p.at' = q.at' → p.ks = q.ks := fun p hp q hq e => by
    obtain ⟨h1, l1⟩ := hx p hp
    obtain ⟨h2, l2⟩ := hx q hq
    rw [e] at h1
    have h3 := I.tuple_inj h1 h2
    have h4 := congrArg (List.take n) h3
    rw [List.take_left' (by rw [List.length_map, l1]), List.take_left' (by rw [List.length_map, l2])] at h4
    have ij : ∀ {xs ys : List Int}, xs.map V.int = ys.map V.int → xs = ys := fun {xs ys} h => by
      induction xs generalizing ys with
      | nil => cases ys; rfl; cases h
      | cons x xs ih =>
        cases ys with
        | nil => cases h
        | cons y ys =>
          rw [List.map_cons, List.map_cons] at h
          injection h with ha hb
          injection ha with ha
          rw [ha, ih hb]
    exact ij h4
  obtain ⟨k, hk⟩ : ∃ k : Value → List Int, ∀ p ∈ L, k (.ref p.at') = p.ks := by
    refine ⟨fun v => match L.find? fun p => decide (v = .ref p.at') with | some p => p.ks | none => [], fun p hp => ?_⟩
    show (match L.find? fun q => decide (Value.ref p.at' = Value.ref q.at') with | some p => p.ks | none => []) = p.ks
    cases e : L.find? fun q => decide (Value.ref p.at' = Value.ref q.at') with
    | none =>
      have := List.find?_eq_none.mp e p hp
      simp at this
    | some q =>
      have h1 := List.mem_of_find?_eq_some e
      have h2 := List.find?_some e
      simp only [decide_eq_true_eq, Value.ref.injEq] at h2
      exact (inj p hp q h1 h2).symm
  obtain ⟨r, hr⟩ : ∃ r : Value → List Value, ∀ p ∈ L, TupV s.heap (.ref p.at') p.ks (r (.ref p.at')) ∧ (p.rest = [] → r (.ref p.at') = []) := by
    have ex : ∀ p ∈ L, ∃ rest, TupV s.heap (.ref p.at') p.ks rest ∧ (p.rest = [] → rest = []) := fun p hp => by
      obtain ⟨h1, l1⟩ := hx p hp
      obtain ⟨its, rv, ⟨o, ho, hc, m, hd⟩, _⟩ := I.tuple h1
      obtain ⟨pre, rest, e, h2, h3⟩ := vals_ints rv
      refine ⟨rest, ⟨p.at', o, its.toArray, pre, m, rfl, ho, hc, hd, by simpa using e, h2⟩, fun z => ?_⟩
      rw [z] at h3
      cases h3; rfl
    have ex2 : ∀ v : Value, ∃ rest, ∀ p ∈ L, v = .ref p.at' → TupV s.heap v p.ks rest ∧ (p.rest = [] → rest = []) := fun v => by
      by_cases c : ∃ p ∈ L, v = .ref p.at'
      · obtain ⟨p, hp, e⟩ := c
        obtain ⟨rest, h1, h2⟩ := ex p hp
        refine ⟨rest, fun q hq eq => ?_⟩
        have ee : p.at' = q.at' := by rw [e] at eq; exact Value.ref.inj eq
        have ek := inj p hp q hq ee
        refine ⟨by rw [e, ← ek]; exact h1, fun z => h2 ?_⟩
        have h3 := (hx p hp).1
        have h4 := (hx q hq).1
        rw [ee] at h3
        have h5 := I.tuple_inj h3 h4
        rw [ek] at h5
        have := List.append_cancel_left h5
        rw [this, z]
      · exact ⟨[], fun p hp e => absurd ⟨p, hp, e⟩ c⟩
    refine ⟨fun v => (ex2 v).choose, fun p hp => (ex2 _).choose_spec p hp rfl⟩
  have hT : TupsV s.heap n (L.map fun p => Value.ref p.at') k r := by
    refine ⟨fun v hv => ?_, fun v hv => ?_, fun v hv u hu e => ?_⟩
    · obtain ⟨p, hp, rfl⟩ := List.mem_map.mp hv
      rw [hk p hp]
      exact (hr p hp).1
    · obtain ⟨p, hp, rfl⟩ := List.mem_map.mp hv
      rw [hk p hp]
      exact (hx p hp).2
    · obtain ⟨p, hp, rfl⟩ := List.mem_map.mp hv
      obtain ⟨q, hq, rfl⟩ := List.mem_map.mp hu
      rw [hk p hp, hk q hq] at e
      rcases hone p hp q hq e with z | ⟨z1, z2⟩
      · rw [z]
      · rw [(hr p hp).2 z1, (hr q hq).2 z2]
  have hz2 : (L.map fun p => Value.ref p.at').length ≤ sizeLine := by rw [← rv.length]; exact hz
  refine sorted_tupsO hn hl.isList hz2 hT fun h' d out h1 h2 kp hd hn' => ?_
  obtain ⟨L', p1, p2⟩ := perm_back (fun p : TupE => Value.ref p.at') h2.perm rfl
  obtain ⟨m, hm⟩ := hn'
  refine ⟨.ref d, upd H d (.lst (L'.map fun p => V.ref p.at')), I.laid (t' := s.toks) kp hd ⟨?_, out, m, ?_, hm⟩, rfl, q L' d p1 ?_ (I.hok.fresh hd)⟩
  · rw [List.length_map, p1.length_eq, ← List.length_map (f := fun p : TupE => V.ref p.at')]
    exact hz
  · rw [p2]; exact vals_of L'
  · have h3 : (L'.map fun p => Value.ref p.at').Pairwise fun x y => lexL (k y) (k x) = false := by rw [← p2]; exact h1
    rw [List.pairwise_map] at h3
    refine h3.imp_of_mem fun {p q} hp hq h => ?_
    rw [hk p (p1.mem_iff.mp hp), hk q (p1.mem_iff.mp hq)] at h
    exact h

/-! ### as a model -/
def keyT (n : Nat) : PyData → Option (List Int)
  | .tuple l => if n ≤ l.length then asInts (l.take n) else none
  | _ => none
def keysT (n : Nat) : List PyData → Option (List (List Int))
  | [] => some []
  | d :: ds => match keyT n d, keysT n ds with
    | some k, some ks => some (k :: ks)
    | _, _ => none
def isTn (n : Nat) : PyData → Bool
  | .tuple l => l.length == n
  | _ => false
def keyG (n : Nat) (d : PyData) : List Int := (keyT n d).getD []
def insT (n : Nat) (d : PyData) : List PyData → List PyData
  | [] => [d]
  | x :: r => if lexL (keyG n x) (keyG n d) = true then x :: insT n d r else d :: x :: r
def sortT (n : Nat) : List PyData → List PyData
  | [] => []
  | d :: r => insT n d (sortT n r)
def gSortedT (n : Nat) : PyData → Option RV
  | .list ds => match keysT n ds with
    | some ks => if 1 ≤ n ∧ (ks.Nodup ∨ ds.all (isTn n) = true) then some (.nw (.lst (sortT n ds))) else none
    | none => none
  | _ => none
theorem keysT_all {n : Nat} : ∀ {ds : List PyData} {ks : List (List Int)}, keysT n ds = some ks → ks = ds.map (keyG n) ∧ ∀ d ∈ ds, ∃ l, d = .tuple l ∧ n ≤ l.length ∧ asInts (l.take n) = some (keyG n d)
  | [], ks, h => by cases h; exact ⟨rfl, fun _ h => by cases h⟩
  | d :: ds, ks, h => by
    unfold keysT at h
    split at h
    · rename_i k ks' e1 e2
      cases h
      obtain ⟨h1, h2⟩ := keysT_all e2
      have hd : keyG n d = k := by unfold keyG; rw [e1]; rfl
      refine ⟨by rw [List.map_cons, hd, h1], fun x hx => ?_⟩
      rcases List.mem_cons.mp hx with z | z
      · subst z
        rw [hd]
        unfold keyT at e1
        split at e1
        · rename_i l
          split at e1
          · exact ⟨l, rfl, by assumption, e1⟩
          · cases e1
        · cases e1
      · exact h2 x z
    · cases h
theorem insT_perm (n : Nat) (d : PyData) : ∀ l : List PyData, (insT n d l).Perm (d :: l)
  | [] => .refl _
  | x :: r => by
    unfold insT
    split
    · exact ((insT_perm n d r).cons x).trans (.swap d x r)
    · exact .refl _
theorem sortT_perm (n : Nat) : ∀ ds : List PyData, (sortT n ds).Perm ds
  | [] => .refl _
  | d :: r => (insT_perm n d (sortT n r)).trans ((sortT_perm n r).cons d)
theorem insT_pair (n : Nat) (d : PyData) : ∀ l : List PyData, (l.Pairwise fun a b => lexL (keyG n b) (keyG n a) = false) → (insT n d l).Pairwise fun a b => lexL (keyG n b) (keyG n a) = false
  | [], _ => List.pairwise_singleton _ _
  | x :: r, h => by
    have hp := List.pairwise_cons.mp h
    unfold insT
    split
    · rename_i c
      refine List.pairwise_cons.mpr ⟨fun y hy => ?_, insT_pair n d r hp.2⟩
      rcases List.mem_cons.mp ((insT_perm n d r).mem_iff.mp hy) with e | e
      · rw [e]; exact lexL_asym c
      · exact hp.1 y e
    · rename_i c
      have c : lexL (keyG n x) (keyG n d) = false := by simpa using c
      refine List.pairwise_cons.mpr ⟨fun y hy => ?_, h⟩
      rcases List.mem_cons.mp hy with e | e
      · rw [e]; exact c
      · exact lexL_tr c (hp.1 y e)
theorem sortT_pair (n : Nat) : ∀ ds : List PyData, (sortT n ds).Pairwise fun a b => lexL (keyG n b) (keyG n a) = false
  | [] => .nil
  | d :: r => insT_pair n d _ (sortT_pair n r)
/-- there is but one such arrangement -/
theorem sortT_eq {n : Nat} {ds es : List PyData} (hp : es.Perm ds) (hs : es.Pairwise fun a b => lexL (keyG n b) (keyG n a) = false) (h : ∀ a ∈ ds, ∀ b ∈ ds, keyG n a = keyG n b → a = b) : es = sortT n ds :=
  (hp.trans (sortT_perm n ds).symm).eq_of_pairwise (fun x y hx hy h1 h2 => h x (hp.mem_iff.mp hx) y ((sortT_perm n ds).mem_iff.mp hy) (lexL_anti h2 h1)) hs (sortT_pair n ds)
theorem nodup_inj {α β : Type} {f : α → β} {l : List α} (h : (l.map f).Nodup) : ∀ a ∈ l, ∀ b ∈ l, f a = f b → a = b := by
  induction l with
  | nil => intro a ha; cases ha
  | cons x l ih =>
    rw [List.map_cons] at h
    have h := List.nodup_cons.mp h
    intro a ha b hb e
    rcases List.mem_cons.mp ha with z | z
    · rcases List.mem_cons.mp hb with y | y
      · rw [z, y]
      · exact absurd (by rw [← z, e]; exact List.mem_map.mpr ⟨b, y, rfl⟩) h.1
    · rcases List.mem_cons.mp hb with y | y
      · exact absurd (by rw [← y, ← e]; exact List.mem_map.mpr ⟨a, z, rfl⟩) h.1
      · exact ih h.2 a z b y e
/-- what stands in the heap for a list of tuples -/
structure TupQ where
  e : TupE
  d : PyData
theorem quads {K : Frag} {W : Own} {H : Hp} {n : Nat} : ∀ {ds : List PyData} {xs : List V}, RpAll K W H xs ds → (∀ d ∈ ds, ∃ l, d = .tuple l ∧ n ≤ l.length ∧ asInts (l.take n) = some (keyG n d)) → ∃ L : List TupQ, xs = L.map (fun q => V.ref q.e.at') ∧ ds = L.map (fun q => q.d) ∧ (∀ q ∈ L, SqT K H q.e.at' (q.e.ks.map V.int ++ q.e.rest) ∧ q.e.ks.length = n ∧ q.e.ks = keyG n q.d ∧ Rp K W H (.ref q.e.at') q.d ∧ (isTn n q.d = true → q.e.rest = []))
  | [], xs, h, _ => by cases h; exact ⟨[], rfl, rfl, fun _ h => by cases h⟩
  | d :: ds, xs, h, hk => by
    cases h with
    | @cons v vs _ _ hv ht =>
      obtain ⟨L, h1, h2, h3⟩ := quads ht fun x hx => hk x (List.mem_cons_of_mem _ hx)
      obtain ⟨l, rfl, hl, ha⟩ := hk d List.mem_cons_self
      have hv0 := hv
      cases hv with
      | @tup a ys _ hf hys =>
        have h4 : RpAll K W H (ys.take n) (l.take n) := hys.take n
        obtain ⟨e1, e2⟩ := asInts_ok h4 ha
        have e3 : ys = (keyG n (.tuple l)).map V.int ++ ys.drop n := by rw [← e1, List.take_append_drop]
        have ln : (keyG n (.tuple l)).length = n := by
          have := congrArg List.length e2
          rw [List.length_map, List.length_take] at this
          omega
        refine ⟨⟨⟨a, keyG n (.tuple l), ys.drop n⟩, .tuple l⟩ :: L, by rw [h1]; rfl, by rw [h2]; rfl, fun q hq => ?_⟩
        rcases List.mem_cons.mp hq with z | z
        · subst z
          refine ⟨by rw [← e3]; exact hf.sq, ln, rfl, hv0, fun hi => ?_⟩
          have : l.length = n := by simpa [isTn] using hi
          have hy := hys.len
          exact List.drop_of_length_le (by omega)
        · exact h3 q z
theorem og_sortedT (n : Nat) {K : Frag} : OpD1 K (fun v H Q => rSortedTup K [v] H Q) (gSortedT n) := by
  intro W H v x z Q rx e kk
  unfold gSortedT at e
  split at e
  · rename_i ds
    split at e
    · rename_i ks eks
      split at e
      · rename_i hc
        cases e
        obtain ⟨hn, hu⟩ := hc
        obtain ⟨a, xs, rfl, ra, rxs⟩ := rx
        obtain ⟨hks, hall⟩ := keysT_all eks
        obtain ⟨L, e1, e2, h3⟩ := quads rxs hall
        have anti : ∀ x ∈ ds, ∀ y ∈ ds, keyG n x = keyG n y → x = y := by
          rcases hu with hu | hu
          · rw [hks] at hu
            exact nodup_inj hu
          · intro x hx y hy e
            obtain ⟨l, rfl, l1, l2⟩ := hall x hx
            obtain ⟨m, rfl, m1, m2⟩ := hall y hy
            have lx : l.length = n := by simpa [isTn] using List.all_eq_true.mp hu _ hx
            have ly : m.length = n := by simpa [isTn] using List.all_eq_true.mp hu _ hy
            rw [List.take_of_length_le (by omega)] at l2 m2
            have back : ∀ {zs : List PyData} {ns : List Int}, asInts zs = some ns → zs = ns.map PyData.int := fun {zs} => by
              induction zs with
              | nil => intro ns h; cases h; rfl
              | cons z zs ih =>
                intro ns h
                cases z with
                | int i =>
                  unfold asInts at h
                  split at h
                  · rename_i l el
                    cases h
                    rw [ih el]; rfl
                  · cases h
                | _ => cases h
            rw [back l2, back m2, e]
        refine ⟨a, L.map (fun q => q.e), n, rfl, .inl ?_, hn, fun p hp => ?_, fun p hp q hq ek => ?_, fun L' d hp hs np => ?_⟩
        · rw [List.map_map]; rw [e1] at ra; exact ra
        · obtain ⟨q, hq, rfl⟩ := List.mem_map.mp hp
          exact ⟨(h3 q hq).1, (h3 q hq).2.1⟩
        · obtain ⟨q1, hq1, rfl⟩ := List.mem_map.mp hp
          obtain ⟨q2, hq2, rfl⟩ := List.mem_map.mp hq
          rcases hu with hu | hu
          · left
            rw [hks, e2, List.map_map] at hu
            have := nodup_inj hu q1 hq1 q2 hq2 (by
              show keyG n q1.d = keyG n q2.d
              rw [← (h3 q1 hq1).2.2.1, ← (h3 q2 hq2).2.2.1, ek])
            rw [this]
          · right
            have m1 : q1.d ∈ ds := by rw [e2]; exact List.mem_map.mpr ⟨_, hq1, rfl⟩
            have m2 : q2.d ∈ ds := by rw [e2]; exact List.mem_map.mpr ⟨_, hq2, rfl⟩
            exact ⟨(h3 q1 hq1).2.2.2.2 (List.all_eq_true.mp hu _ m1), (h3 q2 hq2).2.2.2.2 (List.all_eq_true.mp hu _ m2)⟩
        · obtain ⟨L2, p1, p2⟩ := perm_back (fun q : TupQ => q.e) hp rfl
          have hr : RpAll K W H (L'.map fun p => V.ref p.at') (L2.map fun q => q.d) := by
            rw [p2, List.map_map]
            have : ∀ M : List TupQ, (∀ q ∈ M, Rp K W H (.ref q.e.at') q.d) → RpAll K W H (M.map ((fun p : TupE => V.ref p.at') ∘ fun q => q.e)) (M.map fun q => q.d) := fun M => by
              induction M with
              | nil => intro _; exact .nil
              | cons q M ih => intro h; exact .cons (h q List.mem_cons_self) (ih fun x hx => h x (List.mem_cons_of_mem _ hx))
            exact this L2 fun q hq => (h3 q (p1.mem_iff.mp hq)).2.2.2.1
          have he : L2.map (fun q => q.d) = sortT n ds := by
            refine sortT_eq (by rw [e2]; exact p1.map _) ?_ anti
            rw [List.pairwise_map]
            rw [p2, List.pairwise_map] at hs
            refine hs.imp_of_mem fun {x y} hx hy h => ?_
            rw [(h3 x (p1.mem_iff.mp hx)).2.2.1, (h3 y (p1.mem_iff.mp hy)).2.2.1] at h
            exact h
          rw [he] at hr
          obtain ⟨k1, k2⟩ := new_lst np hr
          exact kk _ _ _ k1 k2
      · cases e
    · cases e
  · cases e
/-! ### of encoded lists -/
theorem keyT_enc {n : Nat} {ns : List Int} {rest : List PyData} (h : ns.length = n) : keyT n (.tuple (ns.map PyData.int ++ rest)) = some ns := by
  show (if n ≤ (ns.map PyData.int ++ rest).length then asInts ((ns.map PyData.int ++ rest).take n) else none) = some ns
  rw [if_pos (by simp; omega), List.take_left' (by simpa using h), asInts_map]
theorem sortedT_map {β : Type} {n : Nat} (hn : 1 ≤ n) (enc : β → PyData) (key : β → List Int) (rest : β → List PyData) (he : ∀ b, enc b = .tuple ((key b).map PyData.int ++ rest b)) (hk : ∀ b, (key b).length = n) (L S : List β) (hp : S.Perm L) (hs : S.Pairwise fun a b => lexL (key b) (key a) = false) (hu : (L.map key).Nodup ∨ ∀ b, rest b = []) : gSortedT n (.list (L.map enc)) = some (.nw (.lst (S.map enc))) := by
  have kT : ∀ b, keyT n (enc b) = some (key b) := fun b => by rw [he]; exact keyT_enc (hk b)
  have kG : ∀ b, keyG n (enc b) = key b := fun b => by unfold keyG; rw [kT]; rfl
  have kS : ∀ L : List β, keysT n (L.map enc) = some (L.map key) := fun L => by
    induction L with
    | nil => rfl
    | cons b L ih => rw [List.map_cons, keysT, kT, ih]; rfl
  have hc : 1 ≤ n ∧ ((L.map key).Nodup ∨ (L.map enc).all (isTn n) = true) := by
    refine ⟨hn, hu.imp id fun h => ?_⟩
    rw [List.all_eq_true]
    intro d hd
    obtain ⟨b, _, rfl⟩ := List.mem_map.mp hd
    rw [he, h]
    simp [isTn, hk]
  unfold gSortedT
  simp only [kS, hc, and_self, if_true]
  rw [← sortT_eq (hp.map enc) (by
    rw [List.pairwise_map]
    exact hs.imp fun {a b} h => by rw [kG, kG]; exact h) ?_]
  intro x hx y hy e
  obtain ⟨a, ha, rfl⟩ := List.mem_map.mp hx
  obtain ⟨b, hb, rfl⟩ := List.mem_map.mp hy
  rw [kG, kG] at e
  rcases hu with hu | hu
  · rw [nodup_inj hu a ha b hb e]
  · rw [he, he, hu, hu, e]
end M

set_option maxHeartbeats 2000000
/-! M38: range(a, b, c) walked. Own work. -/
namespace M
open PySem PySem.Spec PyProof.Rows L2
def okR3 (i j c : Int) : Bool := decide (-1000000000 ≤ i ∧ i ≤ 1000000000 ∧ -1000000000 ≤ j ∧ j ≤ 1000000000 ∧ 1 ≤ c ∧ c ≤ 1000)
def many3 (i j c : Int) : Nat := if i < j then ((j - i - 1) / c + 1).toNat else 0
theorem rgC_of {i j c : Int} (h : okR3 i j c = true) : RgC i j c (many3 i j c) := by
  unfold okR3 at h
  obtain ⟨h1, h2, h3, h4, h5, h6⟩ := of_decide_eq_true h
  have hs : Builtin.Range.rangeSize i j c = (many3 i j c : Nat) := by
    unfold Builtin.Range.rangeSize many3
    rw [if_pos (show c > 0 by omega)]
    by_cases e : i < j
    · rw [if_pos e, if_pos e]
      have : 0 ≤ (j - i - 1) / c := Int.ediv_nonneg (by omega) (by omega)
      omega
    · rw [if_neg e, if_neg e]; rfl
  have hm : ((many3 i j c : Nat) : Int) ≤ 2000000001 := by
    unfold many3
    split
    · have h7 : (j - i - 1) / c ≤ j - i - 1 := Int.ediv_le_self _ (by omega)
      have : 0 ≤ (j - i - 1) / c := Int.ediv_nonneg (by omega) (by omega)
      omega
    · omega
  refine ⟨by omega, by omega, ?_, hs⟩
  unfold Builtin.Range.small
  rw [hs]
  simp only [Builtin.Range.rangeFitsLong, Bool.and_eq_true, Bool.or_eq_true, decide_eq_true_eq, beq_iff_eq, show c > 0 by omega, if_true]
  refine ⟨⟨⟨⟨⟨?_, ?_⟩, ?_, ?_⟩, ?_, ?_⟩, ?_, ?_⟩, .inr ⟨?_, ?_⟩⟩ <;> omega
def r3K (i j : Int) (c : RV) (S : MS) : R (List PyData) := match c with
  | .d (.int c) => if okR3 i j c = true then .ok (rngD i c (many3 i j c)) S else .stuck
  | _ => .stuck
def r3J (i : Int) (l : ME) (j : RV) (S : MS) : R (List PyData) := match j with
  | .d (.int j) => (l S).bind (r3K i j)
  | _ => .stuck
def r3I (k l : ME) (i : RV) (S : MS) : R (List PyData) := match i with
  | .d (.int i) => (k S).bind (r3J i l)
  | _ => .stuck
def miR3 (m k l : ME) : MI := fun S => (m S).bind (r3I k l)
theorem yl_rngC {K : Frag} {bl : Bool} {W : Own} {H : Hp} {lo c : Int} {n : Nat} : Yl K bl (Itc lo c n) (rngD lo c n) W H := fun W1 H1 st i => by
  refine ⟨fun d hd => ?_, fun hl => ?_⟩
  · obtain ⟨h1, h2⟩ := rngD_get hd
    refine ⟨h1, fun y H' hy => ?_⟩
    obtain ⟨eH, ey⟩ := hy
    subst eH ey h2
    exact ⟨W1, Ext.refl, .int⟩
  · unfold rngD at hl
    rw [List.length_map, List.length_range] at hl
    exact hl
section
variable {X : Cx} {G : GC} {b : Bool} {a c d : Expr} {m k l : ME} {pos : Pos} {tg : Expr}
theorem iv_range3 {bl : Bool} {p : Pos} (hm : X.mg "range" = none) (h : EV b X G a m) (h2 : EV true X G c k) (h3 : EV true X G d l) (hg : Gl X "range" := by rfl) (hs : starEach [a, c, d] X.env = (false, eval a X.env) :: starEach [c, d] X.env := by rfl)
    (hs1 : starEach [c, d] X.env = (false, eval c X.env) :: starEach [d] X.env := by rfl) (hs2 : starEach [d] X.env = [(false, eval d X.env)] := by rfl) (hpl : (backTo pos (starEach [c, d] X.env)).any (·.1) = false := by rfl) : IV b bl X G tg (.Call (.Name "range" p) [a, c, d] [] pos) (miR3 m k l) :=
  ⟨PI.imp (pi_range3 hg hm (pa_cons h.pe (pa_cons h2.pe (pa_cons h3.pe pa_nil hs2) hs1) hs) hs hpl) fun σ H R ⟨S, W, cc, q⟩ => ⟨S, W, cc, (okR.one q).imp fun v H1 ⟨r, S1, W1, st, c1, rv, q1⟩ => by
    unfold r3I at q1
    split at q1
    · rename_i i
      have rv : Rp _ W1 H1 v (.int i) := rv
      cases rv
      exact ⟨S1, W1, c1, (okR.one q1).imp fun u H2 ⟨r2, S2, W2, st2, c2, rv2, q2⟩ => by
        unfold r3J at q2
        split at q2
        · rename_i j
          have rv2 : Rp _ W2 H2 u (.int j) := rv2
          cases rv2
          exact ⟨S2, W2, c2, (okR.one q2).imp fun x H3 ⟨r3, S3, W3, st3, c3, rv3, q3⟩ => by
            unfold r3K at q3
            split at q3
            · rename_i z
              have rv3 : Rp _ W3 H3 x (.int z) := rv3
              cases rv3
              split at q3
              · rename_i hz
                exact ⟨i, j, z, _, rfl, rgC_of hz, q3 _ H3 W3 Stp.refl c3 yl_rngC⟩
              · exact q3.elim
            · exact q3.elim⟩
        · exact q2.elim⟩
    · exact q1.elim⟩⟩
end
@[simp] theorem miR3_ap (m k l : ME) (s : Option MV) (S : MS) : miR3 m k l (s :: S) = (m (s :: S)).bind (r3I k l) := Eq.trans rfl rfl
@[simp] theorem r3I_i (k l : ME) (i : Int) (S : MS) : r3I k l (.d (.int i)) S = (k S).bind (r3J i l) := Eq.trans rfl rfl
@[simp] theorem r3J_i (l : ME) (i j : Int) (S : MS) : r3J i l (.d (.int j)) S = (l S).bind (r3K i j) := Eq.trans rfl rfl
@[simp] theorem r3K_i {i j c : Int} {S : MS} (h : okR3 i j c = true) : r3K i j (.d (.int c)) S = .ok (rngD i c (many3 i j c)) S := if_pos h
end M

set_option maxHeartbeats 2000000
/-! M39: lists of things that are owned: x = [e, ..], x[i]. Own work. -/
namespace M
open PySem PySem.Spec PyProof.Rows L2
def nm0 (ts : List MV) : List (Str × MV) := ts.map fun t => (("" : Str), t)
section
variable {K : Frag} {W : Own} {H : Hp}
theorem RT.trf {i : Nat} : ∀ {len n : Nat} {vs : List V} {ts : List MV}, RT K W H i (List.range' n len) vs ts → TrF K W H [i + 1] n (vs.map fun v => (("" : Str), v)) (nm0 ts)
  | 0, n, _, _, h => by
    cases h
    exact .nil
  | len + 1, n, _, _, h => by
    rw [List.range'_succ] at h
    cases h with
    | cons a b => exact .cons a (RT.trf b)
theorem TrF.get {p : Path} : ∀ {fs : List (Str × MV)} {n k : Nat} {vs : List (Str × V)} {f : Str} {t : MV}, TrF K W H p n vs fs → fs[k]? = some (f, t) → ∃ v, vs[k]? = some (f, v) ∧ Tr K W H ((n + k) :: p) v t
  | [], n, k, _, _, _, h, e => by simp at e
  | (g, u) :: fs, n, 0, _, _, _, h, e => by
    cases h with
    | cons a b =>
      simp at e
      obtain ⟨e1, e2⟩ := e
      subst e1 e2
      exact ⟨_, rfl, a⟩
  | (g, u) :: fs, n, k + 1, _, _, _, h, e => by
    cases h with
    | cons a b =>
      obtain ⟨v, h1, h2⟩ := TrF.get (k := k) b (by simpa using e)
      exact ⟨v, by simpa using h1, by rw [show n + (k + 1) = n + 1 + k by omega]; exact h2⟩
end
def mlot (i : Nat) (m : MTs) : MSt := fun S => (m S).toS fun ts S1 => .nx (S1.set i (some (.lot (nm0 ts))))
def pickT (x y : RV) (S : MS) : R RV := match x, y with
  | .pk p (.lot fs), .d (.int i) => match L2.ixN fs.length i with
    | some k => match fs[k]? with
      | some ft => .ok (fldV (k :: p) ft.2) S
      | none => .stuck
    | none => .stuck
  | _, _ => .stuck
theorem pickT_ok {Q : R RV → Prop} {x y : RV} {S : MS} (hs : ¬ Q .stuck) (h : Q (pickT x y S)) : ∃ p fs j n ft, x = .pk p (.lot fs) ∧ y = .d (.int j) ∧ L2.ixN fs.length j = some n ∧ fs[n]? = some ft ∧ Q (.ok (fldV (n :: p) ft.2) S) := by
  unfold pickT at h
  split at h
  · split at h
    · rename_i en
      split at h
      · rename_i ef
        exact ⟨_, _, _, _, _, rfl, rfl, en, ef, h⟩
      · exact absurd h hs
    · exact absurd h hs
  · exact absurd h hs
def mixT (m k : ME) : ME := fun S => (m S).bind fun x S1 => (k S1).bind fun y S2 => pickT x y S2
section
variable {X : Cx} {G : GC} {i len : Nat} {a c : Expr} {es : List Expr} {m k : ME} {mt : MTs} {pos : Pos} {st : Stmt}
theorem st_lot (hp : ∀ te, PE X (.List es pos) te → PS X st (tAsg te (gName i))) (hi : Free G i) (h : AT X G i es (List.range' 0 len) mt) (hl : len ≤ 1000000 := by decide) : ST X G st (mlot i mt) :=
  ⟨(hp _ (pe_lst h.pa)).imp fun D σ H ⟨S, W, cc, q⟩ => ⟨S, W, cc, (okR_of_S (ra := fun W H vs ts => RT X.K W H i (List.range' 0 len) vs ts) q).imp fun vs H1 ⟨ts, S1, W1, c1, rr, q1⟩ => by
    have el := rr.len
    rw [List.length_range'] at el
    refine ⟨by rw [sizeLine_eq]; omega, fun p np => ?_⟩
    have ex : Ext W1 H1 (setW W1 p (.own [i + 1])) (upd H1 p (.lst vs)) := ext_new (K := X.K) np
    have c2 := c1.ext ex
    have tf := (rr.ext ex).trf
    have ev : (vs.map fun v => (("" : Str), v)).map (·.2) = vs := by
      rw [List.map_map]
      exact List.map_id' _
    exact q1 _ _ _ ex.mono (c2.set hi Ext.refl (.lot setW_same (by rw [ev]; exact upd_same) tf))⟩⟩
theorem ev_ixT (ha : EV true X G a m) (hb : EV true X G c k) (hs : PlainIx c := by exact fun _ _ => rfl) : EV true X G (.Subscript a c pos) (mixT m k) :=
  ⟨(pe_ix ix_seq ha.pe hb.pe hs).imp fun σ H Q ⟨S, W, cc, q⟩ => ⟨S, W, cc, (okR.bind (b1 := true) (b2 := true) q).imp fun v H1 ⟨x, S1, W1, st, c1, rv, q1⟩ => ⟨S1, W1, c1, (okR.one q1).imp fun u H2 ⟨y, S2, W2, st2, c2, rv2, q2⟩ => by
    obtain ⟨p, fs, j, n, ft, ex, ey, en, ef, q2⟩ := pickT_ok (Q := fun z => okR (relV X.K σ) X.K G true W2 H2 σ Q z) (fun z => z) q2
    subst ex ey
    obtain ⟨tr, nv⟩ := rv
    have rv2 : Rp X.K W2 H2 u (.int j) := rv2
    cases rv2
    obtain ⟨q0, i0, ep⟩ := nv.last
    subst ep
    have tr := Tr.ext st2 tr
    have nv := nv.ext st2
    cases tr with
    | @lot _ a vs _ w e1 tf =>
      obtain ⟨f, t⟩ := ft
      obtain ⟨v0, h1, h2⟩ := tf.get ef
      have hv : (vs.map (·.2))[n]? = some v0 := by rw [List.getElem?_map, h1]; rfl
      refine .inl ⟨a, vs.map (·.2), j, v0, rfl, rfl, .inl (.inl e1), ?_, q2 v0 H2 W2 Stp.refl c2 ?_⟩
      · unfold L2.atI
        rw [List.length_map, tf.len, en]
        exact hv
      · rw [Nat.zero_add] at h2
        have nv2 : Nav H2 σ (n :: (q0 ++ [i0 + 1])) v0 := by
          cases q0 with
          | nil => exact ⟨a, f, nv, .inr (.inr ⟨_, .inl e1, hv⟩)⟩
          | cons z q0 => exact ⟨a, f, nv, .inr (.inr ⟨_, .inl e1, hv⟩)⟩
        cases t with
        | d x => cases h2 with | d h => exact h
        | lst x => exact ⟨h2, nv2⟩
        | dic x => exact ⟨h2, nv2⟩
        | obj x y => exact ⟨h2, nv2⟩
        | rcd x => exact ⟨h2, nv2⟩
        | fdc x => exact ⟨h2, nv2⟩
        | lot x => exact ⟨h2, nv2⟩
        | tot x => exact ⟨h2, nv2⟩⟩⟩⟩
end
@[simp] theorem mlot_ap (i : Nat) (m : MTs) (s : Option MV) (S : MS) : mlot i m (s :: S) = (m (s :: S)).toS fun ts S1 => .nx (S1.set i (some (.lot (nm0 ts)))) := Eq.trans rfl rfl
@[simp] theorem mixT_ap (m k : ME) (s : Option MV) (S : MS) : mixT m k (s :: S) = (m (s :: S)).bind fun x S1 => (k S1).bind fun y S2 => pickT x y S2 := Eq.trans rfl rfl
@[simp] theorem mvar_lot {i : Nat} {x : List (Str × MV)} {S : MS} (h : S[i]? = some (some (.lot x))) : mvar i S = .ok (.pk [i + 1] (.lot x)) S := by unfold mvar; rw [h]
end M

set_option maxHeartbeats 2000000
/-! M40: enumerate of a tuple. Own work, after the hand layer's enumerate of a list. -/
namespace L2
open PySem PySem.Spec PyProof.Rows
theorem meets_enumerate_newV {v : Value} {o : Obj} {H : Heap → Prop} (B : Begins v o H) :
    Meets (Builtin.«enumerate.__new__» ⟨[.type "enumerate", v], []⟩) (fun _ R s => H s.heap ∧
      R (.ok (.ret (.ref (s.heap.push o).objs.size))) { s with heap := (s.heap.push o).push { cls := .type "enumerate", data := .fields #[.none, .bool false, .ref s.heap.objs.size, rawInt 0, .none, .none] } }) :=
  .of_wp fun prog w A R s h => by
    obtain ⟨hp, g, d, tk, os⟩ := s; obtain ⟨h1, h⟩ := h
    have hsub := sub_enumerate
    have q1 : ∀ {A' : Around} {E : Value → Shared → Prop} {Q : Value → Shared → Prop}, Q (.ref hp.objs.size) ⟨hp.push o, g, d, tk, os⟩ → wpAny (model prog w) A' (pyIter v) Q E ⟨hp, g, d, tk, os⟩ :=
      fun q => B.iter prog w _ _ ⟨hp, g, d, tk, os⟩ _ h1 q
    wp_walk using q1
    refine wpAny_stack_any fun st => wpAny_pure ?_
    split
    · rename_i c _ _ _ _ _
      cases (c == Value.type "enumerate")
      · wp_walk using q1
        exact ⟨_, rfl, h⟩
      · wp_walk using q1
        exact ⟨_, rfl, h⟩
    · wp_walk using q1
      exact ⟨_, rfl, h⟩
theorem call_enumerate_tup {prog : Program} {w : World} {A : Around} {E : Value → Shared → Prop} {s : Shared} {l : Addr} {items : Array Value} {Q : Value → Shared → Prop} (hL : s.heap.IsTuple l items)
    (h : ∀ h', IsEnum h' (s.heap.objs.size + 1) s.heap.objs.size 0 .none → h'.IsTupleIter s.heap.objs.size l 0 → h'.objs.size = s.heap.objs.size + 2 →
      (∀ b o, s.heap.get? b = some o → h'.get? b = some o) → Q (.ref (s.heap.objs.size + 1)) { s with heap := h' }) :
    wpAny (model prog w) A (call (.type "enumerate") [.ref l]) Q E s := by
  refine callType_new F.called_enumerate (by decide) (F.typeCall_enumerate_1 _) (F.newCall_enumerate_1 _) (fun obj => F.args_object_init_2 obj _) F.entry_enumerate_new
    (meets_enumerate_newV (begins_tuple l items)) ⟨hL, ?_⟩
  have hz : (s.heap.push { cls := .type "tuple_iterator", data := .fields #[.ref l, .int 0 0] }).objs.size = s.heap.objs.size + 1 := Heap.size_push ..
  show _ ∧ _
  rw [hz]
  have he : IsEnum ((s.heap.push { cls := .type "tuple_iterator", data := .fields #[.ref l, .int 0 0] }).push
      { cls := .type "enumerate", data := .fields #[.none, .bool false, .ref s.heap.objs.size, rawInt 0, .none, .none] }) (s.heap.objs.size + 1) s.heap.objs.size 0 .none := by
    have := Heap.get?_push_size (s.heap.push { cls := .type "tuple_iterator", data := .fields #[.ref l, .int 0 0] })
      (o := { cls := .type "enumerate", data := .fields #[.none, .bool false, .ref s.heap.objs.size, rawInt 0, .none, .none] }) rfl
    rw [hz] at this; exact this
  refine ⟨⟨_, he, rfl⟩, h _ he ⟨_, Heap.get?_push_of_some _ (Heap.get?_push_size _ rfl), rfl, rfl⟩ (by rw [Heap.size_push, hz]) fun b o x => Heap.get?_push_of_some _ (Heap.get?_push_of_some _ x)⟩
theorem pyNext_enumT_end {prog : Program} {w : World} {A : Around} {E : Value → Shared → Prop} {s : Shared} {e it l : Addr} {i : Nat} {items : Array Value} {old : Value} {Q : Option Value → Shared → Prop} (hh : A.handled = none)
    (he : IsEnum s.heap e it i old) (hit : s.heap.IsTupleIter it l i) (hl : s.heap.IsTuple l items) (hx : items[i]? = none)
    (hQ : ∀ h', Heap.ExtBut it s.heap h' → Q none { s with heap := h' }) : wpAny (model prog w) A (pyNext (.ref e)) Q E s := by
  have hT : s.TypeIs (.ref e) "enumerate" := ⟨_, he, rfl⟩
  unfold pyNext
  refine wpAny_bind (wpAny_attempt (wpAny_callSpecial?_slot (name := Str.ofString "__next__") hT F.slot_enumerate_next
    (wpAny_call_entry F.slot_enumerate_next hT F.entry_enumerate_next ?_ (F.args_enumerate_next_1 _))))
  show wpAny _ _ (field (.ref e) 2 >>= _) _ _ _
  refine wpAny_bind (wpAny_field he rfl (x := .ref it) rfl ?_)
  refine wpAny_bind (wpAny_nextOf_tuple_end hh hit hl hx fun h' x he' hx' => ?_)
  obtain ⟨o, ho, hc⟩ := hx'
  refine wpAny_bind (wpAny_isInstance (T := "StopIteration") (b := true) ⟨o, ho, hc⟩ isSubtype_stop ?_)
  exact wpAny_pure (hQ _ he')
def Itet (K : PySem.W.Frag) (a : Addr) : It :=
  ⟨fun i H => ∃ (xs : List V) (x : V), SqT K H a xs ∧ xs[i]? = some x, fun i H v H' => ∃ T x, v = .ref T ∧ H T = none ∧ H' = upd H T (.tup [.int (i : Nat), x]) ∧ ∀ xs, SqT K H a xs → xs[i]? = some x, fun i H => ∃ xs : List V, SqT K H a xs ∧ xs.length ≤ i⟩
theorem tupiter_ne {h : Heap} {it a : Addr} {i : Nat} {items : Array Value} (h1 : h.IsTupleIter it a i) (h2 : h.IsTuple a items) : a ≠ it := by
  obtain ⟨o, ho, hc, _⟩ := h1
  obtain ⟨o2, ho2, hc2, _⟩ := h2
  intro e
  subst e
  rw [ho] at ho2
  cases ho2
  rw [hc] at hc2
  exact absurd (Value.type.inj hc2) (by decide)
theorem enum_ne {h : Heap} {e it a : Addr} {i : Int} {old : Value} {items : Array Value} (h1 : IsEnum h e it i old) (h2 : h.IsTuple a items) : e ≠ a := by
  obtain ⟨o2, ho2, hc2, _⟩ := h2
  intro z
  subst z
  have h1 : h.get? e = some _ := h1
  rw [h1] at ho2
  cases ho2
  exact absurd (Value.type.inj hc2) (by decide)
theorem turn_enumT {P : Program} {w : World} {K : PySem.W.Frag} {elts : List Expr} {kk : Nat} {tpos : Pos} (a e it : Addr) :
    Turn P w K (.Tuple elts kk tpos) (Itet K a) [e, it] e (fun i h => (∃ old, IsEnum h e it ((i : Nat) : Int) old) ∧ h.IsTupleIter it a i ∧ e ≠ it) where
  mem := by simp
  obj := fun i h st b hb => by
    obtain ⟨⟨old, he⟩, ⟨o, ho, hc, hd⟩, _⟩ := st
    have e' : b = e ∨ b = it := by simpa using hb
    rcases e' with z | z
    · rw [z]; exact ⟨_, he, fun v q => nomatch q⟩
    · rw [z]; exact ⟨o, ho, fun v q => by rw [hd] at q; cases q⟩
  keep := fun i h h' st k => let ⟨⟨old, he⟩, hi, hne⟩ := st; ⟨⟨old, k e (by simp) _ he⟩, hi.at fun o q => k it (by simp) o q, hne⟩
  item := by
    intro X hP hw hK hc i pins s σ H E I hf st hg
    subst hP hw hK
    obtain ⟨⟨old, he⟩, hit, hne⟩ := st
    obtain ⟨xs, x, hq, hx⟩ := hg
    obtain ⟨its, rv, p, hz⟩ := I.tuple hq
    have p : s.heap.IsTuple a its.toArray := p
    obtain ⟨u, hu, ru⟩ := rv.get hx
    have hel : e < s.heap.objs.size := Heap.lt_size he
    have hil : it < s.heap.objs.size := by obtain ⟨_, q, _⟩ := hit; exact Heap.lt_size q
    have hlt : i < its.toArray.size := by simpa using (List.getElem?_eq_some_iff.mp hu).1
    refine wpAny_pyNext_enum_itemD (Draws.tuple (show X.A.in1.handled = none from I.ok.hd hc) it a (tupiter_ne hit p) its.toArray) he ⟨hit, p⟩ hlt hne (by simp [hne, enum_ne he p]) fun y h' tk hy ho hit' hT hsz hk => ?_
    have hyu : y = u := by
      have : its.toArray[i]? = some u := by simpa using hu
      rw [this] at hy
      exact (Option.some.inj hy).symm
    subst hyu
    refine ⟨_, rfl, wpAny_letOwnedTupleGo_enum (s := { s with heap := h', toks := tk + 1 }) ho fun h'' he' sb => ?_⟩
    have hT2 : h''.get? s.heap.objs.size = some { cls := .type "tuple", data := .seq #[.int i tk, y] } := (sb.2 _ (Nat.ne_of_gt hel)).trans hT
    have new : ObjOk X.prog X.w (upd H s.heap.objs.size (.tup [.int (i : Nat), x])) h'' s.heap.objs.size (.tup [.int (i : Nat), x]) :=
      ⟨by show 2 ≤ sizeLine; decide, [.int i tk, y], .cons ⟨_, rfl⟩ (.cons ru .nil), ⟨_, hT2, rfl, _, rfl⟩⟩
    have I1 : Inv X pins σ (upd H s.heap.objs.size (.tup [.int (i : Nat), x])) { s with heap := h'', toks := tk + 1 } :=
      I.turnedNew (ch := [e, it]) (fun b ob hb q => (sb.2 b (fun z => hb (by simp [z]))).trans (hk b ob (fun z => hb (by simp [z])) (fun z => hb (by simp [z])) q)) hf (Nat.le_refl _) new
    refine ⟨.ref s.heap.objs.size, _, I1, rfl, ⟨_, x, rfl, I.hok.fresh (Nat.le_refl _), rfl, fun ys hy => by rw [I.tuple_inj hy hq]; exact hx⟩, ⟨⟨y, ?_⟩, hit'.1.at fun o q => (sb.2 it (Ne.symm hne)).trans q, hne⟩, fun b hb => ?_⟩
    · have e1 : ((i + 1 : Nat) : Int) = (i : Int) + 1 := by omega
      rw [e1]; exact he'
    · have hb' : b < s.heap.objs.size := by
        have e' : b = e ∨ b = it := by simpa using hb
        rcases e' with z | z
        · rw [z]; exact hel
        · rw [z]; exact hil
      rw [upd_ne (Nat.ne_of_lt hb')]
      exact (hf b hb).1
  done := by
    intro X hP hw hK hc i pins s σ H E I hf st hg
    subst hP hw hK
    obtain ⟨⟨old, he⟩, hit, hne⟩ := st
    obtain ⟨xs, hq, hx⟩ := hg
    obtain ⟨its, rv, p, hz⟩ := I.tuple hq
    have p : s.heap.IsTuple a its.toArray := p
    obtain ⟨f0, f1, f2, f3, f4, f5⟩ := hf it (by simp)
    have hl := rv.length
    exact pyNext_enumT_end (I.ok.hd hc) he hit p (by simp; omega) fun h' eb => ⟨rfl, I.turned (t' := s.toks) (fun b o hb q => eb b o hb q) f0 f1 f3 f4 f5⟩
  self := fun A i s Q E st h => let ⟨⟨_, he⟩, _⟩ := st; wpAny_pyIter_enum he h
def iEnumT (K : PySem.W.Frag) (ta : TA) : TI := fun σ H R => ta σ H fun vs H1 => ∃ a xs, vs = [.ref a] ∧ SqT K H1 a xs ∧ R (Itet K a) H1
theorem pi_enumT {X : Cx} {e : Expr} {ta : TA} {p pos tpos : Pos} {elts : List Expr} {kk : Nat} (hg : Gl X "enumerate") (hm : X.mg "enumerate" = none) (ha : PA X [e] ta) (hs : starEach [e] X.env = [(false, eval e X.env)] := by rfl) :
    PI X (.Tuple elts kk tpos) (.Call (.Name "enumerate" p) [e] [] pos) (iEnumT X.K ta) := by
  refine ⟨fun pins s σ H R I h => ?_⟩
  refine Call_ (ld_blt I hg hm boot_enumerate (PyProof.Rows.callWith_type1 (thn (ha.run pos pins s σ H _ I h) fun us s1 ⟨vs, H1, I1, r1, q1⟩ => ?_) hs rfl))
  obtain ⟨a, xs, ex, hq, q⟩ := q1
  subst ex
  cases r1 with
  | cons r rr =>
    cases rr
    cases r
    obtain ⟨its, rv, p', hz⟩ := I1.tuple hq
    refine call_enumerate_tup (show s1.heap.IsTuple a its.toArray from p') fun h' he hit hsz hk => wpAny_pyIter_enum he ?_
    have I2 : Inv X pins σ H1 { s1 with heap := h' } := I1.kept (t' := s1.toks) hk
    refine ⟨s1.heap.objs.size + 1, [s1.heap.objs.size + 1, s1.heap.objs.size], _, _, H1, rfl, I2, turn_enumT a (s1.heap.objs.size + 1) s1.heap.objs.size, ⟨⟨.none, he⟩, hit, Nat.succ_ne_self _⟩, fun b hb => ?_, q⟩
    have e' : b = s1.heap.objs.size + 1 ∨ b = s1.heap.objs.size := by simpa using hb
    have hle : s1.heap.objs.size ≤ b := by
      rcases e' with z | z
      · rw [z]; exact Nat.le_add_right _ _
      · rw [z]; exact Nat.le_refl _
    exact I1.fpOk hle (I1.hok.fresh hle)
end L2
namespace M
open PySem PySem.Spec PyProof.Rows L2
/-- enumerate(t), t a tuple of frozen data -/
def miET (m : ME) : MI := fun S => (m S).bind fun r S1 => toI ((datT r).map fun ds => enumD ds 0) S1
section
variable {X : Cx} {G : GC} {b bl : Bool} {e : Expr} {m : ME} {pos : Pos}
theorem iv_enumT {p tpos : Pos} {elts : List Expr} {kk : Nat} (hm : X.mg "enumerate" = none) (h : EV b X G e m) (hg : Gl X "enumerate" := by rfl) (hs : starEach [e] X.env = [(false, eval e X.env)] := by rfl) : IV b bl X G (.Tuple elts kk tpos) (.Call (.Name "enumerate" p) [e] [] pos) (miET m) :=
  ⟨PI.imp (pi_enumT hg hm (pa_cons h.pe pa_nil hs) hs) fun σ H R ⟨S, W, c, q⟩ => ⟨S, W, c, (okR.one q).imp fun v H1 ⟨r, S1, W1, st, c1, rv, q1⟩ => by
    unfold toI at q1
    split at q1
    · rename_i ds ed
      cases el : datT r with
      | none => rw [el] at ed; cases ed
      | some ds0 =>
        rw [el] at ed
        cases ed
        have rp := opd_tup (Opd.of rv) el
        cases rp with
        | @tup a xs _ ra rb =>
          refine ⟨a, xs, rfl, ra.sq, q1 _ H1 W1 Stp.refl c1 fun W2 H2 st2 i => ?_⟩
          have ra2 := ra.fz st2.fz
          have rb2 := rb.fz st2.fz
          refine ⟨fun d hd => ?_, fun hl => ?_⟩
          · obtain ⟨d0, hd0, ed⟩ := enumD_get hd
            obtain ⟨x, hx, rx⟩ := rb2.get hd0
            refine ⟨⟨xs, x, ra2.sq, hx⟩, fun y H' hy => ?_⟩
            obtain ⟨T, x', ey, nT, eH, hy⟩ := hy
            subst eH ey ed
            have := hy xs ra2.sq
            rw [hx] at this
            cases this
            obtain ⟨h1, h2⟩ := new_tup (K := X.K) nT (RpAll.cons (.int (i := (i : Nat))) (.cons rx .nil))
            exact ⟨_, h1, h2⟩
          · rw [enumD_len] at hl
            exact ⟨xs, ra2.sq, by rw [rb2.len]; exact hl⟩
    · exact q1.elim⟩⟩
end
end M

set_option maxHeartbeats 2000000
/-! M41: for x in (a, b): a, b things that are owned; within the body x goes by the slot of what it stands for. Own work. -/
namespace M
open PySem PySem.Spec PyProof.Rows L2

/-! ### two slots exchanged -/
def swapL {α : Type} (a h : Nat) (l : List α) : List α := match l[a]?, l[h]? with
  | some x, some y => (l.set a y).set h x
  | _, _ => l
section
variable {α : Type} {a h : Nat} {l : List α}
theorem swap_len : (swapL a h l).length = l.length := by
  unfold swapL
  split
  · rw [List.length_set, List.length_set]
  · rfl
theorem swap_a (hne : a ≠ h) (la : a < l.length) (lh : h < l.length) : (swapL a h l)[a]? = l[h]? := by
  unfold swapL
  rw [List.getElem?_eq_getElem la, List.getElem?_eq_getElem lh]
  simp only
  rw [List.getElem?_set_ne (Ne.symm hne), List.getElem?_set_self la]
theorem swap_h (hne : a ≠ h) (la : a < l.length) (lh : h < l.length) : (swapL a h l)[h]? = l[a]? := by
  unfold swapL
  rw [List.getElem?_eq_getElem la, List.getElem?_eq_getElem lh]
  simp only
  rw [List.getElem?_set_self (by rw [List.length_set]; exact lh)]
theorem swap_i {i : Nat} (h1 : i ≠ a) (h2 : i ≠ h) : (swapL a h l)[i]? = l[i]? := by
  unfold swapL
  split
  · rw [List.getElem?_set_ne (Ne.symm h2), List.getElem?_set_ne (Ne.symm h1)]
  · rfl
theorem swap_same (e : l[a]? = l[h]?) : swapL a h l = l := by
  apply List.ext_getElem?
  intro i
  by_cases la : a < l.length
  · have lh : h < l.length := by
      rw [List.getElem?_eq_getElem la] at e
      exact (List.getElem?_eq_some_iff.mp e.symm).1
    by_cases hne : a = h
    · subst hne
      unfold swapL
      rw [List.getElem?_eq_getElem la]
      simp only
      by_cases c : i = a
      · subst c; rw [List.getElem?_set_self (by rw [List.length_set]; exact la), List.getElem?_eq_getElem la]
      · rw [List.getElem?_set_ne (Ne.symm c), List.getElem?_set_ne (Ne.symm c)]
    · by_cases c : i = a
      · subst c; rw [swap_a hne la lh, e]
      · by_cases c2 : i = h
        · subst c2; rw [swap_h hne la lh, e]
        · exact swap_i c c2
  · have e1 : l[a]? = none := List.getElem?_eq_none (by omega)
    have : swapL a h l = l := by
      unfold swapL
      rw [e1]
    rw [this]
end
theorem swap_swap {α : Type} {a h : Nat} (hne : a ≠ h) {l : List α} (la : a < l.length) (lh : h < l.length) : swapL a h (swapL a h l) = l := by
  apply List.ext_getElem?
  intro i
  have la' : a < (swapL a h l).length := by rw [swap_len]; exact la
  have lh' : h < (swapL a h l).length := by rw [swap_len]; exact lh
  by_cases c : i = a
  · subst c; rw [swap_a hne la' lh', swap_h hne la lh]
  · by_cases c2 : i = h
    · subst c2; rw [swap_h hne la' lh', swap_a hne la lh]
    · rw [swap_i c c2, swap_i c c2]
section
variable {X : Cx} {pins : List (Addr × Obj)} {σ : L2.St} {H : Hp} {s : Shared} {a h : Nat} {N' : List Str}
theorem inv_swap (eN : N' = swapL a h X.N) (hne : a ≠ h) (la : a < X.N.length) (lh : h < X.N.length) (I : Inv { X with N := N' } pins σ H s) : Inv X pins (swapL a h σ) H s := by
  have ln : N'.length = X.N.length := by rw [eN, swap_len]
  have ls : σ.length = X.N.length := by
    have : σ.length = N'.length := I.len
    rw [this, ln]
  have la' : a < σ.length := by rw [ls]; exact la
  have lh' : h < σ.length := by rw [ls]; exact lh
  refine ⟨⟨I.ok.mod, I.ok.kind, I.ok.glob, I.ok.blt, I.ok.above, I.ok.inj, I.ok.has, I.ok.cab, I.ok.hd, I.ok.frames, I.ok.stk, I.ok.exf, I.ok.bs, I.ok.bsz, I.ok.noex, I.ok.exfs, I.ok.funs, I.ok.frf⟩, I.os, I.bare, I.base, ?_, I.cell, I.free, I.freeC, I.pin, I.hok, by rw [swap_len]; exact ls⟩
  obtain ⟨m, hm, hl⟩ := I.loc
  refine ⟨m, hm, fun i x v hN hσ hv => ?_⟩
  have hl : ∀ (i : Nat) (x : Str) (v : V), N'[i]? = some x → σ[i]? = some (some v) → Vis X.env.scope x → ∃ u, RelV v u ∧ Look X.env s.heap m x u := hl
  by_cases c : i = a
  · subst c
    rw [swap_a hne la' lh'] at hσ
    exact hl h x v (by rw [eN, swap_h hne la lh]; exact hN) hσ hv
  · by_cases c2 : i = h
    · subst c2
      rw [swap_h hne la' lh'] at hσ
      exact hl a x v (by rw [eN, swap_a hne la lh]; exact hN) hσ hv
    · rw [swap_i c c2] at hσ
      exact hl i x v (by rw [eN, swap_i c c2]; exact hN) hσ hv
theorem inv_swap' (eN : N' = swapL a h X.N) (hne : a ≠ h) (la : a < X.N.length) (lh : h < X.N.length) (I : Inv X pins σ H s) : Inv { X with N := N' } pins (swapL a h σ) H s := by
  refine inv_swap (X := { X with N := N' }) (N' := X.N) ?_ hne (by show a < N'.length; rw [eN, swap_len]; exact la) (by show h < N'.length; rw [eN, swap_len]; exact lh) I
  show X.N = swapL a h N'
  rw [eN, swap_swap hne la lh]
/-- a body derived with two names exchanged, where both stand for the same -/
theorem pss_swap {sts : List Stmt} {t : TS} (eN : N' = swapL a h X.N) (hne : a ≠ h) (la : a < X.N.length) (lh : h < X.N.length) (hb : PSs { X with N := N' } sts t) : PSs X sts (fun D σ H => σ[a]? = σ[h]? ∧ t ⟨fun σ' H' => σ'[a]? = σ'[h]? ∧ D.nx σ' H', D.rt, fun σ' H' => σ'[a]? = σ'[h]? ∧ D.bk σ' H', fun σ' H' => σ'[a]? = σ'[h]? ∧ D.ct σ' H'⟩ σ H) :=
  ⟨fun pins s σ H D I ⟨e1, q⟩ => by
    have I1 : Inv { X with N := N' } pins σ H s := by
      have := inv_swap' eN hne la lh I
      rwa [swap_same e1] at this
    refine thn (hb.run pins s σ H _ I1 q) fun f s' r => ?_
    cases f with
    | next =>
      obtain ⟨σ', H', I', ee, q'⟩ := r
      have := inv_swap eN hne la lh I'
      rw [swap_same ee] at this
      exact ⟨σ', H', this, q'⟩
    | brk =>
      obtain ⟨σ', H', I', ee, q'⟩ := r
      have := inv_swap eN hne la lh I'
      rw [swap_same ee] at this
      exact ⟨σ', H', this, q'⟩
    | cont =>
      obtain ⟨σ', H', I', ee, q'⟩ := r
      have := inv_swap eN hne la lh I'
      rw [swap_same ee] at this
      exact ⟨σ', H', this, q'⟩
    | ret u =>
      obtain ⟨v, σ', H', I', r', q'⟩ := r
      exact ⟨v, _, H', inv_swap eN hne la lh I', r', q'⟩⟩
end
/-- what some derivation of a body asks -/
def tBest (X : Cx) (sts : List Stmt) : TS := fun D σ H => ∃ t, PSs X sts t ∧ t D σ H
theorem pss_best {X : Cx} {sts : List Stmt} : PSs X sts (tBest X sts) := ⟨fun pins s σ H D I ⟨t, ht, q⟩ => ht.run pins s σ H D I q⟩

/-! ### slots pinned -/
def pinG (G : GC) (l : List (Nat × V)) : GC := ⟨G.H0, G.W0, G.vs0, G.xw, l⟩
section
variable {K : Frag} {G : GC} {S : MS} {σ : L2.St} {H : Hp} {W : Own} {l : List (Nat × V)} {n : Nat}
theorem Conc.pin (c : Conc K G S σ H W) (h : ∀ q ∈ l, σ[q.1]? = some (some q.2)) : Conc K (pinG G l) S σ H W :=
  ⟨c.len, c.tr, c.mono, fun j v e => by
    unfold GC.fx at e
    cases e1 : G.vs0[j]? with
    | some w =>
      have e : (match G.vs0[j]? with | some v => some v | none => ((l.find? fun q => decide (q.1 = j)).map (·.2))) = some v := e
      rw [e1] at e
      cases e
      exact c.args j _ (fx_of e1)
    | none =>
      have e : (match G.vs0[j]? with | some v => some v | none => ((l.find? fun q => decide (q.1 = j)).map (·.2))) = some v := e
      rw [e1] at e
      have e : ((l.find? fun q => decide (q.1 = j)).map (·.2)) = some v := e
      cases e2 : l.find? fun q => decide (q.1 = j) with
      | none => rw [e2] at e; cases e
      | some q =>
        rw [e2] at e
        cases e
        have h1 := List.mem_of_find?_eq_some e2
        have h2 := List.find?_some e2
        have h2 : q.1 = j := by simpa using h2
        rw [← h2]
        exact h q h1⟩
theorem Conc.unpin (hp : G.pins = []) (c : Conc K (pinG G l) S σ H W) : Conc K G S σ H W :=
  ⟨c.len, c.tr, c.mono, fun j v e => by
    refine c.args j v ?_
    unfold GC.fx at e
    cases e1 : G.vs0[j]? with
    | some w =>
      rw [e1] at e
      cases e
      exact fx_of (G := pinG G l) e1
    | none =>
      rw [e1, hp] at e
      cases e⟩
theorem Conc.pinned (c : Conc K (pinG G l) S σ H W) {j : Nat} {v : V} (hj : G.vs0.length ≤ j) (e : ((l.find? fun q => decide (q.1 = j)).map (·.2)) = some v) : σ[j]? = some (some v) := by
  refine c.args j v ?_
  show (match G.vs0[j]? with | some v => some v | none => ((l.find? fun q => decide (q.1 = j)).map (·.2))) = some v
  rw [List.getElem?_eq_none (by omega)]
  exact e
end
theorem free_pin {G : GC} {i n h a b : Nat} {v0 v1 v2 : V} (hG : G.vs0.length = n ∧ G.pins = []) (hi : n ≤ i) (h0 : h ≠ i) (h1 : a ≠ i) (h2 : b ≠ i) : Free (pinG G [(h, v0), (a, v1), (b, v2)]) i := by
  show (match G.vs0[i]? with | some v => some v | none => (([(h, v0), (a, v1), (b, v2)].find? fun q => decide (q.1 = i)).map (·.2))) = none
  rw [List.getElem?_eq_none (by omega)]
  simp [List.find?_cons, h0, h1, h2]
/-! ### the loop -/
def endAl : RS → RS
  | .nx S => .nx S
  | .ct S => .nx S
  | .bk S => .nx S
  | .rt r S => .rt r S
  | .exc c S => .exc c S
  | .stuck => .stuck
def noneAt (h : Nat) (S : MS) : Bool := match S[h]? with
  | some none => true
  | _ => false
theorem noneAt_iff {h : Nat} {S : MS} : noneAt h S = true ↔ S[h]? = some none := by
  unfold noneAt
  split
  · simp_all
  · simp_all
def stepAl (h : Nat) (k : MS → RS) : RS → RS
  | .nx S => if noneAt h S = true then k S else .stuck
  | .ct S => if noneAt h S = true then k S else .stuck
  | .bk S => .nx S
  | .rt r S => .rt r S
  | .exc c S => .exc c S
  | .stuck => .stuck
def hasT (a : Nat) (S : MS) : Bool := match S[a]? with
  | some (some _) => true
  | _ => false
def mforAl (a b h : Nat) (m1 m2 : MSt) : MSt := fun S => if (hasT a S && hasT b S && noneAt h S) = true then stepAl h (fun S1 => stepAl h (fun S2 => .nx S2) (m2 S1)) (m1 S) else .stuck
section
variable {X : Cx} {G : GC} {n a b h : Nat} {sts : List Stmt} {m : MSt} {K : Frag}
/-- behind one turn: where the loop stands -/
def NxAl (K : Frag) (G : GC) (W : Own) (H : Hp) (D : Ends) (a b h : Nat) (va vb : V) (k : MS → RS) : L2.St → Hp → Prop := fun σ' H' => ∃ S1 W', Mono W H W' H' ∧ Conc K G S1 σ' H' W' ∧ S1[h]? = some none ∧ σ'[a]? = some (some va) ∧ σ'[b]? = some (some vb) ∧ okS K G W' H' D (k S1)
theorem al_body {N' : List Str} {j : Nat} {vj va vb : V} {k : MS → RS} {S : MS} {σ : L2.St} {H H0 : Hp} {W W0 : Own} {D : Ends} (hG : G.vs0.length = n ∧ G.pins = []) (hh : n ≤ h) (ha : n ≤ a) (hb : n ≤ b) (nah : a ≠ h) (nbh : b ≠ h) (nab : a ≠ b) (hj : (j = a ∧ vj = va) ∨ (j = b ∧ vj = vb))
    (eN : N' = swapL j h X.N) (lj : j < X.N.length) (lh : h < X.N.length)
    (hd : STs { X with N := N' } (pinG G [(h, vj), (a, va), (b, vb)]) sts m) (c : Conc X.K G S σ H W) (mo : Mono W0 H0 W H) (sh : σ[h]? = some (some vj)) (sa : σ[a]? = some (some va)) (sb : σ[b]? = some (some vb)) (q : okS X.K G W H D (stepAl h k (m S))) :
    tBest X sts { D with nx := NxAl X.K G W0 H0 D a b h va vb k, ct := NxAl X.K G W0 H0 D a b h va vb k, bk := D.nx } σ H := by
  have njh : j ≠ h := by rcases hj with ⟨e, _⟩ | ⟨e, _⟩ <;> rw [e] <;> assumption
  have sj : σ[j]? = some (some vj) := by rcases hj with ⟨e, e2⟩ | ⟨e, e2⟩ <;> rw [e, e2] <;> assumption
  have fh : ((([(h, vj), (a, va), (b, vb)] : List (Nat × V)).find? fun q => decide (q.1 = h)).map (·.2)) = some vj := by simp
  have fa : ((([(h, vj), (a, va), (b, vb)] : List (Nat × V)).find? fun q => decide (q.1 = a)).map (·.2)) = some va := by
    have : ¬ h = a := fun z => nah z.symm
    simp [List.find?_cons, this]
  have fb : ((([(h, vj), (a, va), (b, vb)] : List (Nat × V)).find? fun q => decide (q.1 = b)).map (·.2)) = some vb := by
    have h1 : ¬ h = b := fun z => nbh z.symm
    simp [List.find?_cons, h1, nab]
  have fj : ((([(h, vj), (a, va), (b, vb)] : List (Nat × V)).find? fun q => decide (q.1 = j)).map (·.2)) = some vj := by
    rcases hj with ⟨e, e2⟩ | ⟨e, e2⟩ <;> rw [e, e2]
    · rw [e2] at fa; exact fa
    · rw [e2] at fb; exact fb
  have hnj : n ≤ j := by rcases hj with ⟨e, _⟩ | ⟨e, _⟩ <;> rw [e] <;> assumption
  have cp := c.pin (l := [(h, vj), (a, va), (b, vb)]) (fun q hq => by
    simp only [List.mem_cons, List.not_mem_nil, or_false] at hq
    rcases hq with e | e | e <;> subst e <;> assumption)
  have eq : ∀ {S' : MS} {σ' : L2.St} {H' : Hp} {W' : Own}, Conc X.K (pinG G [(h, vj), (a, va), (b, vb)]) S' σ' H' W' → σ'[j]? = σ'[h]? := fun c' => by
    rw [c'.pinned (by rw [hG.1]; exact hnj) fj, c'.pinned (by rw [hG.1]; exact hh) fh]
  refine ⟨_, pss_swap eN njh lj lh hd.ps, by rw [sj, sh], S, W, cp, ?_⟩
  have go : ∀ {S1 : MS}, okS X.K G W H D (if noneAt h S1 = true then k S1 else .stuck) → ∀ σ' H' W', Mono W H W' H' → Conc X.K (pinG G [(h, vj), (a, va), (b, vb)]) S1 σ' H' W' → σ'[j]? = σ'[h]? ∧ NxAl X.K G W0 H0 D a b h va vb k σ' H' := fun {S1} q σ' H' W' m' c' => by
    refine ⟨eq c', S1, W', mo.trans m', c'.unpin hG.2, ?_, c'.pinned (by rw [hG.1]; exact ha) fa, c'.pinned (by rw [hG.1]; exact hb) fb, ?_⟩
    · split at q
      · rename_i e
        exact noneAt_iff.mp e
      · exact q.elim
    · split at q
      · exact okS.shift q m'
      · exact q.elim
  cases em : m S with
  | nx S1 => rw [em] at q; exact go q
  | ct S1 => rw [em] at q; exact go q
  | bk S1 =>
    rw [em] at q
    exact fun σ' H' W' m' c' => ⟨eq c', q σ' H' W' m' (c'.unpin hG.2)⟩
  | rt r S1 =>
    rw [em] at q
    exact fun v σ' H' W' m' c' rv => q v σ' H' W' m' (c'.unpin hG.2) rv
  | exc c S1 =>
    rw [em] at q
    exact fun σ' H' W' m' c' => q σ' H' W' m' (c'.unpin hG.2)
  | stuck => rw [em] at q; exact q.elim
end
section
variable {X : Cx} {G : GC} {n a b h : Nat} {sts : List Stmt} {m1 m2 : MSt} {N1 N2 : List Str} {tg ea eb : Expr} {pos tp : Pos} {kk : Nat}
theorem st_forAl (hG : G.vs0.length = n ∧ G.pins = []) (hh : n ≤ h) (ha : n ≤ a) (hb : n ≤ b) (nah : a ≠ h) (nbh : b ≠ h) (nab : a ≠ b) (e1 : N1 = swapL a h X.N) (e2 : N2 = swapL b h X.N) (la : a < X.N.length) (lb : b < X.N.length) (lh : h < X.N.length)
    (hp : PassesOwn (model X.prog X.w) X.A X.env X.xe) (pa : PE X ea (tVar a)) (pb : PE X eb (tVar b)) (pg : PG X tg (gName h))
    (d1 : ∀ v0 v1 v2, STs { X with N := N1 } (pinG G [(h, v0), (a, v1), (b, v2)]) sts m1) (d2 : ∀ v0 v1 v2, STs { X with N := N2 } (pinG G [(h, v0), (a, v1), (b, v2)]) sts m2)
    (hc : X.calm = true := by rfl) (hs : ∀ x, foldedSetIterable (.Tuple [ea, eb] kk tp) X.env x = pure x := by intro _; rfl)
    (s1 : starEach [ea, eb] X.env = (false, eval ea X.env) :: starEach [eb] X.env := by rfl) (s2 : starEach [eb] X.env = (false, eval eb X.env) :: starEach [] X.env := by rfl) :
    ST X G (.For tg (.Tuple [ea, eb] kk tp) sts [] pos) (mforAl a b h m1 m2) :=
  ⟨(ps_for hp hc (pi_tup (pe_tup (pa_cons pa (pa_cons pb pa_nil s2) s1))) pg pss_best hs).imp fun D σ H ⟨S, W, cc, q⟩ => by
    unfold mforAl at q
    split at q
    · rename_i hab
      rw [Bool.and_eq_true, Bool.and_eq_true] at hab
      have tg' : ∀ {i : Nat}, hasT i S = true → ∃ t, S[i]? = some (some t) := fun {i} hi => by
        unfold hasT at hi
        split at hi
        · exact ⟨_, by assumption⟩
        · cases hi
      obtain ⟨ta, hta⟩ := tg' hab.1.1
      obtain ⟨tb, htb⟩ := tg' hab.1.2
      obtain ⟨va, sa, _⟩ := cc.tr a ta hta
      obtain ⟨vb, sb, _⟩ := cc.tr b tb htb
      have sh : S[h]? = some none := noneAt_iff.mp hab.2
      refine ⟨va, sa, vb, sb, by show 2 ≤ sizeLine; decide, fun p np => ⟨p, rfl, ⟨[va, vb], .inl (.inl upd_same)⟩, ?_⟩⟩
      have ex : Ext W H (setW W p .frz) (upd H p (.tup [va, vb])) := ext_new (K := X.K) np
      have sq : ∀ {W2 : Own} {H2 : Hp}, Mono (setW W p .frz) (upd H p (.tup [va, vb])) W2 H2 → SqT X.K H2 p [va, vb] := fun mo => .inl (.inl (mo _ _ upd_same (.inl setW_same)).2)
      have slh : ∀ {S : MS} {σ' : L2.St} {H' : Hp} {W' : Own} {v : V}, Conc X.K G S σ' H' W' → S[h]? = some none → Conc X.K G S (σ'.set h (some v)) H' W' := fun {S σ' H' W' v} c hS => by
        refine ⟨by rw [List.length_set]; exact c.len, fun j t hj => ?_, c.mono, fun j w hj => ?_⟩
        · have : j ≠ h := fun z => by rw [z, hS] at hj; cases hj
          rw [List.getElem?_set_ne (Ne.symm this)]
          exact c.tr j t hj
        · have : j ≠ h := fun z => by
            have := free_of hG hh
            rw [z] at hj
            have this : G.fx h = none := this
            rw [this] at hj; cases hj
          rw [List.getElem?_set_ne (Ne.symm this)]
          exact c.args j w hj
      have lσ : ∀ {S : MS} {σ' : L2.St} {H' : Hp} {W' : Own}, Conc X.K G S σ' H' W' → S[h]? = some none → h < σ'.length := fun c hS => by
        have := (List.getElem?_eq_some_iff.mp hS).1
        rw [c.len] at this; exact this
      refine ⟨fun i nn σ' H' => nn = 2 - i ∧ i ≤ 2 ∧ ((i = 0 ∧ NxAl X.K G (setW W p .frz) (upd H p (.tup [va, vb])) D a b h va vb (fun S => stepAl h (fun S1 => stepAl h (fun S2 => .nx S2) (m2 S1)) (m1 S)) σ' H') ∨ (i = 1 ∧ NxAl X.K G (setW W p .frz) (upd H p (.tup [va, vb])) D a b h va vb (fun S1 => stepAl h (fun S2 => .nx S2) (m2 S1)) σ' H') ∨ (i = 2 ∧ NxAl X.K G (setW W p .frz) (upd H p (.tup [va, vb])) D a b h va vb (fun S2 => .nx S2) σ' H')), ⟨2, rfl, by omega, .inl ⟨rfl, S, _, Mono.refl, cc.ext ex, sh, sa, sb, okS.shift q ex.mono⟩⟩, ?_⟩
      rintro i nn σ2 H2 ⟨rfl, hi, hw⟩
      rcases hw with ⟨rfl, S2, W2, mo, c2, h2, a2, b2, q2⟩ | ⟨rfl, S2, W2, mo, c2, h2, a2, b2, q2⟩ | ⟨rfl, S2, W2, mo, c2, h2, a2, b2, q2⟩
      · refine .inr ⟨⟨[va, vb], va, sq mo, rfl⟩, NxAl X.K G (setW W p .frz) (upd H p (.tup [va, vb])) D a b h va vb (fun S1 => stepAl h (fun S2 => .nx S2) (m2 S1)), fun σ' H' hn => ⟨1, by decide, rfl, by omega, .inr (.inl ⟨rfl, hn⟩)⟩, fun x H' hy => ?_⟩
        obtain ⟨eH, hx⟩ := hy
        have hx1 := hx _ (sq mo)
        have hx2 : x = va := (Option.some.inj hx1).symm
        subst eH
        rw [hx2]
        exact al_body hG hh ha hb nah nbh nab (.inl ⟨rfl, rfl⟩) e1 la lh (d1 _ _ _) (slh c2 h2) mo (List.getElem?_set_self (lσ c2 h2)) (by rw [List.getElem?_set_ne (Ne.symm nah)]; exact a2) (by rw [List.getElem?_set_ne (Ne.symm nbh)]; exact b2) q2
      · refine .inr ⟨⟨[va, vb], vb, sq mo, rfl⟩, NxAl X.K G (setW W p .frz) (upd H p (.tup [va, vb])) D a b h va vb (fun S2 => .nx S2), fun σ' H' hn => ⟨0, by decide, rfl, by omega, .inr (.inr ⟨rfl, hn⟩)⟩, fun x H' hy => ?_⟩
        obtain ⟨eH, hx⟩ := hy
        have hx1 := hx _ (sq mo)
        have hx2 : x = vb := (Option.some.inj hx1).symm
        subst eH
        rw [hx2]
        exact al_body hG hh ha hb nah nbh nab (.inr ⟨rfl, rfl⟩) e2 lb lh (d2 _ _ _) (slh c2 h2) mo (List.getElem?_set_self (lσ c2 h2)) (by rw [List.getElem?_set_ne (Ne.symm nah)]; exact a2) (by rw [List.getElem?_set_ne (Ne.symm nbh)]; exact b2) q2
      · exact .inl ⟨⟨[va, vb], sq mo, Nat.le_refl _⟩, q2 σ2 H2 W2 Mono.refl c2⟩
    · exact q.elim⟩
theorem slot_h {S : MS} {σ' : L2.St} {H' : Hp} {W' : Own} {v : V} {K : Frag} (hG : G.vs0.length = n ∧ G.pins = []) (hh : n ≤ h) (c : Conc K G S σ' H' W') (hS : S[h]? = some none) : Conc K G S (σ'.set h (some v)) H' W' := by
  refine ⟨by rw [List.length_set]; exact c.len, fun j t hj => ?_, c.mono, fun j w hj => ?_⟩
  · have : j ≠ h := fun z => by rw [z, hS] at hj; cases hj
    rw [List.getElem?_set_ne (Ne.symm this)]
    exact c.tr j t hj
  · have : j ≠ h := fun z => by
      have := free_of hG hh
      rw [z] at hj
      have this : G.fx h = none := this
      rw [this] at hj; cases hj
    rw [List.getElem?_set_ne (Ne.symm this)]
    exact c.args j w hj
def mforAlE (a b h ik : Nat) (m1 m2 : MSt) : MSt := fun S => if (hasT a S && hasT b S && noneAt h S) = true then stepAl h (fun S1 => stepAl h (fun S2 => .nx S2) (m2 (S1.set ik (some (.d (.int 1)))))) (m1 (S.set ik (some (.d (.int 0))))) else .stuck
theorem st_forAlE {ik : Nat} {ei eh : Expr} {p2 tps : Pos} {k2 : Nat} (hG : G.vs0.length = n ∧ G.pins = []) (hh : n ≤ h) (ha : n ≤ a) (hb : n ≤ b) (hk : n ≤ ik) (nah : a ≠ h) (nbh : b ≠ h) (nab : a ≠ b) (nka : ik ≠ a) (nkb : ik ≠ b) (nkh : ik ≠ h) (e1 : N1 = swapL a h X.N) (e2 : N2 = swapL b h X.N) (la : a < X.N.length) (lb : b < X.N.length) (lh : h < X.N.length)
    (hp : PassesOwn (model X.prog X.w) X.A X.env X.xe) (hm : X.mg "enumerate" = none) (pa : PE X ea (tVar a)) (pb : PE X eb (tVar b)) (pi : PG X ei (gName ik)) (pg : PG X eh (gName h))
    (d1 : ∀ v0 v1 v2, STs { X with N := N1 } (pinG G [(h, v0), (a, v1), (b, v2)]) sts m1) (d2 : ∀ v0 v1 v2, STs { X with N := N2 } (pinG G [(h, v0), (a, v1), (b, v2)]) sts m2)
    (hc : X.calm = true := by rfl) (hg : Gl X "enumerate" := by rfl) (hs : ∀ x, foldedSetIterable (.Call (.Name "enumerate" p2) [.Tuple [ea, eb] kk tp] [] pos) X.env x = pure x := by intro _; rfl)
    (s0 : starEach [.Tuple [ea, eb] kk tp] X.env = [(false, eval (.Tuple [ea, eb] kk tp) X.env)] := by rfl)
    (s1 : starEach [ea, eb] X.env = (false, eval ea X.env) :: starEach [eb] X.env := by rfl) (s2 : starEach [eb] X.env = (false, eval eb X.env) :: starEach [] X.env := by rfl)
    (g1 : (assignEach [ei, eh] X.env).map (·.2) = assign ei X.env :: (assignEach [eh] X.env).map (·.2) := by rfl) (g2 : (assignEach [eh] X.env).map (·.2) = assign eh X.env :: (assignEach [] X.env).map (·.2) := by rfl)
    (g3 : (assignEach [ei, eh] X.env).length = 2 := by rfl) (g4 : (assignEach [ei, eh] X.env).findIdx? (·.1) = none := by rfl) {pos2 : Pos} :
    ST X G (.For (.Tuple [ei, eh] k2 tps) (.Call (.Name "enumerate" p2) [.Tuple [ea, eb] kk tp] [] pos) sts [] pos2) (mforAlE a b h ik m1 m2) :=
  ⟨(ps_for hp hc (pi_enumT hg hm (pa_cons (pe_tup (pa_cons pa (pa_cons pb pa_nil s2) s1)) pa_nil s0) s0) (pg_tup hc (pgs_cons pi (pgs_cons pg pgs_nil g2) g1) g3 g4) pss_best hs).imp fun D σ H ⟨S, W, cc, q⟩ => by
    unfold mforAlE at q
    split at q
    · rename_i hab
      rw [Bool.and_eq_true, Bool.and_eq_true] at hab
      have tg' : ∀ {i : Nat}, hasT i S = true → ∃ t, S[i]? = some (some t) := fun {i} hi => by
        unfold hasT at hi
        split at hi
        · exact ⟨_, by assumption⟩
        · cases hi
      obtain ⟨ta, hta⟩ := tg' hab.1.1
      obtain ⟨tb, htb⟩ := tg' hab.1.2
      obtain ⟨va, sa, _⟩ := cc.tr a ta hta
      obtain ⟨vb, sb, _⟩ := cc.tr b tb htb
      have sh : S[h]? = some none := noneAt_iff.mp hab.2
      refine ⟨va, sa, vb, sb, by show 2 ≤ sizeLine; decide, fun p np => ⟨p, [va, vb], rfl, .inl (.inl upd_same), ?_⟩⟩
      have ex : Ext W H (setW W p .frz) (upd H p (.tup [va, vb])) := ext_new (K := X.K) np
      have sq : ∀ {W2 : Own} {H2 : Hp}, Mono (setW W p .frz) (upd H p (.tup [va, vb])) W2 H2 → SqT X.K H2 p [va, vb] := fun mo => .inl (.inl (mo _ _ upd_same (.inl setW_same)).2)
      have lσ : ∀ {S : MS} {σ' : L2.St} {H' : Hp} {W' : Own}, Conc X.K G S σ' H' W' → S[h]? = some none → h < σ'.length := fun c hS => by
        have := (List.getElem?_eq_some_iff.mp hS).1
        rw [c.len] at this; exact this
      -- one turn: the pair is taken apart
      have turn : ∀ {S2 : MS} {σ2 : L2.St} {H2 H' : Hp} {W2 : Own} {x : V} {i : Nat} {vi : V} {Q : L2.St → Hp → Prop}, Conc X.K G S2 σ2 H2 W2 → S2[h]? = some none → Mono (setW W p .frz) (upd H p (.tup [va, vb])) W2 H2 → σ2[a]? = some (some va) → σ2[b]? = some (some vb) → [va, vb][i]? = some vi → (Itet X.K p).yld i H2 x H' →
          (∀ σ' W', Mono W2 H2 W' H' → Conc X.K G (S2.set ik (some (.d (.int (i : Int))))) σ' H' W' → σ'[h]? = some (some vi) → σ'[a]? = some (some va) → σ'[b]? = some (some vb) → Q σ' H') → gTup X.K 2 (gCons (gName ik) (gCons (gName h) gNil)) x σ2 H' Q := fun {S2 σ2 H2 H' W2 x i vi Q} c2 h2 mo a2 b2 hi hy hQ => by
        obtain ⟨T, x', ex', nT, eH, hx⟩ := hy
        have hx1 := hx _ (sq mo)
        rw [hi] at hx1
        have hx2 : vi = x' := Option.some.inj hx1
        subst eH ex' hx2
        have exT : Ext W2 H2 (setW W2 T .frz) (upd H2 T (.tup [.int (i : Nat), vi])) := ext_new (K := X.K) nT
        have c3 := (c2.ext exT).set (i := ik) (v := .int (i : Nat)) (t := .d (.int (i : Int))) (free_of hG hk) Ext.refl (.d .int)
        have h3 : (S2.set ik (some (.d (.int (i : Int)))))[h]? = some none := by rw [List.getElem?_set_ne nkh]; exact h2
        refine ⟨T, [.int (i : Nat), vi], rfl, .inl (.inl upd_same), rfl, .int (i : Nat), [vi], rfl, vi, [], rfl, rfl, ?_⟩
        refine hQ _ _ exT.mono (slot_h hG hh c3 h3) (List.getElem?_set_self (lσ c3 h3)) ?_ ?_
        · rw [List.getElem?_set_ne (Ne.symm nah), List.getElem?_set_ne nka]; exact a2
        · rw [List.getElem?_set_ne (Ne.symm nbh), List.getElem?_set_ne nkb]; exact b2
      refine ⟨fun i nn σ' H' => nn = 2 - i ∧ i ≤ 2 ∧ ((i = 0 ∧ NxAl X.K G (setW W p .frz) (upd H p (.tup [va, vb])) D a b h va vb (fun S => stepAl h (fun S1 => stepAl h (fun S2 => .nx S2) (m2 (S1.set ik (some (.d (.int 1)))))) (m1 (S.set ik (some (.d (.int 0)))))) σ' H') ∨ (i = 1 ∧ NxAl X.K G (setW W p .frz) (upd H p (.tup [va, vb])) D a b h va vb (fun S1 => stepAl h (fun S2 => .nx S2) (m2 (S1.set ik (some (.d (.int 1)))))) σ' H') ∨ (i = 2 ∧ NxAl X.K G (setW W p .frz) (upd H p (.tup [va, vb])) D a b h va vb (fun S2 => .nx S2) σ' H')), ⟨2, rfl, by omega, .inl ⟨rfl, S, _, Mono.refl, cc.ext ex, sh, sa, sb, okS.shift q ex.mono⟩⟩, ?_⟩
      rintro i nn σ2 H2 ⟨rfl, hi, hw⟩
      rcases hw with ⟨rfl, S2, W2, mo, c2, h2, a2, b2, q2⟩ | ⟨rfl, S2, W2, mo, c2, h2, a2, b2, q2⟩ | ⟨rfl, S2, W2, mo, c2, h2, a2, b2, q2⟩
      · refine .inr ⟨⟨[va, vb], va, sq mo, rfl⟩, NxAl X.K G (setW W p .frz) (upd H p (.tup [va, vb])) D a b h va vb (fun S1 => stepAl h (fun S2 => .nx S2) (m2 (S1.set ik (some (.d (.int 1)))))), fun σ' H' hn => ⟨1, by decide, rfl, by omega, .inr (.inl ⟨rfl, hn⟩)⟩, fun x H' hy => ?_⟩
        exact turn c2 h2 mo a2 b2 rfl hy fun σ' W' mo' c' h' a' b' => al_body hG hh ha hb nah nbh nab (.inl ⟨rfl, rfl⟩) e1 la lh (d1 _ _ _) c' (mo.trans mo') h' a' b' (okS.shift q2 mo')
      · refine .inr ⟨⟨[va, vb], vb, sq mo, rfl⟩, NxAl X.K G (setW W p .frz) (upd H p (.tup [va, vb])) D a b h va vb (fun S2 => .nx S2), fun σ' H' hn => ⟨0, by decide, rfl, by omega, .inr (.inr ⟨rfl, hn⟩)⟩, fun x H' hy => ?_⟩
        exact turn c2 h2 mo a2 b2 rfl hy fun σ' W' mo' c' h' a' b' => al_body hG hh ha hb nah nbh nab (.inr ⟨rfl, rfl⟩) e2 lb lh (d2 _ _ _) c' (mo.trans mo') h' a' b' (okS.shift q2 mo')
      · exact .inl ⟨⟨[va, vb], sq mo, Nat.le_refl _⟩, q2 σ2 H2 W2 Mono.refl c2⟩
    · exact q.elim⟩
end
@[simp] theorem mforAl_ap (a b h : Nat) (m1 m2 : MSt) (s : Option MV) (S : MS) : mforAl a b h m1 m2 (s :: S) = if (hasT a (s :: S) && hasT b (s :: S) && noneAt h (s :: S)) = true then stepAl h (fun S1 => stepAl h (fun S2 => .nx S2) (m2 S1)) (m1 (s :: S)) else .stuck := Eq.trans rfl rfl
@[simp] theorem mforAlE_ap (a b h ik : Nat) (m1 m2 : MSt) (s : Option MV) (S : MS) : mforAlE a b h ik m1 m2 (s :: S) = if (hasT a (s :: S) && hasT b (s :: S) && noneAt h (s :: S)) = true then stepAl h (fun S1 => stepAl h (fun S2 => .nx S2) (m2 (S1.set ik (some (.d (.int 1)))))) (m1 ((s :: S).set ik (some (.d (.int 0))))) else .stuck := Eq.trans rfl rfl
end M

set_option maxHeartbeats 2000000
/-! M42: sorted(d.items()), d a dict of ints by ints. Own work, after the hand layer's sorted(d.items()) of dicts by tuples. -/
namespace L2
open PySem PySem.Spec PyProof.Rows
def tItems (to : TE) : TE := fun σ H Q => to σ H fun x H1 => ∃ (a : Addr) (kvs : List (Key × V)), x = .ref a ∧ H1 a = some (.dK kvs) ∧ ∀ p, H1 p = none → Q (.ref p) (upd H1 p (DX.itemsO p a))
section
variable {X : Cx} {o : Expr} {to : TE} {apos cpos : Pos}
theorem pe_items (ho : PE X o to) (hbase : attributeBase o "items" X.env (eval o X.env) = eval o X.env := by rfl) (hline : (apos.endLine == cpos.line) = true := by rfl) : PE X (.Call (.Attribute o "items" apos) [] [] cpos) (tItems to) := by
  refine ⟨fun pins s σ H Q I h => ?_⟩
  refine wpAny_Call_method (T := "dict") (id := "dict.items") hbase rfl hline F.plainAttrs_dict F.slot_dict_items F.type_dict_items (thn (ho.run pins s σ H _ I h) fun u s1 ⟨x, H1, I1, rx, d, kvs, ex, hd, q⟩ => ?_)
  subst ex
  obtain rfl : u = Value.ref d := rx
  obtain ⟨hz, hs0, vs, kv, hdo⟩ := I1.hok d _ hd
  refine ⟨hdo.typeIs, hdo.mapOf.noDict, ?_⟩
  show wpAny _ _ (callWith cpos (.builtin "dict.items") [.ref d] [] []) _ X.xe s1
  refine method_meetsIn F.slot_dict_items F.entry_dict_items rfl (PySem.evalArgs_none ⟨rfl, hdo.typeIs, F.args_dict_items_1 _, _, meets_dict_items (mixKind X.prog X.w) d hs0, ⟨vs, hdo⟩, ?_⟩)
  have hf : H1 s1.heap.objs.size = none := I1.hok.fresh (Nat.le_refl _)
  exact ⟨.ref s1.heap.objs.size, upd H1 s1.heap.objs.size (DX.itemsO s1.heap.objs.size d), I1.laid (t' := s1.toks) (fun b u e => Heap.get?_push_of_some _ e) (Nat.le_refl _) (DX.itemsO_ok (Heap.get?_push_size _ rfl)), rfl, q _ hf⟩
end
theorem pairs_get {K : Type} {prog : Program} {w : World} [DecidableEq K] {knd : KeyKind prog w K} : ∀ {es : List DictEntry} {kvs : List (K × Value)}, Pairs knd es kvs → ∀ {j : Nat} {e : DictEntry}, es[j]? = some e → ∃ kv, kvs[j]? = some kv ∧ knd.is kv.1 e.key = true ∧ e.val = kv.2
  | _, _, .nil, j, e, h => by simp at h
  | _, _, .cons (kv := kv) a b c, 0, e, h => by
    simp only [List.getElem?_cons_zero] at h
    cases h
    exact ⟨kv, rfl, a, b⟩
  | _, _, .cons a b c, j + 1, e, h => by
    simp only [List.getElem?_cons_succ] at h
    obtain ⟨kv, h1, h2⟩ := pairs_get c h
    exact ⟨kv, by rw [List.getElem?_cons_succ]; exact h1, h2⟩
theorem pairs_len {K : Type} {prog : Program} {w : World} [DecidableEq K] {knd : KeyKind prog w K} : ∀ {es : List DictEntry} {kvs : List (K × Value)}, Pairs knd es kvs → es.length = kvs.length
  | _, _, .nil => rfl
  | _, _, .cons a b c => congrArg (· + 1) (pairs_len c)
abbrev entI (e : Int × Int) : Key × V := (Sum.inl e.1, V.int e.2)
def lexP (e f : Int × Int) : Bool := M.lexL [e.1, e.2] [f.1, f.2]
def rSortIK : List V → Hp → VK → Prop := fun vs H Q => ∃ (p a : Addr) (ks : List (Int × Int)), vs = [.ref p] ∧ H p = some (DX.itemsO p a) ∧ H a = some (.dK (ks.map entI)) ∧
  ∀ (H' : Hp) (l : Addr) (ps : List (Addr × Int × Int)), (∀ b o, H b = some o → H' b = some o) → (ps.map (·.2)).Perm ks → ((ps.map (·.2)).Pairwise fun e f => lexP f e = false) → H l = none → (∀ z ∈ ps, H z.1 = none) → (∀ z ∈ ps, z.1 ≠ l) → H' l = some (.lst (ps.map fun z => V.ref z.1)) → (∀ z ∈ ps, H' z.1 = some (.tup [.int z.2.1, .int z.2.2])) → Q (.ref l) H'
theorem cr_sortIK {X : Cx} (hc : X.calm = true) : CallR X (.builtin "sorted") rSortIK := by
  intro pins s σ H xs us Q I r h
  obtain ⟨p, a, ks, rfl, hp, ha, q⟩ := h
  obtain rfl := Vals.ref1 r
  have view : s.heap.IsItemsView p a := (show ObjOk X.prog X.w H s.heap p (DX.itemsO p a) from I.hok p _ hp).1
  obtain ⟨hz, hs0, vs, kv, hdo⟩ := I.hok a _ ha
  obtain ⟨ep, o, es, hg, hx, hdat, hkeys, hpr, hnd⟩ := hdo.dictAt
  have l1 : (ks.map entI).length = vs.length := Paired.length kv
  rw [List.length_map] at l1 hz
  have l2 : es.size = vs.length := by rw [← Array.length_toList, pairs_len hpr]
  have hh : X.A.handled = none := I.ok.hd hc
  refine DT.sortedI (es := es) (ep := ep) hh view ⟨o, hg, hx, hdat⟩ (by omega) fun h' tk as hk hlt hl hG => ?_
  have lak : as.length = ks.length := by omega
  have nd : as.Nodup := List.Pairwise.imp (fun h => Nat.ne_of_lt h) hG.rise
  have pr : ∀ (j : Nat) (b : Addr), as[j]? = some b → ∃ (e : Int × Int) (t u : Tok), ks[j]? = some e ∧ h'.get? b = some { cls := .type "tuple", data := .seq #[Value.int e.1 t, Value.int e.2 u] } := by
    intro j b hj
    obtain ⟨en, he, hg2⟩ := hG.pairs j b hj
    rw [← Array.getElem?_toList] at he
    obtain ⟨qv, f1, f2, f3⟩ := pairs_get hpr he
    obtain ⟨e0, g1, g2, g3⟩ := DX.pget kv f1
    rw [List.getElem?_map] at g1
    cases hkj : ks[j]? with
    | none => rw [hkj] at g1; exact nomatch (show (none : Option (Key × V)) = some e0 from g1)
    | some e =>
      rw [hkj] at g1
      have ee : entI e = e0 := Option.some.inj g1
      subst ee
      have f2 : keyIs qv.1 en.key = true := f2
      rw [← g2] at f2
      have f2 : keyIs (Sum.inl e.1) en.key = true := f2
      rcases keyIs_shape f2 with ⟨i, t, z1, z2⟩ | ⟨x, t, z1, z2⟩
      · cases z1
        obtain ⟨u, z3⟩ := (show RelV (.int e.2) qv.2 from g3)
        refine ⟨e, t, u, rfl, ?_⟩
        rw [hg2, z2, f3, z3]
      · cases z1
  have hob : (h'.push { cls := .type "list", data := .seq (as.map Value.ref).toArray }).get? h'.objs.size = some (seqObj "list" (as.map Value.ref).toArray 0) := Heap.get?_push_size _ rfl
  have kb : ∀ b o, s.heap.get? b = some o → (h'.push { cls := .type "list", data := .seq (as.map Value.ref).toArray }).get? b = some o := fun b o e => Heap.get?_push_of_some _ (hk b o e)
  have ne0 : ∀ b o, h'.get? b = some o → b ≠ h'.objs.size := fun b o e => Nat.ne_of_lt (Heap.lt_size e)
  generalize hh2 : h'.push { cls := .type "list", data := .seq (as.map Value.ref).toArray } = h2 at hob kb ⊢
  have ka : ∀ b o, h'.get? b = some o → h2.get? b = some o := fun b o e => by rw [← hh2]; exact Heap.get?_push_of_some _ e
  -- what each pair tells
  obtain ⟨f, hf⟩ : ∃ f : Value → Int × Int, ∀ (j : Nat) (b : Addr) (e : Int × Int), as[j]? = some b → ks[j]? = some e → f (.ref b) = e := by
    refine ⟨fun v => match (as.zip ks).find? fun z => decide (Value.ref z.1 = v) with | some z => z.2 | none => (0, 0), fun j b e hj he => ?_⟩
    show (match (as.zip ks).find? fun z => decide (Value.ref z.1 = Value.ref b) with | some z => z.2 | none => (0, 0)) = e
    cases ef : (as.zip ks).find? fun z => decide (Value.ref z.1 = Value.ref b) with
    | none =>
      have := List.find?_eq_none.mp ef (b, e) (List.mem_of_getElem? (List.getElem?_zip_eq_some.mpr ⟨hj, he⟩))
      simp at this
    | some z =>
      have h1 := List.mem_of_find?_eq_some ef
      have h2 := List.find?_some ef
      simp only [decide_eq_true_eq, Value.ref.injEq] at h2
      obtain ⟨i, hi⟩ := List.mem_iff_getElem?.mp h1
      obtain ⟨i1, i2⟩ := List.getElem?_zip_eq_some.mp hi
      rw [h2] at i1
      have eij : i = j := (List.getElem?_inj (List.getElem?_eq_some_iff.mp i1).1 nd).mp (i1.trans hj.symm)
      subst eij
      exact Option.some.inj (i2.symm.trans he)
  have at_ : ∀ v ∈ as.map Value.ref, ∃ (j : Nat) (b : Addr) (e : Int × Int), v = .ref b ∧ as[j]? = some b ∧ ks[j]? = some e := by
    intro v hv'
    obtain ⟨b, hb, rfl⟩ := List.mem_map.mp hv'
    obtain ⟨j, hj⟩ := List.mem_iff_getElem?.mp hb
    obtain ⟨e, _, _, he, _⟩ := pr j b hj
    exact ⟨j, b, e, rfl, hj, he⟩
  have hT : M.TupsV h2 2 (as.map Value.ref) (fun v => [(f v).1, (f v).2]) (fun _ => []) := by
    refine ⟨fun v hv => ?_, fun _ _ => rfl, fun _ _ _ _ _ => rfl⟩
    obtain ⟨j, b, e, rfl, hj, he⟩ := at_ v hv
    obtain ⟨e2, t, u, he2, hg2⟩ := pr j b hj
    have ee : e2 = e := Option.some.inj (he2.symm.trans he)
    rw [ee] at hg2
    rw [hf j b e hj he]
    exact ⟨b, _, #[Value.int e.1 t, Value.int e.2 u], [Value.int e.1 t, Value.int e.2 u], 0, rfl, ka _ _ hg2, rfl, rfl, by simp, .cons _ _ (.cons _ _ .nil)⟩
  refine wpAny_call_entry PyProof.Rows.slot_list_sort ⟨_, hob, rfl⟩ PyProof.Rows.entry_list_sort
    (SrtO.list_sort_ord (s := { s with heap := h2, toks := tk }) (M.lexL_swo fun v => [(f v).1, (f v).2]) hob (by rw [List.length_map]; omega) (fun hlen => ?_) fun out hs hb => ⟨.none, rfl, ?_⟩) (PyProof.Rows.args_list_sort _)
  · refine M.tups_sortable (s := { s with heap := h2, toks := tk }) (by decide : 1 ≤ 2) (by omega) hT fun o' e => ?_
    have e' : some o' = some (seqObj "list" (as.map Value.ref).toArray 0) := e.symm.trans hob
    cases e'
    intro c
    exact absurd (Value.type.inj c) (by decide)
  · show EP X pins σ Q (.ref h'.objs.size) { s with heap := sortedHeap h2 h'.objs.size (as.map Value.ref) out.toArray, toks := tk }
    have zself : ∀ (as : List Addr) (ks : List (Int × Int)), as.length = ks.length → (as.zip ks).map (fun z => Value.ref z.1) = as.map Value.ref := fun as => by
      induction as with
      | nil => intro _ _; rfl
      | cons a as ih =>
        intro ks h
        cases ks with
        | nil => cases h
        | cons k ks => exact congrArg (Value.ref a :: ·) (ih ks (Nat.succ.inj h))
    obtain ⟨zs, pz, ez⟩ := perm_lift (fun z : Addr × Int × Int => Value.ref z.1) hb.perm (as.zip ks) (zself as ks lak)
    have idx : ∀ z ∈ zs, ∃ j : Nat, as[j]? = some z.1 ∧ ks[j]? = some z.2 := by
      intro z' hz'
      obtain ⟨j, hj⟩ := List.mem_iff_getElem?.mp (pz.mem_iff.mp hz')
      exact ⟨j, List.getElem?_zip_eq_some.mp hj⟩
    have hperm : (zs.map (·.2)).Perm ks := by
      have e := pz.map (·.2)
      have m2 : (as.zip ks).map (·.2) = ks := List.map_snd_zip (by rw [lak]; exact Nat.le_refl _)
      rw [m2] at e
      exact e
    have hsort : (zs.map (·.2)).Pairwise (fun e f => lexP f e = false) := by
      have hs : out.Pairwise fun x y => M.lexL [(f y).1, (f y).2] [(f x).1, (f x).2] = false := hs
      rw [← ez, List.pairwise_map] at hs
      rw [List.pairwise_map]
      refine List.Pairwise.imp_of_mem (fun {x y} hx hy h => ?_) hs
      obtain ⟨j, j1, j2⟩ := idx x hx
      obtain ⟨i, i1, i2⟩ := idx y hy
      rw [hf j _ _ j1 j2, hf i _ _ i1 i2] at h
      exact h
    have kF : ∀ b o, b ≠ h'.objs.size → h2.get? b = some o → (sortedHeap h2 h'.objs.size (as.map Value.ref) out.toArray).get? b = some o := fun b o hb e => (PyProof.Rows.sortedHeap_old hb (Heap.lt_size e)).trans e
    have kS : ∀ b o, s.heap.get? b = some o → (sortedHeap h2 h'.objs.size (as.map Value.ref) out.toArray).get? b = some o := fun b o e => kF b o (ne0 _ _ (hk b o e)) (kb b o e)
    obtain ⟨eF, heF⟩ := PyProof.Rows.sortedHeap_at (vs := as.map Value.ref) (out := out.toArray) hob
    have I1 : Inv X pins σ H { s with heap := sortedHeap h2 h'.objs.size (as.map Value.ref) out.toArray, toks := tk } := I.kept (t' := tk) kS
    have hn0 : H h'.objs.size = none := I.hok.fresh (Nat.le_of_lt hlt)
    have hlen : (zs.map fun z => V.ref z.1).length ≤ sizeLine := by
      have e := hperm.length_eq
      rw [List.length_map] at e
      rw [List.length_map]
      omega
    have rv : Vals (zs.map fun z => V.ref z.1) out := by
      rw [← ez]
      exact vals_maps (fun z : Addr × Int × Int => V.ref z.1) (fun z => Value.ref z.1) zs fun _ _ => rfl
    have I2 : Inv X pins σ (upd H h'.objs.size (.lst (zs.map fun z => V.ref z.1))) { s with heap := sortedHeap h2 h'.objs.size (as.map Value.ref) out.toArray, toks := tk } :=
      I1.take (h' := sortedHeap h2 h'.objs.size (as.map Value.ref) out.toArray) (t' := tk) (fun b ob _ e => e) (I.fpOk (Nat.le_of_lt hlt) hn0) ⟨hlen, out, eF, rv, heF⟩
    obtain ⟨H2, I3, g, qt⟩ := DX.takeT (P := fun b vs => ∃ (j : Nat) (e : Int × Int), as[j]? = some b ∧ ks[j]? = some e ∧ vs = [.int e.1, .int e.2]) I as _ I2 nd fun b hb => by
      obtain ⟨j, hj⟩ := List.mem_iff_getElem?.mp hb
      obtain ⟨e, t, u, he, hg2⟩ := pr j b hj
      have hbl : s.heap.objs.size ≤ b := Nat.le_of_lt (hG.above b hb)
      refine ⟨hbl, ?_, [.int e.1, .int e.2], ⟨j, e, hj, he, rfl⟩, fun H3 => ⟨(by rw [sizeLine_eq]; show 2 ≤ 16777216; omega), [Value.int e.1 t, Value.int e.2 u], .cons ⟨t, rfl⟩ (.cons ⟨u, rfl⟩ .nil), ⟨_, kF _ _ (ne0 _ _ hg2) (ka _ _ hg2), rfl, 0, rfl⟩⟩⟩
      rw [upd_ne (ne0 _ _ hg2)]
      exact I.hok.fresh hbl
    have gr : ∀ b o, H b = some o → H2 b = some o := fun b o e => g b o (by rw [upd_ne (ne_of_none e hn0)]; exact e)
    refine ⟨.ref h'.objs.size, H2, I3, rfl, q H2 h'.objs.size zs gr hperm hsort hn0 (fun z hz' => ?_) (fun z hz' => ?_) (g _ _ upd_same) fun z' hz' => ?_⟩
    · obtain ⟨i, i1, _⟩ := idx z hz'
      exact I.hok.fresh (Nat.le_of_lt (hG.above _ (List.mem_of_getElem? i1)))
    · obtain ⟨i, i1, _⟩ := idx z hz'
      obtain ⟨_, _, _, _, hg2⟩ := pr i z.1 i1
      exact ne0 _ _ hg2
    · obtain ⟨i, i1, i2⟩ := idx z' hz'
      obtain ⟨vs, ⟨j, e, j1, j2, ev⟩, hH⟩ := qt z'.1 (List.mem_of_getElem? i1)
      have eij : i = j := (List.getElem?_inj (List.getElem?_eq_some_iff.mp i1).1 nd).mp (i1.trans j1.symm)
      subst eij
      have ee : e = z'.2 := Option.some.inj (j2.symm.trans i2)
      rw [ev, ee] at hH
      exact hH
end L2
namespace M
open PySem PySem.Spec PyProof.Rows L2
def rowsK : List (Key × PyData) → Option (List (Int × Int))
  | [] => some []
  | (.inl i, .int j) :: r => match rowsK r with
    | some l => some ((i, j) :: l)
    | none => none
  | _ => none
def tupP (p : Int × Int) : PyData := .tuple [.int p.1, .int p.2]
def msortI (m : ME) : ME := fun S => (m S).bind fun r S1 => match r with
  | .pk _ (.dic kvs) => match rowsK kvs with
    | some ps => .ok (.nw (.lst (sortT 2 (ps.map tupP)))) S1
    | none => .stuck
  | _ => .stuck
section
variable {K : Frag} {W : Own} {H : Hp}
theorem rowsK_ok : ∀ {ks : List (Key × V)} {kvs : List (Key × PyData)} {ps : List (Int × Int)}, RpKV K W H ks kvs → rowsK kvs = some ps → ks = ps.map entI
  | _, [], ps, h, e => by cases h; cases e; rfl
  | _, (k, d) :: kvs, ps, h, e => by
    cases h with
    | cons a b =>
      unfold rowsK at e
      split at e
      · rename_i he; cases he
      · rename_i i j r he
        cases he
        split at e
        · rename_i l el
          cases e
          cases a
          rw [rowsK_ok b el]
          rfl
        · cases e
      · cases e
theorem keyG_tupP (p : Int × Int) : keyG 2 (tupP p) = [p.1, p.2] := rfl
end
section
variable {X : Cx} {G : GC} {o : Expr} {mo : ME} {apos cpos p pos : Pos}
theorem ev_sortI (hm : X.mg "sorted" = none) (ho : EV true X G o mo) (hc : X.calm = true := by rfl) (hg : Gl X "sorted" := by rfl) (hbase : attributeBase o "items" X.env (eval o X.env) = eval o X.env := by rfl) (hline : (apos.endLine == cpos.line) = true := by rfl)
    (hs : starEach [.Call (.Attribute o "items" apos) [] [] cpos] X.env = (false, eval (.Call (.Attribute o "items" apos) [] [] cpos) X.env) :: starEach [] X.env := by rfl) (hpl : (backTo pos (starEach [] X.env)).any (·.1) = false := by rfl) :
    EV true X G (.Call (.Name "sorted" p) [.Call (.Attribute o "items" apos) [] [] cpos] [] pos) (msortI mo) :=
  ⟨(pe_callB (cr_sortIK hc) hg hm (by decide +kernel) (pa_cons (pe_items ho.pe hbase hline) pa_nil hs) (by decide) (by decide) hs hpl).imp fun σ H Q ⟨S, W, cc, q⟩ => ⟨S, W, cc, (okR.one q).imp fun u H1 ⟨ro, S1, W1, st, c1, rv, q1⟩ => by
    split at q1
    · rename_i pth kvs
      obtain ⟨tr, nv⟩ := rv
      cases tr with
      | @dic _ a ks _ w e1 rk =>
        split at q1
        · rename_i ps eps
          have eks := rowsK_ok rk eps
          subst eks
          refine ⟨a, _, rfl, e1, fun v hv => ?_⟩
          refine ⟨v, a, ps, rfl, upd_same, by rw [upd_ne (ne_of_none e1 hv)]; exact e1, fun H' l zs hk hp hs hl hn hne hlst htup => ?_⟩
          have nl : H1 l = none := by
            by_cases c : l = v
            · rw [c]; exact hv
            · rwa [upd_ne c] at hl
          have nz : ∀ z ∈ zs, H1 z.1 = none := fun z hz => by
            have := hn z hz
            by_cases c : z.1 = v
            · rw [c]; exact hv
            · rwa [upd_ne c] at this
          have hk1 : ∀ b o, H1 b = some o → H' b = some o := fun b o e => hk b o (by rw [upd_ne (ne_of_none e hv)]; exact e)
          obtain ⟨W', hW'⟩ : ∃ W' : Own, W' = fun b => if b = l then Mk.own [0] else if b ∈ zs.map (·.1) then Mk.frz else W1 b := ⟨_, rfl⟩
          have wl : W' l = .own [0] := by rw [hW']; exact if_pos rfl
          have wz : ∀ z ∈ zs, W' z.1 = .frz := fun z hz => by
            rw [hW']
            show (if z.1 = l then Mk.own [0] else if z.1 ∈ zs.map (·.1) then Mk.frz else W1 z.1) = _
            rw [if_neg (hne z hz), if_pos (List.mem_map.mpr ⟨z, hz, rfl⟩)]
          have ex : Ext W1 H1 W' H' := fun b o e => ⟨hk1 b o e, fun _ => by
            rw [hW']
            show (if b = l then Mk.own [0] else if b ∈ zs.map (·.1) then Mk.frz else W1 b) = _
            rw [if_neg (fun z => by rw [z, nl] at e; cases e), if_neg (fun z => by
              obtain ⟨y, hy, ey⟩ := List.mem_map.mp z
              rw [← ey, nz y hy] at e; cases e)]⟩
          have hr : RpAll X.K W' H' (zs.map fun z => V.ref z.1) (zs.map fun z => tupP z.2) := by
            have : ∀ M : List (Addr × Int × Int), (∀ z ∈ M, Rp X.K W' H' (.ref z.1) (tupP z.2)) → RpAll X.K W' H' (M.map fun z => V.ref z.1) (M.map fun z => tupP z.2) := fun M => by
              induction M with
              | nil => intro _; exact .nil
              | cons q M ih => intro h; exact .cons (h q List.mem_cons_self) (ih fun x hx => h x (List.mem_cons_of_mem _ hx))
            exact this zs fun z hz => .tup (.inl ⟨wz z hz, .inl (htup z hz)⟩) (.cons .int (.cons .int .nil))
          have he : (zs.map fun z => tupP z.2) = sortT 2 (ps.map tupP) := by
            refine sortT_eq ?_ ?_ fun x hx y hy e => ?_
            · have := hp.map tupP
              rwa [List.map_map] at this
            · have hs2 : (zs.map (·.2)).Pairwise fun e f => lexL [f.1, f.2] [e.1, e.2] = false := hs
              rw [List.pairwise_map] at hs2 ⊢
              exact hs2
            · obtain ⟨x, _, rfl⟩ := List.mem_map.mp hx
              obtain ⟨y, _, rfl⟩ := List.mem_map.mp hy
              rw [keyG_tupP, keyG_tupP] at e
              have h1 : x.1 = y.1 := by injection e
              have h2 : x.2 = y.2 := by injection e with _ e; injection e
              unfold tupP
              rw [h1, h2]
          rw [he] at hr
          exact q1 (.ref l) H' W' (Stp.of ex) (c1.ext ex) (.lst wl hlst hr)
        · exact q1.elim
    · exact q1.elim⟩⟩
end
@[simp] theorem msortI_ap (m : ME) (s : Option MV) (S : MS) : msortI m (s :: S) = (m (s :: S)).bind fun r S1 => match r with
  | .pk _ (.dic kvs) => match rowsK kvs with
    | some ps => .ok (.nw (.lst (sortT 2 (ps.map tupP)))) S1
    | none => .stuck
  | _ => .stuck := Eq.trans rfl rfl
end M

set_option maxHeartbeats 2000000
/-! M43: methods that change nothing: l.index(x), l.count(x), x.split(y), x.join(l), x.strip(y), x.upper(). Own work. -/
namespace M
open PySem PySem.Spec PyProof.Rows L2
def tyM (T : String) : PyData → Bool
  | .str _ => T == "str"
  | .list _ => T == "list"
  | _ => false
def asStrs : List PyData → Option (List Str)
  | [] => some []
  | .str x :: r => match asStrs r with
    | some l => some (x :: l)
    | none => none
  | _ => none
theorem asStrs_map (l : List Str) : asStrs (l.map PyData.str) = some l := by
  induction l with
  | nil => rfl
  | cons x r ih => rw [List.map_cons, asStrs, ih]
section
variable {K : Frag} {W : Own} {H : Hp}
theorem tyM_ok {T : String} {v : V} {d : PyData} (r : Root K W H v d) (e : tyM T d = true) : tyV K T v H := by
  unfold tyM at e
  split at e
  · cases r.str
    exact beq_iff_eq.mp e
  · obtain ⟨a, xs, rfl, ra, _⟩ := r
    exact .inl ⟨beq_iff_eq.mp e, xs, .inl ra⟩
  · cases e
theorem asStrs_ok : ∀ {vs : List V} {ds : List PyData} {l : List Str}, RpAll K W H vs ds → asStrs ds = some l → vs = l.map V.str
  | _, [], l, h, e => by cases h; cases e; rfl
  | _, d :: ds, l, h, e => by
    cases h with
    | cons a b =>
      cases d with
      | str x =>
        unfold asStrs at e
        split at e
        · rename_i r er
          cases e
          cases a
          rw [asStrs_ok b er]
          rfl
        · cases e
      | _ => cases e
end
def OpMt (K : Frag) (r : V → List V → Hp → VK → Prop) (g : PyData → PyData → Option RV) : Prop := ∀ (W : Own) (H : Hp) (v u : V) (x y : PyData) (z : RV) (Q : VK), Root K W H v x → Root K W H u y → g x y = some z → (∀ v' H' W', Ext W H W' H' → RNew K W' H' v' z → Q v' H') → r v [u] H Q
def OpMt0 (K : Frag) (r : V → List V → Hp → VK → Prop) (g : PyData → Option RV) : Prop := ∀ (W : Own) (H : Hp) (v : V) (x : PyData) (z : RV) (Q : VK), Root K W H v x → g x = some z → (∀ v' H' W', Ext W H W' H' → RNew K W' H' v' z → Q v' H') → r v [] H Q
def mmt (T : String) (g : PyData → PyData → Option RV) (mo me : ME) : ME := fun S => (mo S).bind fun x S1 => match x.dat with
  | some d => if tyM T d = true then (me S1).bind fun y S2 => match y.dat with
    | some e => toR (g d e) S2
    | none => .stuck
    else .stuck
  | none => .stuck
def mmt0 (T : String) (g : PyData → Option RV) (mo : ME) : ME := fun S => (mo S).bind fun x S1 => match x.dat with
  | some d => if tyM T d = true then toR (g d) S1 else .stuck
  | none => .stuck
section
variable {X : Cx} {G : GC} {b : Bool} {o e c : Expr} {mo me : ME} {T : String} {r : V → List V → Hp → VK → Prop} {g : PyData → PyData → Option RV} {g0 : PyData → Option RV}
theorem ev_mt (hp : ∀ to te, PE X o to → PE X e te → PE X c (tBM X.K T r to (tCons te tNil))) (og : OpMt X.K r g) (ho : EV b X G o mo) (he : EV true X G e me) : EV b X G c (mmt T g mo me) :=
  ⟨(hp _ _ ho.pe he.pe).imp fun σ H Q ⟨S, W, cc, q⟩ => ⟨S, W, cc, (okR.one q).imp fun v H1 ⟨x, S1, W1, st, c1, rv, q1⟩ => by
    split at q1
    · rename_i d ed
      split at q1
      · rename_i ty
        have r1 := (Opd.of rv).root ed
        refine ⟨tyM_ok r1 ty, S1, W1, c1, (okR.one q1).imp fun u H2 ⟨y, S2, W2, st2, c2, rv2, q2⟩ => ?_⟩
        split at q2
        · rename_i f ef
          unfold toR at q2
          split at q2
          · rename_i z ez
            exact og W2 H2 v u d f z Q (((Opd.of rv).ext st2).root ed) ((Opd.of rv2).root ef) ez fun v' H' W' ex rn => q2 v' H' W' ex (c2.ext ex) rn.rv
          · exact q2.elim
        · exact q2.elim
      · exact q1.elim
    · exact q1.elim⟩⟩
theorem ev_mt0 (hp : ∀ to, PE X o to → PE X c (tBM0 X.K T r to)) (og : OpMt0 X.K r g0) (ho : EV b X G o mo) : EV b X G c (mmt0 T g0 mo) :=
  ⟨(hp _ ho.pe).imp fun σ H Q ⟨S, W, cc, q⟩ => ⟨S, W, cc, (okR.one q).imp fun v H1 ⟨x, S1, W1, st, c1, rv, q1⟩ => by
    split at q1
    · rename_i d ed
      split at q1
      · rename_i ty
        have r1 := (Opd.of rv).root ed
        unfold toR at q1
        split at q1
        · rename_i z ez
          exact ⟨tyM_ok r1 ty, og W1 H1 v d z Q r1 ez fun v' H' W' ex rn => q1 v' H' W' ex (c1.ext ex) rn.rv⟩
        · exact q1.elim
      · exact q1.elim
    · exact q1.elim⟩⟩
end
@[simp] theorem mmt_ap (T : String) (g : PyData → PyData → Option RV) (mo me : ME) (s : Option MV) (S : MS) : mmt T g mo me (s :: S) = (mo (s :: S)).bind fun x S1 => match x.dat with
  | some d => if tyM T d = true then (me S1).bind fun y S2 => match y.dat with
    | some e => toR (g d e) S2
    | none => .stuck
    else .stuck
  | none => .stuck := Eq.trans rfl rfl
@[simp] theorem mmt0_ap (T : String) (g : PyData → Option RV) (mo : ME) (s : Option MV) (S : MS) : mmt0 T g mo (s :: S) = (mo (s :: S)).bind fun x S1 => match x.dat with
  | some d => if tyM T d = true then toR (g d) S1 else .stuck
  | none => .stuck := Eq.trans rfl rfl
@[simp] theorem tyM_s (x : Str) : tyM "str" (.str x) = true := rfl
@[simp] theorem tyM_l (x : List PyData) : tyM "list" (.list x) = true := rfl
/-! ### lists of ints -/
def gIndex : PyData → PyData → Option RV
  | .list ds, .int k => match asInts ds with
    | some ns => if k ∈ ns then some (.d (.int (ns.idxOf k : Nat))) else none
    | none => none
  | _, _ => none
def gLcount : PyData → PyData → Option RV
  | .list ds, .int k => match asInts ds with
    | some ns => some (.d (.int (ns.count k : Nat)))
    | none => none
  | _, _ => none
section
variable {K : Frag}
theorem og_index : OpMt K (rIndex K) gIndex := by
  intro W H v u x y z Q rx ry e kk
  unfold gIndex at e
  split at e
  · rename_i ds k
    split at e
    · rename_i ns en
      split at e
      · rename_i hk
        cases e
        obtain ⟨a, vs, rfl, ra, rxs⟩ := rx
        obtain ⟨e1, e2⟩ := asInts_ok rxs en
        subst e1
        cases ry.int
        have hj := List.idxOf_lt_length_of_mem hk
        refine ⟨a, ns.map V.int, .int k, ns.idxOf k, .int k, rfl, rfl, .inl ra, rfl, ?_, ?_, by show (k == k) = true; simp, fun m z' hm hz => ?_, kk _ _ _ Ext.refl .int⟩
        · rw [List.all_map]; exact List.all_eq_true.mpr fun _ _ => rfl
        · rw [List.getElem?_map, List.getElem?_eq_getElem hj, List.getElem_idxOf hj]
          rfl
        · rw [List.getElem?_map] at hz
          have hml : m < ns.length := by omega
          rw [List.getElem?_eq_getElem hml] at hz
          cases hz
          show (ns[m] == k) = false
          have := List.not_of_lt_findIdx (p := (· == k)) (xs := ns) hm
          simpa using this
      · cases e
    · cases e
  · cases e
theorem og_lcount : OpMt K (rCntI K) gLcount := by
  intro W H v u x y z Q rx ry e kk
  unfold gLcount at e
  split at e
  · rename_i ds k
    split at e
    · rename_i ns en
      cases e
      obtain ⟨a, vs, rfl, ra, rxs⟩ := rx
      obtain ⟨e1, e2⟩ := asInts_ok rxs en
      subst e1
      cases ry.int
      exact ⟨a, ns, k, rfl, rfl, .inl ra, kk _ _ _ Ext.refl .int⟩
    · cases e
  · cases e
/-! ### texts -/
theorem rp_strsM {W : Own} {H : Hp} : ∀ l : List Str, RpAll K W H (l.map V.str) (l.map PyData.str)
  | [] => .nil
  | _ :: r => .cons .str (rp_strsM r)
def gSplit : PyData → PyData → Option RV
  | .str a, .str b => if (b.length == 0) = false ∧ a.length + 2 ≤ 16777216 then some (.nw (.lst ((Txt.split a b).map PyData.str))) else none
  | _, _ => none
theorem og_split : OpMt K (fun x xs H Q => ∃ a b, x = .str a ∧ xs = [.str b] ∧ (b.length == 0) = false ∧ a.length + 2 ≤ sizeLine ∧ rNewStrs (Txt.split a b) H Q) gSplit := by
  intro W H v u x y z Q rx ry e kk
  unfold gSplit at e
  split at e
  · rename_i a b
    split at e
    · rename_i h
      cases e
      cases rx.str; cases ry.str
      refine ⟨a, b, rfl, rfl, h.1, by rw [sizeLine_eq]; exact h.2, fun p np => ?_⟩
      obtain ⟨k1, k2⟩ := new_lst np (rp_strsM (K := K) (W := W) (H := H) (Txt.split a b))
      exact kk _ _ _ k1 k2
    · cases e
  · cases e
def gJoin : PyData → PyData → Option RV
  | .str a, .list ds => match asStrs ds with
    | some ys => if (ys.map (·.length)).sum + ys.length * a.length ≤ 16777216 then some (.d (.str (Txt.join a ys))) else none
    | none => none
  | .str a, .tuple ds => match asStrs ds with
    | some ys => if (ys.map (·.length)).sum + ys.length * a.length ≤ 16777216 then some (.d (.str (Txt.join a ys))) else none
    | none => none
  | _, _ => none
theorem og_join : OpMt K (fun x xs H Q => ∃ a p, ∃ ys : List Str, x = .str a ∧ xs = [.ref p] ∧ (SqL K H p (ys.map V.str) ∨ SqT K H p (ys.map V.str)) ∧ (ys.map (·.length)).sum + ys.length * a.length ≤ 16777216 ∧ Q (.str (Txt.join a ys)) H) gJoin := by
  intro W H v u x y z Q rx ry e kk
  unfold gJoin at e
  split at e
  · rename_i a ds
    split at e
    · rename_i ys ey
      split at e
      · rename_i h
        cases e
        cases rx.str
        obtain ⟨p, vs, rfl, ra, rxs⟩ := ry
        have e1 := asStrs_ok rxs ey
        subst e1
        exact ⟨a, p, ys, rfl, rfl, .inl (.inl ra), h, kk _ _ _ Ext.refl .str⟩
      · cases e
    · cases e
  · rename_i a ds
    split at e
    · rename_i ys ey
      split at e
      · rename_i h
        cases e
        cases rx.str
        have ry : Rp K W H u (.tuple ds) := ry
        cases ry with
        | @tup p vs _ ra rxs =>
          have e1 := asStrs_ok rxs ey
          subst e1
          exact ⟨a, p, ys, rfl, rfl, .inr ra.sq, h, kk _ _ _ Ext.refl .str⟩
      · cases e
    · cases e
  · cases e
def gStripC : PyData → PyData → Option RV
  | .str a, .str b => if a.length ≤ 16777216 then some (.d (.str (Txt.stripChars a b))) else none
  | _, _ => none
theorem og_stripC : OpMt K (fun x xs H Q => ∃ a b, x = .str a ∧ xs = [.str b] ∧ a.length ≤ sizeLine ∧ Q (.str (Txt.stripChars a b)) H) gStripC := by
  intro W H v u x y z Q rx ry e kk
  unfold gStripC at e
  split at e
  · rename_i a b
    split at e
    · rename_i h
      cases e
      cases rx.str; cases ry.str
      exact ⟨a, b, rfl, rfl, by rw [sizeLine_eq]; exact h, kk _ _ _ Ext.refl .str⟩
    · cases e
  · cases e
def gUpper : PyData → Option RV
  | .str a => if a.length ≤ 5592405 then some (.d (.str (Txt.upper a))) else none
  | _ => none
theorem og_upper : OpMt0 K (fun x xs H Q => ∃ a, x = .str a ∧ xs = [] ∧ a.length ≤ 5592405 ∧ Q (.str (Txt.upper a)) H) gUpper := by
  intro W H v x z Q rx e kk
  unfold gUpper at e
  split at e
  · rename_i a
    split at e
    · rename_i h
      cases e
      cases rx.str
      exact ⟨a, rfl, rfl, h, kk _ _ _ Ext.refl .str⟩
    · cases e
  · cases e
end
@[simp] theorem gIndex_i {ns : List Int} {k : Int} (h : k ∈ ns) : gIndex (.list (ns.map PyData.int)) (.int k) = some (.d (.int (ns.idxOf k : Nat))) := by
  unfold gIndex
  simp only [asInts_map, if_pos h]
@[simp] theorem gLcount_i {ns : List Int} {k : Int} : gLcount (.list (ns.map PyData.int)) (.int k) = some (.d (.int (ns.count k : Nat))) := by
  unfold gLcount
  simp only [asInts_map]
end M

set_option maxHeartbeats 2000000
/-! M44: zip of two lists (both frozen, or new). Own work. -/
namespace M
open PySem PySem.Spec PyProof.Rows L2
def zipD (xs ys : List PyData) : List PyData := (xs.zip ys).map fun p => .tuple [p.1, p.2]
def stL (r : RV) : Option (List PyData) := match stab false r with
  | some (.d (.list ds)) => some ds
  | _ => none
def miZ (m k : ME) : MI := fun S => (m S).bind fun r S1 => match stL r with
  | some xs => (k S1).bind fun r2 S2 => match stL r2 with
    | some ys => .ok (zipD xs ys) S2
    | none => .stuck
  | none => .stuck
theorem stL_ok {r : RV} {ds : List PyData} (h : stL r = some ds) : stab false r = some (.d (.list ds)) := by
  unfold stL at h
  split at h
  · rename_i e
    cases h
    exact e
  · cases h
section
variable {X : Cx} {G : GC} {b bl : Bool} {e f : Expr} {m k : ME} {pos : Pos}
theorem iv_zip {p tpos : Pos} {elts : List Expr} {kk : Nat} (hm : X.mg "zip" = none) (h : EV b X G e m) (h2 : EV true X G f k) (hg : Gl X "zip" := by rfl)
    (hs : starEach [e, f] X.env = (false, eval e X.env) :: starEach [f] X.env := by rfl) (hs2 : starEach [f] X.env = (false, eval f X.env) :: starEach [] X.env := by rfl) (hpl : (backTo pos (starEach [f] X.env)).any (·.1) = false := by rfl) :
    IV b bl X G (.Tuple elts kk tpos) (.Call (.Name "zip" p) [e, f] [] pos) (miZ m k) :=
  ⟨PI.imp (pi_zip hg hm (pa_cons h.pe (pa_cons h2.pe pa_nil hs2) hs) hs hpl) fun σ H R ⟨S, W, c, q⟩ => ⟨S, W, c, (okR.one q).imp fun v H1 ⟨r, S1, W1, st, c1, rv, q1⟩ => by
    split at q1
    · rename_i xs0 ex
      obtain ⟨W1', ext, hx⟩ := stab_ok rv (stL_ok ex)
      have q1 := okR.shift' q1 ext
      have c1 := c1.ext ext
      refine ⟨S1, W1', c1, (okR.one q1).imp fun u H2 ⟨r2, S2, W2, st2, c2, rv2, q2⟩ => ?_⟩
      split at q2
      · rename_i ys0 ey
        obtain ⟨W2', ext2, hy⟩ := stab_ok rv2 (stL_ok ey)
        have q2 := okR.shift' q2 ext2
        have c2 := c2.ext ext2
        have hxr : Rp X.K W2' H2 v (.list xs0) := hx W2' H2 (Ext.mono (Ext.trans st2 ext2))
        have hyr : Rp X.K W2' H2 u (.list ys0) := hy W2' H2 Mono.refl
        cases hxr with
        | @lst a xs _ fa rxs =>
          cases hyr with
          | @lst a2 ys _ fa2 rys =>
            refine ⟨a, a2, xs, ys, rfl, fa.sq, fa2.sq, q2 _ H2 W2' Stp.refl c2 fun W3 H3 st3 i => ?_⟩
            have ra := fa.fz st3.fz
            have rb := fa2.fz st3.fz
            have rx := rxs.fz st3.fz
            have ry := rys.fz st3.fz
            refine ⟨fun d hd => ?_, fun hl => ?_⟩
            · unfold zipD at hd
              rw [List.getElem?_map] at hd
              cases ez : (xs0.zip ys0)[i]? with
              | none => rw [ez] at hd; cases hd
              | some pq =>
                rw [ez] at hd
                cases hd
                obtain ⟨z1, z2⟩ := List.getElem?_zip_eq_some.mp ez
                obtain ⟨x, hx1, rx1⟩ := rx.get z1
                obtain ⟨y, hy1, ry1⟩ := ry.get z2
                refine ⟨⟨xs, ys, x, y, ra.sq, rb.sq, hx1, hy1⟩, fun w H' hw => ?_⟩
                obtain ⟨T, x', y', ey', nT, eH, hxx, hyy⟩ := hw
                subst eH ey'
                have e1 := hxx xs ra.sq
                have e2 := hyy ys rb.sq
                rw [hx1] at e1
                rw [hy1] at e2
                cases e1
                cases e2
                obtain ⟨h1, h2⟩ := new_tup (K := X.K) nT (RpAll.cons rx1 (.cons ry1 .nil))
                exact ⟨_, h1, h2⟩
            · refine ⟨xs, ys, ra.sq, rb.sq, ?_⟩
              have l1 := rx.len
              have l2 := ry.len
              unfold zipD at hl
              rw [List.length_map, List.length_zip] at hl
              omega
      · exact q2.elim
    · exact q1.elim⟩⟩
end
@[simp] theorem miZ_ap (m k : ME) (s : Option MV) (S : MS) : miZ m k (s :: S) = (m (s :: S)).bind fun r S1 => match stL r with
  | some xs => (k S1).bind fun r2 S2 => match stL r2 with
    | some ys => .ok (zipD xs ys) S2
    | none => .stuck
  | none => .stuck := Eq.trans rfl rfl
@[simp] theorem stL_d (x : List PyData) : stL (.d (.list x)) = some x := Eq.trans rfl rfl
@[simp] theorem stL_n (x : List PyData) : stL (.nw (.lst x)) = some x := Eq.trans rfl rfl
end M

set_option maxHeartbeats 4000000
namespace K19
open PySem PySem.Spec PyProof.Rows L2 M
def excs : List Str := []
def top (i : Nat) : Stmt := PySem.Challenge.pw_heldturns_k19_whole_how_many.main.body.getD i (.Pass ⟨0, 0, 0, 0⟩)
abbrev s_law_pick : Stmt := top 41
abbrev s_law_seed : Stmt := top 40
abbrev s_law_setting : Stmt := top 42
abbrev s_law_cell : Stmt := top 39
abbrev s_law_deeds : Stmt := top 43
abbrev s_is_one : Stmt := top 14
abbrev s_is_within : Stmt := top 13
abbrev s_is_setting : Stmt := top 15
abbrev s_look : Stmt := top 16
abbrev s_is_key : Stmt := top 17
abbrev s_is_deed : Stmt := top 26
abbrev s_are_deeds : Stmt := top 27
abbrev s_look_deeds : Stmt := top 28
abbrev s_look_heard : Stmt := top 30
abbrev s_Player_init : Stmt := inClass (top 22) 0
abbrev s_Player_press : Stmt := inClass (top 22) 5
abbrev s_Player_rest : Stmt := inClass (top 22) 7
abbrev s_Player_leave : Stmt := inClass (top 22) 6
abbrev s_do : Stmt := top 29
abbrev s_Player_sounding : Stmt := inClass (top 22) 3
abbrev s_Player_grid : Stmt := inClass (top 22) 9
abbrev s_inward : Stmt := top 18
abbrev s_in_order : Stmt := top 19
abbrev s_round_told : Stmt := top 20
abbrev s_Player_step : Stmt := inClass (top 22) 12
abbrev s_Player_tick : Stmt := inClass (top 22) 11
abbrev s_heard : Stmt := top 31
abbrev s_how_often : Stmt := top 34
abbrev s_sounds : Stmt := top 32
abbrev s_fullest : Stmt := top 35
abbrev s_silences : Stmt := top 36
abbrev s_several : Stmt := top 37
abbrev s_law : Stmt := top 44
noncomputable def b_law_pick : MSt := mret (mop2 true (lift2 gMod) (mop2 true (lift2 gFdiv) (mvar 0) (mc (.int 97))) (mvar 1))
noncomputable def f_law_pick : MF := fnM 2 2 b_law_pick
noncomputable def b_law_seed : MSt := mret (mop2 true (lift2 gMod) (mop2 true (lift2 gPow) (mop2 true (lift2 gMod) (mop2 true (lift2 gAdd) (mop2 true (lift2 gAdd) (mop2 true (gMulR) (mvar 0) (mc (.int 1103515245))) (mop2 true (gMulR) (mc (.int 7919)) (mvar 1))) (mc (.int 12345))) (mc (.int 2147483647))) (mc (.int 5))) (mc (.int 2147483647)))
noncomputable def f_law_seed : MF := fnM 2 2 b_law_seed
noncomputable def b_law_setting : MSt := mseq (msetF 1 (mop2 true (lift2 gIx) (mlst (mconsA true (mc (.str ("up" : Str))) (mconsA true (mc (.str ("down" : Str))) (mconsA true (mc (.str ("both" : Str))) (mconsA true (mc (.str ("bounce" : Str))) (mconsA true (mc (.str ("in" : Str))) (mconsA true (mc (.str ("thumb" : Str))) (mconsA true (mc (.str ("played" : Str))) (mnilA))))))))) (mcall true f_law_pick (mconsA true (mcall true f_law_seed (mconsA true (mvar 0) (mconsA true (mc (.int 1)) (mnilA)))) (mconsA true (mc (.int 7)) (mnilA))))))
    (mseq (msetF 2 (mop2 true (lift2 gIx) (mlst (mconsA true (mc (.str ("now" : Str))) (mconsA true (mc (.str ("grid" : Str))) (mnilA)))) (mcall true f_law_pick (mconsA true (mcall true f_law_seed (mconsA true (mvar 0) (mconsA true (mc (.int 5)) (mnilA)))) (mconsA true (mc (.int 2)) (mnilA))))))
    (mseq (mpar2 3 4 (mconsA true (mop2 true (lift2 gAdd) (mc (.int 1)) (mcall true f_law_pick (mconsA true (mcall true f_law_seed (mconsA true (mvar 0) (mconsA true (mc (.int 2)) (mnilA)))) (mconsA true (mop2 true (lift2 gIx) (mlst (mconsA true (mc (.int 8)) (mconsA true (mc (.int 3)) (mnilA)))) (mop2 true (lift2 gMod) (mop2 true (lift2 gFdiv) (mvar 0) (mc (.int 5))) (mc (.int 2)))) (mnilA))))) (mconsA true (mop2 true (lift2 gAdd) (mc (.int 1)) (mcall true f_law_pick (mconsA true (mcall true f_law_seed (mconsA true (mvar 0) (mconsA true (mc (.int 3)) (mnilA)))) (mconsA true (mc (.int 16)) (mnilA))))) (mnilA))))
    (mseq (mpar2 5 6 (mconsA true (mop2 true (lift2 gEq) (mcall true f_law_pick (mconsA true (mcall true f_law_seed (mconsA true (mvar 0) (mconsA true (mc (.int 4)) (mnilA)))) (mconsA true (mc (.int 3)) (mnilA)))) (mc (.int 0))) (mconsA true (mop2 true (lift2 gEq) (mcall true f_law_pick (mconsA true (mcall true f_law_seed (mconsA true (mvar 0) (mconsA true (mc (.int 6)) (mnilA)))) (mconsA true (mc (.int 3)) (mnilA)))) (mc (.int 0))) (mnilA))))
    (mret (mtup (mconsA true (mvar 1) (mconsA true (mop2 true (lift2 gAdd) (mc (.int 1)) (mop2 true (lift2 gMod) (mop2 true (lift2 gFdiv) (mvar 0) (mc (.int 7))) (mc (.int 3)))) (mconsA true (mvar 3) (mconsA true (mvar 4) (mconsA true (mvar 5) (mconsA true (mvar 2) (mconsA true (mvar 6) (mnilA)))))))))))))
noncomputable def f_law_setting : MF := fnM 1 7 b_law_setting
noncomputable def b_law_cell : MSt := mseq (mifS (tobool (mop2 true (lift2 gLt) (mvar 1) (mop1 gLen (mvar 0))))
    (mret (mop2 true (lift2 gIx) (mvar 0) (mvar 1)))
    (mnil))
    (mret (mc (.int 0)))
noncomputable def f_law_cell : MF := fnM 2 2 b_law_cell
noncomputable def ct1_law_deeds : MT := tobool (mop2 true (lift2 gNe) (mvar 9) (mvar 8))
noncomputable def ce1_law_deeds : ME := mvar 9
noncomputable def l1_law_deeds : MSt := mseq (msetF 7 (mcall true f_law_seed (mconsA true (mvar 0) (mconsA true (mvar 6) (mnilA)))))
    (mseq (msetF 4 (mmin2 (mconsA true (mc (.int 999)) (mconsA true (mop2 true (lift2 gAdd) (mvar 4) (mop2 true (lift2 gMod) (mop2 true (lift2 gFdiv) (mvar 7) (mc (.int 7))) (mvar 5))) (mnilA)))))
    (mseq (msetF 8 (mcall true f_law_pick (mconsA true (mcall true f_law_seed (mconsA true (mvar 7) (mconsA true (mc (.int 1)) (mnilA)))) (mconsA true (mop2 true (lift2 gIx) (mlst (mconsA true (mc (.int 36)) (mconsA true (mc (.int 6)) (mnilA)))) (mop2 true (lift2 gMod) (mop2 true (lift2 gFdiv) (mvar 0) (mc (.int 7))) (mc (.int 2)))) (mnilA)))))
    (mifS (morT (tobool (mop2 true (lift2 (gInL false)) (mvar 8) (mvar 3))) (mandT (tobool (mop2 true (lift2 gNe) (mvar 3) (mlst (mnilA)))) (tobool (mop2 true (lift2 gLt) (mop2 true (lift2 gMod) (mop2 true (lift2 gFdiv) (mvar 7) (mc (.int 11))) (mc (.int 5))) (mc (.int 2))))))
    (mseq (msetF 8 (mifE (tobool (mop2 true (lift2 (gInL false)) (mvar 8) (mvar 3))) (mvar 8) (mop2 true (lift2 gIx) (mvar 3) (mop2 true (lift2 gMod) (mop2 true (lift2 gFdiv) (mvar 7) (mc (.int 13))) (mop1 gLen (mvar 3))))))
    (mseq (msetF 3 (mlc [9] (miL true (mvar 3)) (tgN 9) (ct1_law_deeds) (ce1_law_deeds)))
    (mdrop (mlmV 2 gAppend (mtup (mconsA true (mvar 4) (mconsA true (mc (.str ("up" : Str))) (mconsA true (mvar 8) (mnilA)))))))))
    (mseq (msetF 3 (mop2 true (lift2 gAdd) (mvar 3) (mlst (mconsA true (mvar 8) (mnilA)))))
    (mdrop (mlmV 2 gAppend (mtup (mconsA true (mvar 4) (mconsA true (mc (.str ("down" : Str))) (mconsA true (mvar 8) (mnilA)))))))))))
noncomputable def p0_law_deeds : MSt := mpar2O true false 2 3 (mlst (mnilA)) (mlst (mnilA))
noncomputable def p1_law_deeds : MSt := msetF 4 (mc (.int 0))
noncomputable def p2_law_deeds : MSt := msetF 5 (mop2 true (lift2 gIx) (mlst (mconsA true (mc (.int 3)) (mconsA true (mc (.int 9)) (mconsA true (mc (.int 30)) (mnilA))))) (mop2 true (lift2 gMod) (mop2 true (lift2 gFdiv) (mvar 0) (mc (.int 5))) (mc (.int 3))))
noncomputable def p3_law_deeds : MSt := mfor (miR1 (mvar 1)) (tgN 6) l1_law_deeds
noncomputable def p4_law_deeds : MSt := mretV 2
noncomputable def b_law_deeds : MSt := mseq p0_law_deeds (mseq p1_law_deeds (mseq p2_law_deeds (mseq p3_law_deeds (p4_law_deeds))))
noncomputable def f_law_deeds : MF := fnM 2 10 b_law_deeds
noncomputable def b_is_one : MSt := mret (mandV (misi "str" (mvar 0)) (mop2 true (lift2 (gInL false)) (mvar 0) (mvar 1)))
noncomputable def f_is_one : MF := fnM 2 2 b_is_one
noncomputable def b_is_within : MSt := mret (mandV (misi "int" (mvar 0)) (mandV (mnotV (misi "bool" (mvar 0))) (mchain (lift2 gLe) (lift2 gLe) (mvar 1) (mvar 0) (mvar 2))))
noncomputable def f_is_within : MF := fnM 3 3 b_is_within
noncomputable def b_is_setting : MSt := mseq (mifS (morT (mnotT (mtru (misi "tuple" (mvar 0)))) (morT (tobool (mop2 true (lift2 gNe) (mop1 gLen (mvar 0)) (mc (.int 7)))) (mnotT (mtru (mcall true f_is_one (mconsA true (mop2 true (lift2 gIx) (mvar 0) (mc (.int 0))) (mconsA true (mc (.tuple [.str ("up" : Str), .str ("down" : Str), .str ("both" : Str), .str ("bounce" : Str), .str ("in" : Str), .str ("thumb" : Str), .str ("played" : Str)])) (mnilA))))))))
    (mret (mc (.bool false)))
    (mnil))
    (mseq (mifS (morT (mnotT (mtru (mcall true f_is_within (mconsA true (mop2 true (lift2 gIx) (mvar 0) (mc (.int 1))) (mconsA true (mc (.int 1)) (mconsA true (mc (.int 3)) (mnilA))))))) (morT (mnotT (mtru (mcall true f_is_within (mconsA true (mop2 true (lift2 gIx) (mvar 0) (mc (.int 2))) (mconsA true (mc (.int 1)) (mconsA true (mc (.int 8)) (mnilA))))))) (mnotT (mtru (mcall true f_is_within (mconsA true (mop2 true (lift2 gIx) (mvar 0) (mc (.int 3))) (mconsA true (mc (.int 1)) (mconsA true (mc (.int 16)) (mnilA)))))))))
    (mret (mc (.bool false)))
    (mnil))
    (mret (mandV (misi "bool" (mop2 true (lift2 gIx) (mvar 0) (mc (.int 4)))) (mandV (mcall true f_is_one (mconsA true (mop2 true (lift2 gIx) (mvar 0) (mc (.int 5))) (mconsA true (mtup (mconsA true (mc (.str ("now" : Str))) (mconsA true (mc (.str ("grid" : Str))) (mnilA)))) (mnilA)))) (misi "bool" (mop2 true (lift2 gIx) (mvar 0) (mc (.int 6))))))))
noncomputable def f_is_setting : MF := fnM 1 1 b_is_setting
noncomputable def b_look : MSt := mifS (mnotT (mtru (mcall true f_is_setting (mconsA true (mvar 0) (mnilA)))))
    (mraise ("NoSetting" : Str))
    (mnil)
noncomputable def f_look : MF := fnM 1 1 b_look
noncomputable def b_is_key : MSt := mret (mcall true f_is_within (mconsA true (mvar 0) (mconsA true (mc (.int 0)) (mconsA true (mc (.int 35)) (mnilA)))))
noncomputable def f_is_key : MF := fnM 1 1 b_is_key
noncomputable def b_is_deed : MSt := mseq (mifS (morT (mnotT (mtru (misi "tuple" (mvar 0)))) (morT (tobool (mop2 true (lift2 gNe) (mop1 gLen (mvar 0)) (mc (.int 3)))) (mnotT (mtru (mcall true f_is_within (mconsA true (mop2 true (lift2 gIx) (mvar 0) (mc (.int 0))) (mconsA true (mc (.int 0)) (mconsA true (mc (.int 999)) (mnilA)))))))))
    (mret (mc (.bool false)))
    (mnil))
    (mret (mandV (mcall true f_is_one (mconsA true (mop2 true (lift2 gIx) (mvar 0) (mc (.int 1))) (mconsA true (mtup (mconsA true (mc (.str ("down" : Str))) (mconsA true (mc (.str ("up" : Str))) (mnilA)))) (mnilA)))) (mcall true f_is_key (mconsA true (mop2 true (lift2 gIx) (mvar 0) (mc (.int 2))) (mnilA)))))
noncomputable def f_is_deed : MF := fnM 1 1 b_is_deed
noncomputable def ct1_are_deeds : MT := mnotT (mtru (mcall true f_is_deed (mconsA true (mvar 6) (mnilA))))
noncomputable def ce1_are_deeds : ME := mvar 6
noncomputable def ct2_are_deeds : MT := tobool (mop2 true (lift2 gNe) (mvar 7) (mvar 5))
noncomputable def ce2_are_deeds : ME := mvar 7
noncomputable def l1_are_deeds : MSt := mseq (mifS (morT (tobool (mop2 true (lift2 gLt) (mvar 3) (mvar 2))) (tobool (mop2 true (lift2 gNe) (mop2 true (lift2 (gInL false)) (mvar 5) (mvar 1)) (mop2 true (lift2 gEq) (mvar 4) (mc (.str ("up" : Str)))))))
    (mret (mc (.bool false)))
    (mnil))
    (mseq (msetF 1 (mifE (tobool (mop2 true (lift2 gEq) (mvar 4) (mc (.str ("down" : Str))))) (mop2 true (lift2 gAdd) (mvar 1) (mlst (mconsA true (mvar 5) (mnilA)))) (mlc [7] (miL true (mvar 1)) (tgN 7) (ct2_are_deeds) (ce2_are_deeds))))
    (msetF 2 (mvar 3)))
noncomputable def p0_are_deeds : MSt := mifS (morT (mnotT (mtru (misi "list" (mvar 0)))) (morT (tobool (mop2 true (lift2 gGt) (mop1 gLen (mvar 0)) (mc (.int 80)))) (mtru (mlc [6] (miL true (mvar 0)) (tgN 6) (ct1_are_deeds) (ce1_are_deeds)))))
    (mret (mc (.bool false)))
    (mnil)
noncomputable def p1_are_deeds : MSt := msetF 1 (mlst (mnilA))
noncomputable def p2_are_deeds : MSt := msetF 2 (mc (.int 0))
noncomputable def p3_are_deeds : MSt := mfor (miL false (mvar 0)) (tgT 3 (tgsC (tgN 3) (tgsC (tgN 4) (tgsC (tgN 5) (tgsN))))) l1_are_deeds
noncomputable def p4_are_deeds : MSt := mret (mc (.bool true))
noncomputable def b_are_deeds : MSt := mseq p0_are_deeds (mseq p1_are_deeds (mseq p2_are_deeds (mseq p3_are_deeds (p4_are_deeds))))
noncomputable def f_are_deeds : MF := fnM 1 8 b_are_deeds
noncomputable def b_look_deeds : MSt := mifS (mnotT (mtru (mcall true f_are_deeds (mconsA true (mvar 0) (mnilA)))))
    (mraise ("NoDeeds" : Str))
    (mnil)
noncomputable def f_look_deeds : MF := fnM 1 1 b_look_deeds
noncomputable def b_look_heard : MSt := mseq (mdrop (mcall true f_look (mconsA true (mvar 0) (mnilA))))
    (mseq (mdrop (mcall true f_look_deeds (mconsA true (mvar 1) (mnilA))))
    (mifS (mnotT (mtru (mcall true f_is_within (mconsA true (mvar 2) (mconsA true (mc (.int 0)) (mconsA true (mop2 true (lift2 gAdd) (mc (.int 999)) (mc (.int 1))) (mnilA)))))))
    (mraise ("NoCount" : Str))
    (mnil)))
noncomputable def f_look_heard : MF := fnM 3 3 b_look_heard
noncomputable def b_Player_init : MSt := mseq (mdrop (mcall true f_look (mconsA true (mvar 1) (mnilA))))
    (mseq (msfld false "Player" "setting" 0 (mvar 1))
    (mseq (msfld true "Player" "down" 0 (mlst (mnilA)))
    (mseq (msfld true "Player" "some" 0 (mlst (mnilA)))
    (mseq (msfld false "Player" "now" 0 (mc (.int 0)))
    (mseq (msfld false "Player" "due" 0 (mc .none))
    (mseq (msfld false "Player" "count" 0 (mc (.int 0)))
    (mseq (msfld false "Player" "row" 0 (mlst (mnilA)))
    (msfld true "Player" "ends" 0 ((fun S => .ok (.nw (.dic [])) S))))))))))
noncomputable def f_Player_init : MF := fnM 2 2 b_Player_init
noncomputable def p0_Player_press : MSt := mifS (mnotT (mtru (mcall true f_is_key (mconsA true (mvar 1) (mnilA)))))
    (mraise ("NoKey" : Str))
    (mnil)
noncomputable def p1_Player_press : MSt := mifS (tobool (mop2 true (lift2 (gInL false)) (mvar 1) (mfld "Player" "down" (mvar 0))))
    (mraise ("IsHeld" : Str))
    (mnil)
noncomputable def p2_Player_press : MSt := mifS (mandT (mtru (mop2 true (lift2 gIx) (mfld "Player" "setting" (mvar 0)) (mc (.int 4)))) (mnotT (mtru (mfld "Player" "down" (mvar 0)))))
    (mseq (msfld true "Player" "some" 0 (mlst (mnilA)))
    (msfld false "Player" "count" 0 (mc (.int 0))))
    (mnil)
noncomputable def p3_Player_press : MSt := mdrop (mlmI gAppend (mfld "Player" "down" (mvar 0)) (mvar 1))
noncomputable def p4_Player_press : MSt := mifS (tobool (mop2 true (lift2 (gInL true)) (mvar 1) (mfld "Player" "some" (mvar 0))))
    (mdrop (mlmI gAppend (mfld "Player" "some" (mvar 0)) (mvar 1)))
    (mnil)
noncomputable def b_Player_press : MSt := mseq p0_Player_press (mseq p1_Player_press (mseq p2_Player_press (mseq p3_Player_press (p4_Player_press))))
noncomputable def f_Player_press : MF := fnM 2 2 b_Player_press
noncomputable def b_Player_rest : MSt := mifS (mnotT (mtru (mfld "Player" "some" (mvar 0))))
    (mseq (msfld false "Player" "due" 0 (mc .none))
    (msfld false "Player" "count" 0 (mc (.int 0))))
    (mnil)
noncomputable def f_Player_rest : MF := fnM 1 1 b_Player_rest
noncomputable def ct1_Player_leave : MT := tobool (mop2 true (lift2 gNe) (mvar 2) (mvar 1))
noncomputable def ce1_Player_leave : ME := mvar 2
noncomputable def p0_Player_leave : MSt := mifS (mnotT (mtru (mcall true f_is_key (mconsA true (mvar 1) (mnilA)))))
    (mraise ("NoKey" : Str))
    (mnil)
noncomputable def p1_Player_leave : MSt := mifS (tobool (mop2 true (lift2 (gInL true)) (mvar 1) (mfld "Player" "down" (mvar 0))))
    (mraise ("NotHeld" : Str))
    (mnil)
noncomputable def p2_Player_leave : MSt := mdrop (mlmI gRemove (mfld "Player" "down" (mvar 0)) (mvar 1))
noncomputable def p3_Player_leave : MSt := mifS (mnotT (mtru (mop2 true (lift2 gIx) (mfld "Player" "setting" (mvar 0)) (mc (.int 4)))))
    (msfld true "Player" "some" 0 (mlc [2] (miL true (mfld "Player" "some" (mvar 0))) (tgN 2) (ct1_Player_leave) (ce1_Player_leave)))
    (mnil)
noncomputable def p4_Player_leave : MSt := mdrop (mmeth "Player" "rest" f_Player_rest 0 mnilA)
noncomputable def b_Player_leave : MSt := mseq p0_Player_leave (mseq p1_Player_leave (mseq p2_Player_leave (mseq p3_Player_leave (p4_Player_leave))))
noncomputable def f_Player_leave : MF := fnM 2 3 b_Player_leave
noncomputable def b_do : MSt := mifS (tobool (mop2 true (lift2 gEq) (mop2 true (lift2 gIx) (mvar 1) (mc (.int 1))) (mc (.str ("down" : Str)))))
    (mdrop (mmeth "Player" "press" f_Player_press 0 (mconsA true (mop2 true (lift2 gIx) (mvar 1) (mc (.int 2))) (mnilA))))
    (mdrop (mmeth "Player" "leave" f_Player_leave 0 (mconsA true (mop2 true (lift2 gIx) (mvar 1) (mc (.int 2))) (mnilA))))
noncomputable def f_do : MF := fnM 2 2 b_do
noncomputable def b_Player_sounding : MSt := mret (mop1 gSorted (mfld "Player" "ends" (mvar 0)))
noncomputable def f_Player_sounding : MF := fnM 1 1 b_Player_sounding
noncomputable def b_Player_grid : MSt := mret (mop2 true (gMulR) (mop2 true (lift2 gFdiv) (mop2 true (lift2 gSub) (mop2 true (lift2 gAdd) (mfld "Player" "now" (mvar 0)) (mop2 true (lift2 gIx) (mfld "Player" "setting" (mvar 0)) (mc (.int 2)))) (mc (.int 1))) (mop2 true (lift2 gIx) (mfld "Player" "setting" (mvar 0)) (mc (.int 2)))) (mop2 true (lift2 gIx) (mfld "Player" "setting" (mvar 0)) (mc (.int 2))))
noncomputable def f_Player_grid : MF := fnM 1 1 b_Player_grid
noncomputable def b_inward : MSt := mseq (mset 1 (mlst (mnilA)))
    (mseq (mset 2 (mop1 (lift1 gList) (mvar 0)))
    (mseq (mwhile ((mtru (mvar 2)))
    ((mseq (mdrop (mlmV 1 gAppend (mlmV 2 gPopAt (mc (.int 0)))))
    (mifS (mtru (mvar 2))
    (mdrop (mlmV 1 gAppend (mlm0 gPop (mvar 2))))
    (mnil)))))
    (mretV 1)))
noncomputable def f_inward : MF := fnM 1 3 b_inward
noncomputable def b_in_order : MSt := mseq (mifS (tobool (mop2 true (lift2 gEq) (mvar 0) (mc (.str ("played" : Str)))))
    (mret (mop1 (lift1 gList) (mvar 1)))
    (mnil))
    (mseq (msetF 2 (mop1 gSorted (mvar 1)))
    (mseq (mifS (tobool (mop2 true (lift2 gEq) (mvar 0) (mc (.str ("in" : Str)))))
    (mret (mcall true f_inward (mconsA true (mvar 2) (mnilA))))
    (mnil))
    (mseq (mifS (mandT (tobool (mop2 true (lift2 gEq) (mvar 0) (mc (.str ("thumb" : Str))))) (tobool (mop2 true (lift2 gGt) (mop1 gLen (mvar 2)) (mc (.int 1)))))
    (mseq (mset 3 (mlst (mnilA)))
    (mseq (mfor (miL false (msl (mvar 2) (msomeO (mc (.int 1))) (mnoO))) (tgN 4) (mdrop (mlmV 3 gExtend (mlst (mconsA true (mop2 true (lift2 gIx) (mvar 2) (mc (.int 0))) (mconsA true (mvar 4) (mnilA)))))))
    (mretV 3)))
    (mnil))
    (mret (mvar 2)))))
noncomputable def f_in_order : MF := fnM 2 5 b_in_order
noncomputable def b_round_told : MSt := mseq (msetF 3 (mcall true f_in_order (mconsA true (mvar 0) (mconsA true (mvar 2) (mnilA)))))
    (mseq (mset 4 (mlst (mnilA)))
    (mseq (mfor (miR1 (mvar 1)) (tgN 5) (mdrop (mlmV 4 gExtend (mlc [6] (miL true (mvar 3)) (tgN 6) (myes) ((mop2 true (lift2 gAdd) (mvar 6) (mop2 true (gMulR) (mc (.int 12)) (mvar 5))))))))
    (mseq (mifS (tobool (mop2 true (lift2 gEq) (mvar 0) (mc (.str ("down" : Str)))))
    (mret (mop1 (lift1 gRev) (mvar 4)))
    (mnil))
    (mseq (mifS (mandT (tobool (mop2 true (lift2 gEq) (mvar 0) (mc (.str ("both" : Str))))) (tobool (mop2 true (lift2 gGt) (mop1 gLen (mvar 4)) (mc (.int 1)))))
    (mret (mop2 true (lift2 gAdd) (mvar 4) (mop1 (lift1 gRev) (msl (mvar 4) (msomeO (mc (.int 1))) (msomeO (mop1 (lift1 gNeg) (mc (.int 1))))))))
    (mnil))
    (mret (mifE (tobool (mop2 true (lift2 gEq) (mvar 0) (mc (.str ("bounce" : Str))))) (mop2 true (lift2 gAdd) (mvar 4) (mop1 (lift1 gRev) (mvar 4))) (mmvV 4)))))))
noncomputable def f_round_told : MF := fnM 3 7 b_round_told
noncomputable def p0_Player_step : MSt := mifS (morT (tobool (mop2 true (lift2 gEq) (mfld "Player" "count" (mvar 0)) (mc (.int 0)))) (mnotT (mtru (mop2 true (lift2 gIx) (mfld "Player" "setting" (mvar 0)) (mc (.int 6))))))
    (msfld false "Player" "row" 0 (mborrow (.fld 0 ("some" : Str)) (mcall true f_round_told (mconsA true (mop2 true (lift2 gIx) (mfld "Player" "setting" (mvar 0)) (mc (.int 0))) (mconsA true (mop2 true (lift2 gIx) (mfld "Player" "setting" (mvar 0)) (mc (.int 1))) (mconsA true (mfld "Player" "some" (mvar 0)) (mnilA)))))))
    (mnil)
noncomputable def p1_Player_step : MSt := msetF 1 (mop2 true (lift2 gMod) (mfld "Player" "count" (mvar 0)) (mop1 gLen (mfld "Player" "row" (mvar 0))))
noncomputable def p2_Player_step : MSt := msfld false "Player" "count" 0 (mop2 true (lift2 gMod) (mop2 true (lift2 gAdd) (mvar 1) (mc (.int 1))) (mop1 gLen (mfld "Player" "row" (mvar 0))))
noncomputable def p3_Player_step : MSt := msfld false "Player" "due" 0 (mop2 true (lift2 gAdd) (mfld "Player" "now" (mvar 0)) (mop2 true (lift2 gIx) (mfld "Player" "setting" (mvar 0)) (mc (.int 2))))
noncomputable def p4_Player_step : MSt := msetF 2 (mop2 true (lift2 gIx) (mfld "Player" "row" (mvar 0)) (mvar 1))
noncomputable def p5_Player_step : MSt := msetF 3 (mifE (tobool (mop2 true (gDin false) (mvar 2) (mfld "Player" "ends" (mvar 0)))) (mlst (mconsA true (mtup (mconsA true (mc (.str ("off" : Str))) (mconsA true (mvar 2) (mnilA)))) (mconsA true (mtup (mconsA true (mc (.str ("on" : Str))) (mconsA true (mvar 2) (mnilA)))) (mnilA)))) (mlst (mconsA true (mtup (mconsA true (mc (.str ("on" : Str))) (mconsA true (mvar 2) (mnilA)))) (mnilA))))
noncomputable def p6_Player_step : MSt := mdput (mop2 true (lift2 gAdd) (mfld "Player" "now" (mvar 0)) (mop2 true (lift2 gIx) (mfld "Player" "setting" (mvar 0)) (mc (.int 3)))) (mfld "Player" "ends" (mvar 0)) (mvar 2)
noncomputable def p7_Player_step : MSt := mret (mvar 3)
noncomputable def b_Player_step : MSt := mseq p0_Player_step (mseq p1_Player_step (mseq p2_Player_step (mseq p3_Player_step (mseq p4_Player_step (mseq p5_Player_step (mseq p6_Player_step (p7_Player_step)))))))
noncomputable def f_Player_step : MF := fnM 1 4 b_Player_step
noncomputable def ct1_Player_tick : MT := tobool (mop2 true (lift2 gEq) (mop2 true gDget (mfld "Player" "ends" (mvar 0)) (mvar 2)) (mfld "Player" "now" (mvar 0)))
noncomputable def ce1_Player_tick : ME := mtup (mconsA true (mc (.str ("off" : Str))) (mconsA true (mvar 2) (mnilA)))
noncomputable def ct2_Player_tick : MT := tobool (mop2 true (lift2 gGt) (mop2 true gDget (mfld "Player" "ends" (mvar 0)) (mvar 2)) (mfld "Player" "now" (mvar 0)))
noncomputable def ce2_Player_tick : ME := mtup (mconsA true (mvar 2) (mconsA true (mop2 true gDget (mfld "Player" "ends" (mvar 0)) (mvar 2)) (mnilA)))
noncomputable def p0_Player_tick : MSt := mset 1 (mlc [2] (miL true (mmeth "Player" "sounding" f_Player_sounding 0 mnilA)) (tgN 2) (ct1_Player_tick) (ce1_Player_tick))
noncomputable def p1_Player_tick : MSt := msfld true "Player" "ends" 0 (mop1 (lift1 gDictP) (mlock (.fld 0 ("ends" : Str)) (mlc [2] (miK (mfld "Player" "ends" (mvar 0))) (tgN 2) (ct2_Player_tick) (ce2_Player_tick))))
noncomputable def p2_Player_tick : MSt := mifS (mandT (mtru (mfld "Player" "some" (mvar 0))) (tobool (mop2 true (lift2 gIs) (mfld "Player" "due" (mvar 0)) (mc .none))))
    (msfld false "Player" "due" 0 (mifE (tobool (mop2 true (lift2 gEq) (mop2 true (lift2 gIx) (mfld "Player" "setting" (mvar 0)) (mc (.int 5))) (mc (.str ("now" : Str))))) (mfld "Player" "now" (mvar 0)) (mmeth "Player" "grid" f_Player_grid 0 mnilA)))
    (mnil)
noncomputable def p3_Player_tick : MSt := mifS (tobool (mop2 true (lift2 gEq) (mfld "Player" "due" (mvar 0)) (mfld "Player" "now" (mvar 0))))
    (mdrop (mlmV 1 gExtend (mmeth "Player" "step" f_Player_step 0 mnilA)))
    (mnil)
noncomputable def p4_Player_tick : MSt := mafld "Player" "now" 0 (fun i j => i + j) (mc (.int 1))
noncomputable def p5_Player_tick : MSt := mretV 1
noncomputable def b_Player_tick : MSt := mseq p0_Player_tick (mseq p1_Player_tick (mseq p2_Player_tick (mseq p3_Player_tick (mseq p4_Player_tick (p5_Player_tick)))))
noncomputable def f_Player_tick : MF := fnM 1 3 b_Player_tick
noncomputable def ce1_heard : ME := mop2 true (lift2 gAdd) (mtup (mconsA true (mvar 5) (mnilA))) (mvar 7)
noncomputable def l1_heard : MSt := mifS (tobool (mop2 true (lift2 gEq) (mop2 true (lift2 gIx) (mvar 6) (mc (.int 0))) (mvar 5)))
    (mdrop (mcall false f_do (mconsA true (mvar 3) (mconsA true (mvar 6) (mnilA)))))
    (mnil)
noncomputable def l2_heard : MSt := mseq (mfor (miL false (mvar 1)) (tgN 6) l1_heard)
    (mdrop (mlmV 4 gExtend (mlc [7] (miL true (mmeth "Player" "tick" f_Player_tick 3 mnilA)) (tgN 7) (myes) (ce1_heard))))
noncomputable def p0_heard : MSt := mdrop (mcall true f_look_heard (mconsA true (mvar 0) (mconsA true (mvar 1) (mconsA true (mvar 2) (mnilA)))))
noncomputable def p1_heard : MSt := msetF 3 (mmake "Player" f_Player_init (mconsA true (mvar 0) (mnilA)))
noncomputable def p2_heard : MSt := mset 4 (mlst (mnilA))
noncomputable def p3_heard : MSt := mfor (miR1 (mvar 2)) (tgN 5) l2_heard
noncomputable def p4_heard : MSt := mretV 4
noncomputable def b_heard : MSt := mseq p0_heard (mseq p1_heard (mseq p2_heard (mseq p3_heard (p4_heard))))
noncomputable def f_heard : MF := fnM 3 8 b_heard
noncomputable def l1_how_often : MSt := mifS (tobool (mop2 true (lift2 gEq) (mvar 5) (mc (.str ("on" : Str)))))
    (mdput (mop2 true (lift2 gAdd) (mdgetD (mvar 3) (mvar 6) (mc (.int 0))) (mc (.int 1))) (mvar 3) (mvar 6))
    (mnil)
noncomputable def b_how_often : MSt := mseq (mset 3 ((fun S => .ok (.nw (.dic [])) S)))
    (mseq (mfor (miL false (mcall true f_heard (mconsA true (mvar 0) (mconsA true (mvar 1) (mconsA true (mvar 2) (mnilA)))))) (tgT 3 (tgsC (tgN 4) (tgsC (tgN 5) (tgsC (tgN 6) (tgsN))))) l1_how_often)
    (mret (msortI (mvar 3))))
noncomputable def f_how_often : MF := fnM 3 7 b_how_often
noncomputable def w1_sounds : MT := mandT (tobool (mop2 true (lift2 gLt) (mvar 6) (mop1 gLen (mvar 3)))) (tobool (mop2 true (lift2 gEq) (mop2 true (lift2 gIx) (mop2 true (lift2 gIx) (mvar 3) (mvar 6)) (mc (.int 0))) (mvar 7)))
noncomputable def l1_sounds : MSt := mseq (mifS (tobool (mop2 true (lift2 gEq) (mop2 true (lift2 gIx) (mop2 true (lift2 gIx) (mvar 3) (mvar 6)) (mc (.int 1))) (mc (.str ("on" : Str)))))
    (mdput (mc (.bool true)) (mvar 5) (mop2 true (lift2 gIx) (mop2 true (lift2 gIx) (mvar 3) (mvar 6)) (mc (.int 2))))
    (mdrop (mdpop (mvar 5) (mop2 true (lift2 gIx) (mop2 true (lift2 gIx) (mvar 3) (mvar 6)) (mc (.int 2))))))
    (maug 6 (fun i j => i + j) (mc (.int 1)))
noncomputable def l2_sounds : MSt := mseq (mwhile (w1_sounds)
    (l1_sounds))
    (mdrop (mlmV 4 gAppend (mop1 gSorted (mvar 5))))
noncomputable def p0_sounds : MSt := msetF 3 (mcall true f_heard (mconsA true (mvar 0) (mconsA true (mvar 1) (mconsA true (mvar 2) (mnilA)))))
noncomputable def p1_sounds : MSt := mset 4 (mlst (mnilA))
noncomputable def p2_sounds : MSt := mset 5 ((fun S => .ok (.nw (.dic [])) S))
noncomputable def p3_sounds : MSt := msetF 6 (mc (.int 0))
noncomputable def p4_sounds : MSt := mfor (miR1 (mvar 2)) (tgN 7) l2_sounds
noncomputable def p5_sounds : MSt := mretV 4
noncomputable def b_sounds : MSt := mseq p0_sounds (mseq p1_sounds (mseq p2_sounds (mseq p3_sounds (mseq p4_sounds (p5_sounds)))))
noncomputable def f_sounds : MF := fnM 3 8 b_sounds
noncomputable def ce1_fullest : ME := mop1 gLen (mvar 5)
noncomputable def ce2_fullest : ME := mop1 gLen (mvar 5)
noncomputable def b_fullest : MSt := mseq (msetF 3 (mcall true f_sounds (mconsA true (mvar 0) (mconsA true (mvar 1) (mconsA true (mvar 2) (mnilA))))))
    (mseq (mifS (mnotT (mtru (mvar 3)))
    (mret (mc .none))
    (mnil))
    (mseq (msetF 4 (mop1 (lift1 gMax) (mlc [5] (miL true (mvar 3)) (tgN 5) (myes) (ce2_fullest))))
    (mret (mtup (mconsA true (mvar 4) (mconsA true (mmt "list" gIndex (mlc [5] (miL true (mvar 3)) (tgN 5) (myes) (ce1_fullest)) (mvar 4)) (mnilA)))))))
noncomputable def f_fullest : MF := fnM 3 6 b_fullest
noncomputable def l1_silences : MSt := mseq (mifS (mtru (mvar 5))
    (mct)
    (mnil))
    (mifS (mandT (mtru (mvar 3)) (tobool (mop2 true (lift2 gEq) (mop2 true (lift2 gAdd) (mop2 true (lift2 gIx) (mop2 true (lift2 gIx) (mvar 3) (mop1 (lift1 gNeg) (mc (.int 1)))) (mc (.int 0))) (mop2 true (lift2 gIx) (mop2 true (lift2 gIx) (mvar 3) (mop1 (lift1 gNeg) (mc (.int 1)))) (mc (.int 1)))) (mvar 4))))
    (mlput (mtup (mconsA true (mop2 true (lift2 gIx) (mop2 true (lift2 gIx) (mvar 3) (mop1 (lift1 gNeg) (mc (.int 1)))) (mc (.int 0))) (mconsA true (mop2 true (lift2 gAdd) (mop2 true (lift2 gIx) (mop2 true (lift2 gIx) (mvar 3) (mop1 (lift1 gNeg) (mc (.int 1)))) (mc (.int 1))) (mc (.int 1))) (mnilA)))) (mvar 3) (mop1 (lift1 gNeg) (mc (.int 1))))
    (mdrop (mlmV 3 gAppend (mtup (mconsA true (mvar 4) (mconsA true (mc (.int 1)) (mnilA)))))))
noncomputable def b_silences : MSt := mseq (mset 3 (mlst (mnilA)))
    (mseq (mfor (miE false (mcall true f_sounds (mconsA true (mvar 0) (mconsA true (mvar 1) (mconsA true (mvar 2) (mnilA)))))) (tgT 2 (tgsC (tgN 4) (tgsC (tgN 5) (tgsN)))) l1_silences)
    (mretV 3))
noncomputable def f_silences : MF := fnM 3 6 b_silences
noncomputable def ct1_several : MT := mnotT (mtru (mcall true f_is_setting (mconsA true (mvar 7) (mnilA))))
noncomputable def ce1_several : ME := mvar 7
noncomputable def ce2_several : ME := mtup (mconsA true (mop2 true (lift2 gIx) (mvar 12) (mc (.int 0))) (mconsA true (mvar 4) (mconsA true (mvar 9) (mconsA true (mop2 true (lift2 gIx) (mvar 12) (mc (.int 1))) (mconsA true (mop2 true (lift2 gIx) (mvar 12) (mc (.int 2))) (mnilA))))))
noncomputable def l1_several : MSt := mseq (msetF 6 (mcall true f_heard (mconsA true (mvar 5) (mconsA true (mvar 1) (mconsA true (mvar 2) (mnilA))))))
    (mdrop (mlmV 3 gExtend (mlc [9, 12] (miE true (mvar 6)) (tgT 2 (tgsC (tgN 9) (tgsC (tgN 12) (tgsN)))) (myes) (ce2_several))))
noncomputable def ce3_several : ME := mtup (mconsA true (mvar 8) (mconsA true (mvar 4) (mconsA true (mvar 10) (mconsA true (mvar 11) (mnilA)))))
noncomputable def p0_several : MSt := mifS (morT (mnotT (mtru (misi "list" (mvar 0)))) (mnotT (tobool (mchain (lift2 gLe) (lift2 gLe) (mc (.int 1)) (mop1 gLen (mvar 0)) (mc (.int 4))))))
    (mraise ("NoSetting" : Str))
    (mnil)
noncomputable def p1_several : MSt := mifS (mtru (mlc [7] (miL true (mvar 0)) (tgN 7) (ct1_several) (ce1_several)))
    (mraise ("NoSetting" : Str))
    (mnil)
noncomputable def p2_several : MSt := mset 3 (mlst (mnilA))
noncomputable def p3_several : MSt := mfor (miE false (mvar 0)) (tgT 2 (tgsC (tgN 4) (tgsC (tgN 5) (tgsN)))) l1_several
noncomputable def p4_several : MSt := mret (mlc [8, 4, 9, 10, 11] (miL true (mop1 (lift1 (gSortedT 3)) (mvar 3))) (tgT 5 (tgsC (tgN 8) (tgsC (tgN 4) (tgsC (tgN 9) (tgsC (tgN 10) (tgsC (tgN 11) (tgsN))))))) (myes) (ce3_several))
noncomputable def b_several : MSt := mseq p0_several (mseq p1_several (mseq p2_several (mseq p3_several (p4_several))))
noncomputable def f_several : MF := fnM 3 13 b_several
noncomputable def ct1_law : MT := tobool (mop2 true (lift2 gEq) (msl (mvar 19) (msomeO (mc (.int 1))) (mnoO)) (mtup (mconsA true (mc (.str ("off" : Str))) (mconsA true (mvar 7) (mnilA)))))
noncomputable def ce1_law : ME := mvar 19
noncomputable def l1_law : MSt := mseq (msetF 9 (mop1 gLen (mlc [19] (miL true (mvar 4)) (tgN 19) (ct1_law) (ce1_law))))
    (mifS (morT (tobool (mop2 true (lift2 gNe) (mop2 true (lift2 gSub) (mvar 8) (mvar 9)) (mop1 (lift1 gInt) (mop2 true (lift2 (gInL false)) (mvar 7) (mop2 true (lift2 gIx) (mvar 6) (mop1 (lift1 gNeg) (mc (.int 1)))))))) (tobool (mop2 true (lift2 gLt) (mvar 8) (mc (.int 1)))))
    (mret (mc (.bool false)))
    (mnil))
noncomputable def ct2_law : MT := tobool (mop2 true (lift2 gGe) (mop1 gLen (mvar 19)) (mvar 10))
noncomputable def ce2_law : ME := mvar 19
noncomputable def ct3_law : MT := tobool (mop2 true (lift2 gGt) (mop1 gLen (mvar 19)) (mvar 10))
noncomputable def ce3_law : ME := mvar 19
noncomputable def l2_law : MSt := msetF 13 (mop2 true (lift2 gAdd) (mvar 13) (mLR2 (mvar 14) (mop2 true (lift2 gAdd) (mvar 14) (mvar 15))))
noncomputable def ct4_law : MT := tobool (mop2 true (lift2 gEq) (mvar 19) (mlst (mnilA)))
noncomputable def ce4_law : ME := mvar 20
noncomputable def l3_law : MSt := mifS (tobool (mop2 true (lift2 gGe) (mop2 true (lift2 gAdd) (mop2 true (lift2 gIx) (mvar 16) (mc (.int 0))) (mop2 true (lift2 gIx) (mvar 16) (mc (.int 1)))) (mop2 true (lift2 gIx) (mvar 17) (mc (.int 0)))))
    (mret (mc (.bool false)))
    (mnil)
noncomputable def ce5_law : ME := mtup (mconsA true (mvar 20) (mconsA true (mc (.int 0)) (mconsA true (mvar 21) (mconsA true (mvar 7) (mnilA)))))
noncomputable def p0_law : MSt := msetF 1 (mcall true f_law_setting (mconsA true (mcall true f_law_seed (mconsA true (mcall true f_law_cell (mconsA true (mvar 0) (mconsA true (mc (.int 0)) (mnilA)))) (mconsA true (mc (.int 0)) (mnilA)))) (mnilA)))
noncomputable def p1_law : MSt := msetF 2 (mcall true f_law_deeds (mconsA true (mcall true f_law_seed (mconsA true (mcall true f_law_cell (mconsA true (mvar 0) (mconsA true (mc (.int 1)) (mnilA)))) (mconsA true (mc (.int 1)) (mnilA)))) (mconsA true (mop2 true (lift2 gMod) (mcall true f_law_cell (mconsA true (mvar 0) (mconsA true (mc (.int 2)) (mnilA)))) (mc (.int 20))) (mnilA))))
noncomputable def p2_law : MSt := msetF 3 (mop2 true (lift2 gAdd) (mc (.int 1)) (mop2 true (lift2 gMod) (mcall true f_law_cell (mconsA true (mvar 0) (mconsA true (mc (.int 3)) (mnilA)))) (mc (.int 80))))
noncomputable def p3_law : MSt := msetF 4 (mcall true f_heard (mconsA true (mvar 1) (mconsA true (mop1 (lift1 gList) (mvar 2)) (mconsA true (mvar 3) (mnilA)))))
noncomputable def p4_law : MSt := msetF 5 (mcall true f_how_often (mconsA true (mvar 1) (mconsA true (mop1 (lift1 gList) (mvar 2)) (mconsA true (mvar 3) (mnilA)))))
noncomputable def p5_law : MSt := msetF 6 (mcall true f_sounds (mconsA true (mvar 1) (mconsA true (mop1 (lift1 gList) (mvar 2)) (mconsA true (mvar 3) (mnilA)))))
noncomputable def p6_law : MSt := mfor (miL false (mvar 5)) (tgT 2 (tgsC (tgN 7) (tgsC (tgN 8) (tgsN)))) l1_law
noncomputable def p7_law : MSt := masgT (tgT 2 (tgsC (tgN 10) (tgsC (tgN 11) (tgsN)))) (mcall true f_fullest (mconsA true (mvar 1) (mconsA true (mop1 (lift1 gList) (mvar 2)) (mconsA true (mvar 3) (mnilA)))))
noncomputable def p8_law : MSt := mifS (morT (tobool (mop2 true (lift2 gNe) (mop1 gLen (mop2 true (lift2 gIx) (mvar 6) (mvar 11))) (mvar 10))) (tobool (mop2 true (lift2 gNe) (mlc [19] (miL true (msl (mvar 6) (mnoO) (msomeO (mvar 11)))) (tgN 19) (ct2_law) (ce2_law)) (mlst (mnilA)))))
    (mret (mc (.bool false)))
    (mnil)
noncomputable def p9_law : MSt := mifS (tobool (mop2 true (lift2 gNe) (mlc [19] (miL true (mvar 6)) (tgN 19) (ct3_law) (ce3_law)) (mlst (mnilA))))
    (mret (mc (.bool false)))
    (mnil)
noncomputable def p10_law : MSt := mifS (tobool (mop2 true (lift2 gGt) (mvar 10) (mop1 gLen (mvar 5))))
    (mret (mc (.bool false)))
    (mnil)
noncomputable def p11_law : MSt := msetF 12 (mcall true f_silences (mconsA true (mvar 1) (mconsA true (mop1 (lift1 gList) (mvar 2)) (mconsA true (mvar 3) (mnilA)))))
noncomputable def p12_law : MSt := msetF 13 (mlst (mnilA))
noncomputable def p13_law : MSt := mfor (miL false (mvar 12)) (tgT 2 (tgsC (tgN 14) (tgsC (tgN 15) (tgsN)))) l2_law
noncomputable def p14_law : MSt := mifS (tobool (mop2 true (lift2 gNe) (mvar 13) (mlc [20, 19] (miE true (mvar 6)) (tgT 2 (tgsC (tgN 20) (tgsC (tgN 19) (tgsN)))) (ct4_law) (ce4_law))))
    (mret (mc (.bool false)))
    (mnil)
noncomputable def p15_law : MSt := mfor (miZ (mvar 12) (msl (mvar 12) (msomeO (mc (.int 1))) (mnoO))) (tgT 2 (tgsC (tgN 16) (tgsC (tgN 17) (tgsN)))) l3_law
noncomputable def p16_law : MSt := msetF 18 (mop2 true (lift2 gAdd) (mvar 3) (mop2 true (lift2 gMod) (mcall true f_law_cell (mconsA true (mvar 0) (mconsA true (mc (.int 4)) (mnilA)))) (mc (.int 40))))
noncomputable def p17_law : MSt := mifS (tobool (mop2 true (lift2 gNe) (msl (mcall true f_heard (mconsA true (mvar 1) (mconsA true (mop1 (lift1 gList) (mvar 2)) (mconsA true (mvar 18) (mnilA))))) (mnoO) (msomeO (mop1 gLen (mvar 4)))) (mvar 4)))
    (mret (mc (.bool false)))
    (mnil)
noncomputable def p18_law : MSt := mifS (tobool (mop2 true (lift2 gNe) (msl (mcall true f_sounds (mconsA true (mvar 1) (mconsA true (mop1 (lift1 gList) (mvar 2)) (mconsA true (mvar 18) (mnilA))))) (mnoO) (msomeO (mvar 3))) (mvar 6)))
    (mret (mc (.bool false)))
    (mnil)
noncomputable def p19_law : MSt := mifS (tobool (mop2 true (lift2 gNe) (mcall true f_several (mconsA true (mlst (mconsA true (mvar 1) (mnilA))) (mconsA true (mop1 (lift1 gList) (mvar 2)) (mconsA true (mvar 3) (mnilA))))) (mlc [20, 21, 7] (miL true (mvar 4)) (tgT 3 (tgsC (tgN 20) (tgsC (tgN 21) (tgsC (tgN 7) (tgsN))))) (myes) (ce5_law))))
    (mret (mc (.bool false)))
    (mnil)
noncomputable def p20_law : MSt := mret (mc (.bool true))
noncomputable def b_law : MSt := mseq p0_law (mseq p1_law (mseq p2_law (mseq p3_law (mseq p4_law (mseq p5_law (mseq p6_law (mseq p7_law (mseq p8_law (mseq p9_law (mseq p10_law (mseq p11_law (mseq p12_law (mseq p13_law (mseq p14_law (mseq p15_law (mseq p16_law (mseq p17_law (mseq p18_law (mseq p19_law (p20_law))))))))))))))))))))
noncomputable def f_law : MF := fnM 1 22 b_law
end K19

set_option maxHeartbeats 1000000
namespace K19
open PySem PySem.Spec PyProof.Rows L2 M
theorem ok_orders : ∀ o ∈ ordersS, okD (.str o) = true := by decide +kernel
theorem is_orders {o : Str} (h : o ∈ ordersS) : isOneS (.str o) ordersS = true := by
  simp only [isOneS, List.any_eq_true, beq_iff_eq]
  exact ⟨o, h, rfl⟩
theorem e_within (x : PyData) (lo hi : Int) (h : noDic x = true) : f_is_within [.d x, .d (.int lo), .d (.int hi)] = .ok (.d (.bool (isW x lo hi))) [.d x, .d (.int lo), .d (.int hi)] := by
  cases x with
  | int i =>
    by_cases h1 : lo ≤ i
    · by_cases h2 : i ≤ hi <;> simp [fnM_ap, f_is_within, b_is_within, isW, h1, h2]
    · simp [fnM_ap, f_is_within, b_is_within, isW, h1]
  | dict _ => cases h
  | _ => simp [fnM_ap, f_is_within, b_is_within, isW]
theorem e_one (x : PyData) (ws : List Str) (h : okD x = true) (hw : SeqAt.shaped (.tuple (strL ws)) = true) : f_is_one [.d x, .d (.tuple (strL ws))] = .ok (.d (.bool (isOneS x ws))) [.d x, .d (.tuple (strL ws))] := by
  have hx := okD_noDic h
  cases x with
  | str z =>
    have e : ((strL ws).any fun w => PyData.eqv w (.str z)) = ws.any fun w => w == z := by
      rw [List.any_map]; rfl
    have h : SeqAt.shaped (.str z) = true := h
    simp [fnM_ap, f_is_one, b_is_one, isOneS, gInL, h, hw]
    rfl
  | dict _ => cases hx
  | _ => simp [fnM_ap, f_is_one, b_is_one, isOneS]
theorem sh_orders : SeqAt.shaped (.tuple (strL ordersS)) = true := by decide +kernel
theorem sh_starts : SeqAt.shaped (.tuple (strL startsS)) = true := by decide +kernel
theorem e_oneO (x : PyData) (h : okD x = true) : f_is_one [.d x, .d (.tuple [.str ("up" : Str), .str ("down" : Str), .str ("both" : Str), .str ("bounce" : Str), .str ("in" : Str), .str ("thumb" : Str), .str ("played" : Str)])] = .ok (.d (.bool (isOneS x ordersS))) [.d x, .d (.tuple (strL ordersS))] := e_one x ordersS h sh_orders
theorem e_oneS (x : PyData) (h : okD x = true) : f_is_one [.d x, .d (.tuple [.str ("now" : Str), .str ("grid" : Str)])] = .ok (.d (.bool (isOneS x startsS))) [.d x, .d (.tuple (strL startsS))] := e_one x startsS h sh_starts
theorem e_is_setting (x : PyData) (h : okD x = true) : f_is_setting [.d x] = .ok (.d (.bool (isS x))) [.d x] := by
  have hx := okD_noDic h
  cases x with
  | dict _ => cases hx
  | tuple ds =>
    match ds, h with
    | [o, s, st, g, hd, sta, w], h =>
      have ho := okD_tuple h
      simp only [List.mem_cons, List.not_mem_nil, or_false, forall_eq_or_imp, forall_eq] at ho
      obtain ⟨h1, h2, h3, h4, h5, h6, h7⟩ := ho
      have e5 : gIsi "bool" hd = some (.d (.bool (isB hd))) := by cases hd <;> first | rfl | exact absurd h5 (by simp [okD, SeqAt.shaped, PyData.canLay0])
      have e7 : gIsi "bool" w = some (.d (.bool (isB w))) := by cases w <;> first | rfl | exact absurd h7 (by simp [okD, SeqAt.shaped, PyData.canLay0])
      cases a1 : isOneS o ordersS <;> cases a2 : isW s 1 3 <;> cases a3 : isW st 1 8 <;> cases a4 : isW g 1 16 <;> cases a5 : isB hd <;> cases a6 : isOneS sta startsS <;> simp [fnM_ap, f_is_setting, b_is_setting, isS, e_oneO _ h1, e_oneS _ h6, e_within _ _ _ (okD_noDic h2), e_within _ _ _ (okD_noDic h3), e_within _ _ _ (okD_noDic h4), a1, a2, a3, a4, a5, a6, e5, e7]
    | [], _ => simp [fnM_ap, f_is_setting, b_is_setting, isS]
    | [_], _ => simp [fnM_ap, f_is_setting, b_is_setting, isS]
    | [_, _], _ => simp [fnM_ap, f_is_setting, b_is_setting, isS]
    | [_, _, _], _ => simp [fnM_ap, f_is_setting, b_is_setting, isS]
    | [_, _, _, _], _ => simp [fnM_ap, f_is_setting, b_is_setting, isS]
    | [_, _, _, _, _], _ => simp [fnM_ap, f_is_setting, b_is_setting, isS]
    | [_, _, _, _, _, _], _ => simp [fnM_ap, f_is_setting, b_is_setting, isS]
    | a :: b :: c :: d :: e :: f :: g :: i :: r, _ =>
      have : ¬ ((r.length : Int) + 1 + 1 + 1 + 1 + 1 + 1 + 1 + 1 = 7) := by omega
      simp [fnM_ap, f_is_setting, b_is_setting, isS, this]
  | _ => simp [fnM_ap, f_is_setting, b_is_setting, isS]
theorem e_cell (ns : List Int) (k : Int) (h0 : 0 ≤ k) (hl : ns.length ≤ 63) : f_law_cell [.d (intL ns), .d (.int k)] = .ok (.d (.int (cell ns k))) [.d (intL ns), .d (.int k)] := by
  by_cases h : k < ns.length
  · have h2 : k.toNat < ns.length := by omega
    simp [fnM_ap, f_law_cell, b_law_cell, cell, h, h0, List.getD_eq_getElem?_getD, List.getElem?_eq_getElem h2]
  · have h2 : ns.length ≤ k.toNat := by omega
    simp [fnM_ap, f_law_cell, b_law_cell, cell, h, List.getD_eq_getElem?_getD, List.getElem?_eq_none h2]
theorem e_seed (s k : Int) : f_law_seed [.d (.int s), .d (.int k)] = .ok (.d (.int (seedZ s k))) [.d (.int s), .d (.int k)] := by
  have h3 : ((s * 1103515245 + 7919 * k + 12345) % 2147483647).natAbs < 18446744073709551616 := by omega
  simp [fnM_ap, f_law_seed, b_law_seed, seedZ, h3]
theorem e_pick (s m : Int) (hm : 0 < m) : f_law_pick [.d (.int s), .d (.int m)] = .ok (.d (.int (pickZ s m))) [.d (.int s), .d (.int m)] := by
  simp [fnM_ap, f_law_pick, b_law_pick, pickZ, hm]
theorem isi_str {x : PyData} (h : okD x = true) : gIsi "str" x = some (.d (.bool (match x with | .str _ => true | _ => false))) := by
  cases x with
  | dict _ => simp [okD, SeqAt.shaped, PyData.canLay0] at h
  | _ => rfl
theorem in_of {ws : List Str} (hw : SeqAt.shaped (.tuple (strL ws)) = true) (neg : Bool) {z : Str} (h : okD (.str z) = true) : gInL neg (.str z) (.tuple (strL ws)) = some (.d (.bool (xor neg (isOneS (.str z) ws)))) := by
  have e : ((strL ws).any fun w => PyData.eqv w (.str z)) = ws.any fun w => w == z := by
    rw [List.any_map]; rfl
  have h : SeqAt.shaped (.str z) = true := h
  unfold gInL
  simp only [h, hw, Bool.and_self, if_true, e, isOneS]
theorem e_look_ok (x : PyData) (h : okD x = true) (hs : isS x = true) : f_look [.d x] = .ok (.d .none) [.d x] := by
  simp [fnM_ap, f_look, b_look, e_is_setting x h, hs]
theorem e_look_no (x : PyData) (h : okD x = true) (hs : isS x = false) : f_look [.d x] = .exc "NoSetting" [.d x] := by
  simp [fnM_ap, f_look, b_look, e_is_setting x h, hs]
theorem e_is_key (x : PyData) (h : noDic x = true) : f_is_key [.d x] = .ok (.d (.bool (isW x 0 35))) [.d x] := by
  simp [fnM_ap, f_is_key, b_is_key, e_within x 0 35 h]
/-! a setting drawn -/
def startsAt (i : Int) : Str := startsS.getD i.toNat "now"
def ordersAt (i : Int) : Str := ordersS.getD i.toNat "up"
theorem ix_orders {i : Int} (h0 : 0 ≤ i) (h1 : i < 7) : gIx (.list [.str ("up" : Str), .str ("down" : Str), .str ("both" : Str), .str ("bounce" : Str), .str ("in" : Str), .str ("thumb" : Str), .str ("played" : Str)]) (.int i) = some (.d (.str (ordersAt i))) := by
  have : i = 0 ∨ i = 1 ∨ i = 2 ∨ i = 3 ∨ i = 4 ∨ i = 5 ∨ i = 6 := by omega
  rcases this with e | e | e | e | e | e | e <;> subst e <;> rfl
theorem ix_starts {i : Int} (h0 : 0 ≤ i) (h1 : i < 2) : gIx (.list [.str ("now" : Str), .str ("grid" : Str)]) (.int i) = some (.d (.str (startsAt i))) := by
  have : i = 0 ∨ i = 1 := by omega
  rcases this with e | e <;> subst e <;> rfl
theorem orders_in (i : Int) : ordersAt i ∈ ordersS := by
  unfold ordersAt
  by_cases h : i.toNat < ordersS.length
  · rw [List.getD_eq_getElem?_getD, List.getElem?_eq_getElem h]; exact List.getElem_mem h
  · rw [List.getD_eq_getElem?_getD, List.getElem?_eq_none (by omega)]; decide +kernel
theorem starts_in (i : Int) : startsAt i ∈ startsS := by
  unfold startsAt
  by_cases h : i.toNat < startsS.length
  · rw [List.getD_eq_getElem?_getD, List.getElem?_eq_getElem h]; exact List.getElem_mem h
  · rw [List.getD_eq_getElem?_getD, List.getElem?_eq_none (by omega)]; decide +kernel
def stepZ (s : Int) : Int := if s / 5 % 2 = 0 then 8 else 3
theorem ix_step (s : Int) : gIx (.list [.int 8, .int 3]) (.int (s / 5 % 2)) = some (.d (.int (stepZ s))) := by
  have : s / 5 % 2 = 0 ∨ s / 5 % 2 = 1 := by omega
  unfold stepZ
  rcases this with e | e <;> rw [e] <;> rfl
theorem step_lo (s : Int) : 0 < stepZ s := by unfold stepZ; split <;> decide
theorem step_hi (s : Int) : stepZ s ≤ 8 := by unfold stepZ; split <;> decide
def setZ (s : Int) : List PyData := [.str (ordersAt (pickZ (seedZ s 1) 7)), .int (1 + s / 7 % 3), .int (1 + pickZ (seedZ s 2) (stepZ s)), .int (1 + pickZ (seedZ s 3) 16), .bool (decide (pickZ (seedZ s 4) 3 = 0)), .str (startsAt (pickZ (seedZ s 5) 2)), .bool (decide (pickZ (seedZ s 6) 3 = 0))]
theorem e_law_setting (s : Int) : f_law_setting [.d (.int s)] = .ok (.d (.tuple (setZ s))) [.d (.int s)] := by
  have o1 := ix_orders (i := pickZ (seedZ s 1) 7) (pick_lo (by decide)) (pick_hi (by decide))
  have o2 := ix_starts (i := pickZ (seedZ s 5) 2) (pick_lo (by decide)) (pick_hi (by decide))
  simp [fnM_ap, f_law_setting, b_law_setting, e_seed, e_pick, step_lo, ix_step, o1, o2, setZ]
def okE (d : PyData) : Bool := d.canLay0 && decide (d.depth ≤ 1)
theorem okE_all : ∀ {ds : List PyData}, (∀ d ∈ ds, okE d = true) → PyData.canLayAll0 ds = true ∧ PyData.depthAll ds ≤ 1
  | [], _ => ⟨rfl, by simp [PyData.depthAll]⟩
  | x :: r, h => by
    have h1 := h x List.mem_cons_self
    have h2 := okE_all (ds := r) fun d hd => h d (List.mem_cons_of_mem _ hd)
    unfold okE at h1
    simp only [Bool.and_eq_true, decide_eq_true_eq] at h1
    exact ⟨by simp only [PyData.canLayAll0, Bool.and_eq_true]; exact ⟨h1.1, h2.1⟩, by simp only [PyData.depthAll]; omega⟩
theorem okE_tuple {ds : List PyData} (h : ∀ d ∈ ds, okE d = true) : okD (.tuple ds) = true := by
  obtain ⟨h1, h2⟩ := okE_all h
  unfold okD SeqAt.shaped
  simp only [Bool.and_eq_true, decide_eq_true_eq]
  exact ⟨by simpa [PyData.canLay0] using h1, by simp only [PyData.depth]; omega⟩
theorem okE_list {ds : List PyData} (h : ∀ d ∈ ds, okE d = true) : okD (.list ds) = true := by
  obtain ⟨h1, h2⟩ := okE_all h
  unfold okD SeqAt.shaped
  simp only [Bool.and_eq_true, decide_eq_true_eq]
  exact ⟨by simpa [PyData.canLay0] using h1, by simp only [PyData.depth]; omega⟩
theorem okE_orders : ∀ o ∈ ordersS, okE (.str o) = true := by decide +kernel
theorem okE_starts : ∀ o ∈ startsS, okE (.str o) = true := by decide +kernel
theorem okE_int (i : Int) : okE (.int i) = true := by simp [okE, PyData.canLay0, PyData.depth]
theorem okE_bool (i : Bool) : okE (.bool i) = true := by simp [okE, PyData.canLay0, PyData.depth]
theorem okE_set (s : Int) : ∀ d ∈ setZ s, okE d = true := by
  intro d hd
  simp only [setZ, List.mem_cons, List.not_mem_nil, or_false] at hd
  rcases hd with e | e | e | e | e | e | e <;> subst e
  · exact okE_orders _ (orders_in _)
  · exact okE_int _
  · exact okE_int _
  · exact okE_int _
  · exact okE_bool _
  · exact okE_starts _ (starts_in _)
  · exact okE_bool _
theorem isS_set (s : Int) : isS (.tuple (setZ s)) = true := by
  have a1 := is_orders (orders_in (pickZ (seedZ s 1) 7))
  have a2 : isOneS (.str (startsAt (pickZ (seedZ s 5) 2))) startsS = true := by
    simp only [isOneS, List.any_eq_true, beq_iff_eq]
    exact ⟨_, starts_in _, rfl⟩
  have b1 := pick_lo (s := seedZ s 2) (step_lo s)
  have b2 := pick_hi (s := seedZ s 2) (step_lo s)
  have b3 := step_hi s
  have c1 := pick_lo (s := seedZ s 3) (show (0 : Int) < 16 by decide)
  have c2 := pick_hi (s := seedZ s 3) (show (0 : Int) < 16 by decide)
  simp only [isS, setZ, a1, a2, isW, isB, Bool.and_true, Bool.true_and, Bool.and_eq_true, decide_eq_true_eq]
  refine ⟨⟨⟨by omega, by omega⟩, ⟨by omega, by omega⟩⟩, ⟨by omega, by omega⟩⟩
end K19

set_option maxHeartbeats 1000000
namespace K19
open PySem PySem.Spec PyProof.Rows L2 M
theorem inw_loop (k0 : Option MV) : ∀ (n : Nat) (l found : List PyData), l.length ≤ n → found.length + l.length < 1000000 →
    whileF (mtru (mvar 2)) (mseq (mdrop (mlmV 1 gAppend (mlmV 2 gPopAt (mc (.int 0))))) (mifS (mtru (mvar 2)) (mdrop (mlmV 1 gAppend (mlm0 gPop (mvar 2)))) mnil)) (n + 1) [k0, some (.lst found), some (.lst l)] = .nx [k0, some (.lst (found ++ inw l)), some (.lst [])]
  | 0, l, found, h, hf => by
    have : l = [] := List.eq_nil_of_length_eq_zero (by omega)
    subst this
    simp [whileF, inw_nil]
  | n + 1, l, found, h, hf => by
    rcases ends3 l with e | ⟨a, e⟩ | ⟨a, m, z, e⟩
    · subst e; simp [whileF, inw_nil]
    · subst e
      have hf1 : found.length < 16777216 := by simp at hf; omega
      unfold whileF
      simp [gPopAt, seqIndex?, hf1]
      rw [inw_loop k0 n [] (found ++ [a]) (by simp) (by simp at hf ⊢; omega)]
      simp [inw_nil, inw_one]
    · subst e
      have hf1 : found.length < 16777216 := by simp at hf; omega
      have hf2 : found.length + 1 < 16777216 := by simp at hf; omega
      have e0 : seqIndex? 0 (m.length + 1 + 1) = some 0 := by
        unfold seqIndex?
        simp
        omega
      have e1 : gPopAt (a :: (m ++ [z])) (.int 0) = some (m ++ [z], a) := by
        simp [gPopAt, e0]
      have e2 : gPop (m ++ [z]) = some (m, z) := by
        simp [gPop]
      unfold whileF
      simp [e1, e2, hf1, hf2]
      rw [inw_loop k0 n m (found ++ [a, z]) (by simp at h; omega) (by simp at hf ⊢; omega)]
      simp [inw_two]
theorem e_inward (ns : List Int) (h : ns.length < 1000) : f_inward [.d (intL ns)] = .ok (.nw (.lst ((inw ns).map PyData.int))) [.d (intL ns)] := by
  have hw := inw_loop (some (.d (intL ns))) ns.length (ns.map PyData.int) [] (by simp) (by simp; omega)
  have hw2 := mwhile_eq (n := ns.length + 1) (by rw [hw]; exact fun e => nomatch e)
  rw [hw] at hw2
  simp only [List.nil_append, inw_map PyData.int _ ns (Nat.le_refl _)] at hw2
  simp [fnM_ap, f_inward, b_inward, hw2]
theorem ints_eq (ns : List Int) : ns.map PyData.int = ns.map PyData.int := rfl
theorem cut_ints (ns : List Int) (lo hi : Option Int) : M.cutD (ns.map PyData.int) lo hi = ((ns.drop (HT.sIx ns.length 0 lo)).take (HT.sIx ns.length ns.length hi - HT.sIx ns.length 0 lo)).map PyData.int := by
  unfold M.cutD
  simp only [List.length_map, List.map_take, List.map_drop]
theorem cut_tail (ns : List Int) : M.cutD (ns.map PyData.int) (some 1) none = (ns.drop 1).map PyData.int := by
  rw [cut_ints]
  congr 1
  simp only [HT.sIx]
  by_cases h : ns.length = 0
  · have : ns = [] := List.eq_nil_of_length_eq_zero h
    subst this; rfl
  · have e : min (Int.toNat 1) ns.length = 1 := by simp; omega
    simp only [show ¬ ((1 : Int) < 0) by decide, if_false, e]
    exact List.take_of_length_le (by simp)
theorem cut_mid (ns : List Int) (h : 1 < ns.length) : M.cutD (ns.map PyData.int) (some 1) (some (-1)) = (midZ ns).map PyData.int := by
  rw [cut_ints]
  congr 1
  unfold midZ
  have e : min (Int.toNat 1) ns.length = 1 := by simp; omega
  simp only [HT.sIx, show ¬ ((1 : Int) < 0) by decide, if_false, e, show ((-1 : Int) < 0) by decide, if_true]
  congr 1
  omega
theorem thumb_loop (a : Int) (r : List Int) (s0 s1 : Option MV) (hr : r.getD 0 0 = a) (h0 : 0 < r.length) : ∀ (t : List Int) (acc : List Int) (s4 : Option MV), acc.length + 2 * t.length < 1000000 →
    ∃ s4', loopM (tgN 4) (mdrop (mlmV 3 gExtend (mlst (mconsA true (mop2 true (lift2 gIx) (mvar 2) (mc (.int 0))) (mconsA true (mvar 4) mnilA))))) (t.map PyData.int) [s0, s1, some (.d (intL r)), some (.lst (acc.map PyData.int)), s4] = .nx [s0, s1, some (.d (intL r)), some (.lst ((acc ++ thumbT a t).map PyData.int)), s4']
  | [], acc, s4, _ => ⟨s4, by simp [loopM, thumbT]⟩
  | b :: t, acc, s4, h => by
    have h1 : acc.length + 2 ≤ 16777216 := by simp at h; omega
    have hz : ((0 : Nat) : Int) < (r.length : Int) := by omega
    have e0 : gIx (intL r) (.int 0) = some (.d (.int a)) := by
      rw [ix_nat (by decide) (by simp; omega)]
      rw [← hr]
      cases r with
      | nil => simp at h0
      | cons x y => rfl
    obtain ⟨s4', e⟩ := thumb_loop a r s0 s1 hr h0 t (acc ++ [a, b]) (some (.d (.int b))) (by simp at h ⊢; omega)
    refine ⟨s4', ?_⟩
    have e : _ = _ := e
    simp only [List.map_append, List.map_cons, List.map_nil, List.append_assoc] at e
    simp [loopM, e0, h1, e, thumbT]
theorem e_in_order (o : Str) (ns : List Int) (h : ns.length < 1000) : ∃ r, f_in_order [.d (.str o), .d (intL ns)] = .ok r [.d (.str o), .d (intL ns)] ∧ (r = .nw (.lst ((inOrderZ o ns).map PyData.int)) ∨ r = .d (intL (inOrderZ o ns))) := by
  by_cases h1 : o = "played"
  · simp [fnM_ap, f_in_order, b_in_order, inOrderZ, eq_true h1]
  · by_cases h2 : o = "in"
    · simp [fnM_ap, f_in_order, b_in_order, inOrderZ, h1, eq_true h2, e_inward (srt ns) (by rw [srt_len]; exact h)]
    · by_cases h3 : o = "thumb"
      · by_cases h4 : 1 < ns.length
        · have h5 : (1 : Int) < ns.length := by omega
          obtain ⟨s4', e⟩ := thumb_loop ((srt ns).getD 0 0) (srt ns) (some (.d (.str o))) (some (.d (intL ns))) rfl (by rw [srt_len]; omega) ((srt ns).drop 1) [] none (by simp [srt_len]; omega)
          simp only [List.map_nil, List.nil_append] at e
          simp [fnM_ap, f_in_order, b_in_order, inOrderZ, h1, h2, eq_true h3, h4, h5, srt_len, cut_tail, -List.drop_one, -List.map_drop, -List.getD_eq_getElem?_getD, e]
        · have h5 : ¬ (1 : Int) < ns.length := by omega
          simp [fnM_ap, f_in_order, b_in_order, inOrderZ, h1, h2, eq_true h3, h4, h5, srt_len]
      · simp [fnM_ap, f_in_order, b_in_order, inOrderZ, h1, h2, h3]
def IsL (r : RV) (ns : List Int) : Prop := r = .nw (.lst (ns.map PyData.int)) ∨ r = .d (intL ns)
def spanF (s : Int) : PyData → PyData
  | .int k => .int (k + 12 * s)
  | d => d
theorem spanF_map (s : Int) (one : List Int) : (one.map PyData.int).map (spanF s) = (one.map fun k => k + 12 * s).map PyData.int := by
  simp [spanF]
theorem told_loop (s0 s1 s2 s6 : Option MV) (one : List Int) : ∀ (l : List Nat) (acc : List Int) (s5 : Option MV), acc.length + l.length * one.length < 1000000 → one.length < 1000 →
    ∃ s5', loopM (tgN 5) (mdrop (mlmV 4 gExtend (mlc [6] (miL true (mvar 3)) (tgN 6) myes (mop2 true (lift2 gAdd) (mvar 6) (mop2 true gMulR (mc (.int 12)) (mvar 5)))))) (l.map fun (i : Nat) => .int (i : Int)) [s0, s1, s2, some (.d (intL one)), some (.lst (acc.map PyData.int)), s5, s6] =
      .nx [s0, s1, s2, some (.d (intL one)), some (.lst ((acc ++ l.flatMap fun (s : Nat) => one.map fun k => k + 12 * (s : Int)).map PyData.int)), s5', s6]
  | [], acc, s5, _, _ => ⟨s5, by simp⟩
  | a :: l, acc, s5, h, ho => by
    have h1 : acc.length + one.length ≤ 16777216 := by simp [Nat.add_mul] at h; omega
    have h2 : one.length < 16777216 := by omega
    obtain ⟨s5', e⟩ := told_loop s0 s1 s2 s6 one l (acc ++ one.map fun k => k + 12 * (a : Int)) (some (.d (.int a))) (by simp [Nat.add_mul] at h ⊢; omega) ho
    refine ⟨s5', ?_⟩
    have e1 : lcL (tgN 6) myes (mop2 true (lift2 gAdd) (mvar 6) (mop2 true gMulR (mc (.int 12)) (mvar 5))) (wipeS [s0, s1, s2, some (.d (intL one)), some (.lst (acc.map PyData.int)), some (.d (.int a)), s6] [6]) (one.map PyData.int) = some ((one.map fun k => k + 12 * (a : Int)).map PyData.int) := by
      rw [lcL_all (spanF a), spanF_map]
      intro d hd
      obtain ⟨n, hn, rfl⟩ := List.mem_map.mp hd
      exact ⟨.d (.int (n + 12 * a)), [s0, s1, s2, some (.d (intL one)), some (.lst (acc.map PyData.int)), some (.d (.int a)), some (.d (.int n))], by simp [wipeS], rfl⟩
    simp only [List.map_append] at e
    simp only [List.map_cons, List.flatMap_cons, List.map_append]
    rw [loopM_cons (S1 := [s0, s1, s2, some (.d (intL one)), some (.lst (acc.map PyData.int)), some (.d (.int a)), s6]) (by simp)]
    simp only [List.append_assoc] at e
    simp [e1, h2, lcR, h1, e, -List.map_map]
theorem foundZ_len (one : List Int) : ∀ n, (foundZ one n).length = n * one.length
  | 0 => by simp [foundZ]
  | n + 1 => by rw [foundZ_succ, List.length_append, foundZ_len one n, List.length_map, Nat.add_mul, Nat.one_mul]
theorem inOrder_len (o : Str) (ns : List Int) : (inOrderZ o ns).length ≤ 2 * ns.length := by
  unfold inOrderZ
  split
  · omega
  · split
    · rw [(inw_perm _ _ (Nat.le_refl _)).length_eq, srt_len]; omega
    · split
      · rw [show (thumbT ((srt ns).getD 0 0) ((srt ns).drop 1)).length = 2 * ((srt ns).drop 1).length by
          unfold thumbT
          generalize (srt ns).drop 1 = t
          induction t with
          | nil => rfl
          | cons b t ih => simp at ih ⊢; omega]
        simp [srt_len]; omega
      · rw [srt_len]; omega
theorem rng_nat (n : Nat) : rngD 0 1 n = (List.range n).map fun (i : Nat) => .int (i : Int) := by
  unfold rngD
  apply List.map_congr_left
  intro i _
  simp
theorem told_all (o : Str) (n : Int) (ns : List Int) (one : List Int) (h : one.length < 1000) (hn : n ≤ 3) (hn0 : 0 ≤ n) : ∃ s5', loopM (tgN 5) (mdrop (mlmV 4 gExtend (mlc [6] (miL true (mvar 3)) (tgN 6) myes (mop2 true (lift2 gAdd) (mvar 6) (mop2 true gMulR (mc (.int 12)) (mvar 5)))))) (rngD 0 1 n.toNat) [some (.d (.str o)), some (.d (.int n)), some (.d (intL ns)), some (.d (intL one)), some (.lst []), none, none] = .nx [some (.d (.str o)), some (.d (.int n)), some (.d (intL ns)), some (.d (intL one)), some (.lst ((foundZ one n.toNat).map PyData.int)), s5', none] := by
  have hb : n.toNat * one.length ≤ 3 * one.length := Nat.mul_le_mul (by omega) (Nat.le_refl _)
  obtain ⟨s5', el⟩ := told_loop (some (.d (.str o))) (some (.d (.int n))) (some (.d (intL ns))) none one (List.range n.toNat) [] none (by rw [List.length_range, List.length_nil]; omega) h
  refine ⟨s5', ?_⟩
  rw [rng_nat]
  rw [List.nil_append] at el
  exact el
section
variable {o : Str} {n : Int} {ns : List Int} {r : RV} {s5' : Option MV} {one f : List Int}
theorem told_run (e : f_in_order [.d (.str o), .d (intL ns)] = .ok r [.d (.str o), .d (intL ns)]) (hk : r.keepF = some (.d (intL one))) (hr1 : -1000000000 ≤ n) (hr2 : n ≤ 1000000000)
    (el : loopM (tgN 5) (mdrop (mlmV 4 gExtend (mlc [6] (miL true (mvar 3)) (tgN 6) myes (mop2 true (lift2 gAdd) (mvar 6) (mop2 true gMulR (mc (.int 12)) (mvar 5)))))) (rngD 0 1 n.toNat) [some (.d (.str o)), some (.d (.int n)), some (.d (intL ns)), some (.d (intL one)), some (.lst []), none, none] = .nx [some (.d (.str o)), some (.d (.int n)), some (.d (intL ns)), some (.d (intL one)), some (.lst (f.map PyData.int)), s5', none])
    (h3 : f.length < 1000) : f_round_told [.d (.str o), .d (.int n), .d (intL ns)] = .ok (.nw (.lst ((if o = "down" then f.reverse else if o = "both" ∧ 1 < f.length then f ++ (midZ f).reverse else if o = "bounce" then f ++ f.reverse else f).map PyData.int))) [.d (.str o), .d (.int n), .d (intL ns)] := by
  have i1 : f.length + f.length ≤ 16777216 := by omega
  by_cases h1 : o = "down"
  · simp [fnM_ap, f_round_told, b_round_told, e, hk, hr1, hr2, el, eq_true h1]
  · by_cases h2 : o = "both"
    · by_cases h3 : 1 < f.length
      · have h4 : (1 : Int) < f.length := by omega
        have h6 : (midZ f).length ≤ f.length := by unfold midZ; simp; omega
        have i2 : f.length + (midZ f).length ≤ 16777216 := by omega
        simp [fnM_ap, f_round_told, b_round_told, e, hk, hr1, hr2, el, h1, eq_true h2, h4, h3, cut_mid _ h3, i2]
      · have h4 : ¬ (1 : Int) < f.length := by omega
        have h7 : ¬ o = "bounce" := by rw [h2]; decide
        simp [fnM_ap, f_round_told, b_round_told, e, hk, hr1, hr2, el, h1, h4, h3, h7]
    · by_cases h3 : o = "bounce"
      · simp [fnM_ap, f_round_told, b_round_told, e, hk, hr1, hr2, el, h1, h2, eq_true h3, i1]
      · simp [fnM_ap, f_round_told, b_round_told, e, hk, hr1, hr2, el, h1, h2, h3]
end
theorem e_round_told (o : Str) (n : Int) (ns : List Int) (h : ns.length < 100) (hn : n ≤ 3) (hn0 : 0 ≤ n) : f_round_told [.d (.str o), .d (.int n), .d (intL ns)] = .ok (.nw (.lst ((roundZ o n.toNat ns).map PyData.int))) [.d (.str o), .d (.int n), .d (intL ns)] := by
  obtain ⟨r, e, hr⟩ := e_in_order o ns (by omega)
  have il := inOrder_len o ns
  have hb : n.toNat * (inOrderZ o ns).length ≤ 3 * (inOrderZ o ns).length := Nat.mul_le_mul (by omega) (Nat.le_refl _)
  have fl := foundZ_len (inOrderZ o ns) n.toNat
  have hk : r.keepF = some (.d (intL (inOrderZ o ns))) := by rcases hr with hr | hr <;> subst hr <;> rfl
  obtain ⟨s5', el⟩ := told_all o n ns (inOrderZ o ns) (by omega) hn hn0
  exact told_run e hk (by omega) (by omega) el (by omega)
end K19

set_option maxHeartbeats 1000000
namespace K19
open PySem PySem.Spec PyProof.Rows L2 M
/-! a player's object -/
structure Set7 where
  order : Str
  spans : Int
  step : Int
  gate : Int
  hold : Bool
  start : Str
  wait : Bool
def setD (s : Set7) : PyData := .tuple [.str s.order, .int s.spans, .int s.step, .int s.gate, .bool s.hold, .str s.start, .bool s.wait]
section
variable (s : Set7)
theorem sx0 : gIx (setD s) (.int 0) = some (.d (.str s.order)) := Eq.trans rfl rfl
theorem sx1 : gIx (setD s) (.int 1) = some (.d (.int s.spans)) := Eq.trans rfl rfl
theorem sx2 : gIx (setD s) (.int 2) = some (.d (.int s.step)) := Eq.trans rfl rfl
theorem sx3 : gIx (setD s) (.int 3) = some (.d (.int s.gate)) := Eq.trans rfl rfl
theorem sx4 : gIx (setD s) (.int 4) = some (.d (.bool s.hold)) := Eq.trans rfl rfl
theorem sx5 : gIx (setD s) (.int 5) = some (.d (.str s.start)) := Eq.trans rfl rfl
theorem sx6 : gIx (setD s) (.int 6) = some (.d (.bool s.wait)) := Eq.trans rfl rfl
end
structure OkSet (s : Set7) : Prop where
  o : s.order ∈ ordersS
  s1 : 1 ≤ s.spans
  s2 : s.spans ≤ 3
  t1 : 1 ≤ s.step
  t2 : s.step ≤ 8
  g1 : 1 ≤ s.gate
  g2 : s.gate ≤ 16
  b : s.start ∈ startsS
theorem okD_set {s : Set7} (h : OkSet s) : okD (setD s) = true := by
  refine okE_tuple fun d hd => ?_
  simp only [List.mem_cons, List.not_mem_nil, or_false] at hd
  rcases hd with e | e | e | e | e | e | e <;> subst e
  · exact okE_orders _ h.o
  · exact okE_int _
  · exact okE_int _
  · exact okE_int _
  · exact okE_bool _
  · exact okE_starts _ h.b
  · exact okE_bool _
theorem isS_ok {s : Set7} (h : OkSet s) : isS (setD s) = true := by
  have a1 := is_orders h.o
  have a2 : isOneS (.str s.start) startsS = true := by
    simp only [isOneS, List.any_eq_true, beq_iff_eq]
    exact ⟨_, h.b, rfl⟩
  simp only [isS, setD, a1, a2, isW, isB, Bool.and_true, Bool.true_and, Bool.and_eq_true, decide_eq_true_eq]
  exact ⟨⟨⟨h.s1, h.s2⟩, ⟨h.t1, h.t2⟩⟩, ⟨h.g1, h.g2⟩⟩
def dueD : Option Int → PyData
  | some d => .int d
  | none => .none
theorem dueD_some (d : Int) : dueD (some d) = .int d := rfl
theorem dueD_none : dueD none = .none := rfl
theorem dueD_isN (d : Option Int) : isN (dueD d) = decide (d = none) := by cases d <;> rfl
theorem kvI_nil : kvI [] = [] := rfl
def pfl (se dn so nw du co ro en : MV) : List (Str × MV) := [("setting", se), ("down", dn), ("some", so), ("now", nw), ("due", du), ("count", co), ("row", ro), ("ends", en)]
section
variable {se dn so nw du co ro en n t : MV}
theorem px_setting : fIx "setting" 0 (pfl se dn so nw du co ro en) = some (0, se) := rfl
theorem px_down : fIx "down" 0 (pfl se dn so nw du co ro en) = some (1, dn) := rfl
theorem px_some : fIx "some" 0 (pfl se dn so nw du co ro en) = some (2, so) := rfl
theorem px_now : fIx "now" 0 (pfl se dn so nw du co ro en) = some (3, nw) := rfl
theorem px_due : fIx "due" 0 (pfl se dn so nw du co ro en) = some (4, du) := rfl
theorem px_count : fIx "count" 0 (pfl se dn so nw du co ro en) = some (5, co) := rfl
theorem px_row : fIx "row" 0 (pfl se dn so nw du co ro en) = some (6, ro) := rfl
theorem px_ends : fIx "ends" 0 (pfl se dn so nw du co ro en) = some (7, en) := rfl
theorem pp_setting : putT "setting" t (pfl se dn so nw du co ro en) = pfl t dn so nw du co ro en := rfl
theorem pp_down : putT "down" t (pfl se dn so nw du co ro en) = pfl se t so nw du co ro en := rfl
theorem pp_some : putT "some" t (pfl se dn so nw du co ro en) = pfl se dn t nw du co ro en := rfl
theorem pp_now : putT "now" t (pfl se dn so nw du co ro en) = pfl se dn so t du co ro en := rfl
theorem pp_due : putT "due" t (pfl se dn so nw du co ro en) = pfl se dn so nw t co ro en := rfl
theorem pp_count : putT "count" t (pfl se dn so nw du co ro en) = pfl se dn so nw du t ro en := rfl
theorem pp_row : putT "row" t (pfl se dn so nw du co ro en) = pfl se dn so nw du co t en := rfl
theorem pp_ends : putT "ends" t (pfl se dn so nw du co ro en) = pfl se dn so nw du co ro t := rfl
theorem p_len : (pfl se dn so nw du co ro en).length = 8 := rfl
theorem pu_down {c : Str} : updT [1] n (.obj c (pfl se dn so nw du co ro en)) = .obj c (pfl se n so nw du co ro en) := rfl
theorem pu_some {c : Str} : updT [2] n (.obj c (pfl se dn so nw du co ro en)) = .obj c (pfl se dn n nw du co ro en) := rfl
theorem pu_ends {c : Str} : updT [7] n (.obj c (pfl se dn so nw du co ro en)) = .obj c (pfl se dn so nw du co ro n) := rfl
theorem isO_rest : isObj "Player" "rest" (some (some (.obj "Player" (pfl se dn so nw du co ro en)))) = true := rfl
theorem isO_grid : isObj "Player" "grid" (some (some (.obj "Player" (pfl se dn so nw du co ro en)))) = true := rfl
theorem isO_sounding : isObj "Player" "sounding" (some (some (.obj "Player" (pfl se dn so nw du co ro en)))) = true := rfl
theorem isO_step : isObj "Player" "step" (some (some (.obj "Player" (pfl se dn so nw du co ro en)))) = true := rfl
theorem isO_tick : isObj "Player" "tick" (some (some (.obj "Player" (pfl se dn so nw du co ro en)))) = true := rfl
theorem isO_stop : isObj "Player" "stop" (some (some (.obj "Player" (pfl se dn so nw du co ro en)))) = true := rfl
theorem isO_change : isObj "Player" "change" (some (some (.obj "Player" (pfl se dn so nw du co ro en)))) = true := rfl
theorem isO_press : isObj "Player" "press" (some (some (.obj "Player" (pfl se dn so nw du co ro en)))) = true := rfl
theorem isO_leave : isObj "Player" "leave" (some (some (.obj "Player" (pfl se dn so nw du co ro en)))) = true := rfl
theorem isO_held : isObj "Player" "held" (some (some (.obj "Player" (pfl se dn so nw du co ro en)))) = true := rfl
theorem isO_chord : isObj "Player" "chord" (some (some (.obj "Player" (pfl se dn so nw du co ro en)))) = true := rfl
theorem isO_moment : isObj "Player" "moment" (some (some (.obj "Player" (pfl se dn so nw du co ro en)))) = true := rfl
end
abbrev pob (se : Set7) (dn so : List Int) (nw : Int) (du : Option Int) (co : Int) (ro : List Int) (en : DI) : MV := .obj "Player" (pfl (.d (setD se)) (.lst (dn.map PyData.int)) (.lst (so.map PyData.int)) (.d (.int nw)) (.d (dueD du)) (.d (.int co)) (.d (.list (ro.map PyData.int))) (.dic (kvI en)))
structure PA where
  se : Set7
  down : List Int
  som : List Int
  now : Int
  due : Option Int
  count : Int
  row : List Int
  ends : DI
abbrev mvP (a : PA) : MV := pob a.se a.down a.som a.now a.due a.count a.row a.ends
/-! what each deed makes of a player -/
def restA (a : PA) : PA := { a with due := if a.som = [] then none else a.due, count := if a.som = [] then 0 else a.count }
def gridZ (a : PA) : Int := (a.now + a.se.step - 1) / a.se.step * a.se.step
def pressA (a : PA) (k : Int) : PA :=
  let so := if a.se.hold = true ∧ a.down = [] then [] else a.som
  { a with down := a.down ++ [k], som := if k ∈ so then so else so ++ [k], count := if a.se.hold = true ∧ a.down = [] then 0 else a.count }
def leaveA (a : PA) (k : Int) : PA := restA { a with down := a.down.erase k, som := if a.se.hold = true then a.som else a.som.filter fun x => decide (x ≠ k) }
def changeA (a : PA) (s : Set7) : PA :=
  let b : PA := { a with se := s, som := if s.hold = true then a.som else a.som.filter fun x => decide (x ∈ a.down) }
  restA { b with due := if s.start = "grid" ∧ b.due ≠ none then some (gridZ b) else b.due }
def stopA (a : PA) : PA := restA { a with down := [], som := [], ends := [] }
def soundZ (a : PA) : List Int := srt (a.ends.map (·.1))
def rowA (a : PA) : List Int := if a.count = 0 ∨ a.se.wait = false then roundZ a.se.order a.se.spans.toNat a.som else a.row
def toneA (a : PA) : Int := (rowA a).getD (a.count % (rowA a).length).toNat 0
def stepA (a : PA) : PA := { a with row := rowA a, count := (a.count % (rowA a).length + 1) % (rowA a).length, due := some (a.now + a.se.step), ends := putI a.ends (toneA a) (a.now + a.se.gate) }
def onsA (a : PA) : List (Bool × Int) := if toneA a ∈ a.ends.map (·.1) then [(false, toneA a), (true, toneA a)] else [(true, toneA a)]
def offsA (a : PA) : List Int := (soundZ a).filter fun k => decide (valI a.ends k = some a.now)
def endA (a : PA) : PA := { a with ends := a.ends.filter fun p => decide (a.now < p.2) }
def dueA (a : PA) : PA := { a with due := if a.som ≠ [] ∧ a.due = none then some (if a.se.start = "now" then a.now else gridZ a) else a.due }
def goA (a : PA) : PA × List (Bool × Int) := if a.due = some a.now then (stepA a, onsA a) else (a, [])
def tickA (a : PA) : PA := let b := (goA (dueA (endA a))).1; { b with now := b.now + 1 }
def toldA (a : PA) : List (Bool × Int) := (offsA a).map (fun k => (false, k)) ++ (goA (dueA (endA a))).2
def encT (p : Bool × Int) : PyData := .tuple [.str (if p.1 then "on" else "off"), .int p.2]
/-! small deeds -/
section
variable (se : Set7) (dn so : List Int) (nw : Int) (du : Option Int) (co : Int) (ro : List Int) (en : DI)
theorem e_rest : f_Player_rest [pob se dn so nw du co ro en] = .ok (.d .none) [pob se dn so nw (if so = [] then none else du) (if so = [] then 0 else co) ro en] := by
  cases so with
  | nil => simp [fnM_ap, f_Player_rest, b_Player_rest, px_some, pp_due, pp_count, p_len, dueD]
  | cons x r => simp [fnM_ap, f_Player_rest, b_Player_rest, px_some]
theorem e_rest_i (g : Int) : f_Player_rest [.obj "Player" (pfl (.d (setD se)) (.lst (dn.map PyData.int)) (.lst (so.map PyData.int)) (.d (.int nw)) (.d (.int g)) (.d (.int co)) (.d (.list (ro.map PyData.int))) (.dic (kvI en)))] = .ok (.d .none) [pob se dn so nw (if so = [] then none else some g) (if so = [] then 0 else co) ro en] := e_rest se dn so nw (some g) co ro en
theorem e_rest_n : f_Player_rest [.obj "Player" (pfl (.d (setD se)) (.lst (dn.map PyData.int)) (.lst (so.map PyData.int)) (.d (.int nw)) (.d .none) (.d (.int co)) (.d (.list (ro.map PyData.int))) (.dic (kvI en)))] = .ok (.d .none) [pob se dn so nw none (if so = [] then 0 else co) ro en] := by
  have := e_rest se dn so nw none co ro en
  rw [ite_self] at this
  exact this
theorem e_grid (h : OkSet se) : f_Player_grid [pob se dn so nw du co ro en] = .ok (.d (.int ((nw + se.step - 1) / se.step * se.step))) [pob se dn so nw du co ro en] := by
  have t1 : 0 < se.step := h.t1
  have t2 : se.step ≤ 8 := h.t2
  have t3 : se.step < 1073741824 := by omega
  have t4 : se.step < 18446744073709551616 := by omega
  have t5 : -18446744073709551616 < se.step := by omega
  simp [fnM_ap, f_Player_grid, b_Player_grid, sx2, px_now, px_setting, t1, t3, t4, t5]
theorem e_sounding (h : en.length < 64) : f_Player_sounding [pob se dn so nw du co ro en] = .ok (.nw (.lst ((srt (en.map (·.1))).map PyData.int))) [pob se dn so nw du co ro en] := by
  simp [fnM_ap, f_Player_sounding, b_Player_sounding, px_ends, sorted_dic h]
end
theorem e_init (s : Set7) (h : OkSet s) : f_Player_init [.obj "Player" [], .d (setD s)] = .ok (.d .none) [pob s [] [] 0 none 0 [] [], .d (setD s)] := by
  have hl : mdrop (mcall true f_look (mconsA true (mvar 1) mnilA)) [some (.obj "Player" []), some (.d (setD s))] = .nx [some (.obj "Player" []), some (.d (setD s))] := by simp [e_look_ok _ (okD_set h) (isS_ok h)]
  unfold f_Player_init
  rw [fnM_ap]
  show finB 2 (b_Player_init [some (.obj "Player" []), some (.d (setD s))]) = _
  unfold b_Player_init
  rw [mseq_ap, hl, seq_nx]
  rfl
theorem gRemove_ints (ns : List Int) (k : Int) (h : k ∈ ns) : gRemove (ns.map PyData.int) (.int k) = some ((ns.erase k).map PyData.int, .none) := by
  simp [gRemove, h]
end K19

set_option maxHeartbeats 1000000
namespace K19
open PySem PySem.Spec PyProof.Rows L2 M
/-! deeds of a player -/
structure InvP (a : PA) : Prop where
  se : OkSet a.se
  dnd : a.down.Nodup
  dr : ∀ k ∈ a.down, 0 ≤ k ∧ k ≤ 35
  snd : a.som.Nodup
  sr : ∀ k ∈ a.som, 0 ≤ k ∧ k ≤ 35
  du : a.som = [] → a.due = none
  c0 : 0 ≤ a.count
  row : a.count ≠ 0 → a.row ≠ []
  rl : a.row.length < 1000
  rr : ∀ t ∈ a.row, 0 ≤ t ∧ t ≤ 59
  en : (a.ends.map (·.1)).Nodup
  er : ∀ t ∈ a.ends.map (·.1), 0 ≤ t ∧ t ≤ 59
  et : ∀ p ∈ a.ends, a.now ≤ p.2
theorem InvP.dl {a : PA} (h : InvP a) : a.down.length ≤ 36 := nodup_len 36 _ h.dnd fun n hn => by have := h.dr n hn; omega
theorem InvP.sl {a : PA} (h : InvP a) : a.som.length ≤ 36 := nodup_len 36 _ h.snd fun n hn => by have := h.sr n hn; omega
theorem InvP.el {a : PA} (h : InvP a) : a.ends.length ≤ 60 := by
  have := nodup_len 60 _ h.en fun n hn => by have := h.er n hn; omega
  simpa using this
theorem in_nil (x : Int) (neg : Bool) : gInL neg (.int x) (.list []) = some (.d (.bool (xor neg false))) := by
  have := in_ints x [] neg
  simpa using this
theorem e_press_ok (a : PA) (hI : InvP a) (k : Int) (h0 : 0 ≤ k) (h1 : k ≤ 35) (hd : k ∉ a.down) : f_Player_press [mvP a, .d (.int k)] = .ok (.d .none) [mvP (pressA a k), .d (.int k)] := by
  have q1 : a.down.length < 16777216 := Nat.lt_of_le_of_lt hI.dl (by decide)
  have q2 : a.som.length < 16777216 := Nat.lt_of_le_of_lt hI.sl (by decide)
  have ie : ∀ l : List Int, l.isEmpty = decide (l = []) := fun l => by cases l <;> rfl
  cases hh : a.se.hold <;> by_cases e1 : a.down = [] <;> by_cases hk : k ∈ a.som <;> simp [fnM_ap, p0_Player_press, p1_Player_press, p2_Player_press, p3_Player_press, p4_Player_press, b_Player_press, f_Player_press, sx4, hh, e_is_key (.int k) rfl, isW, h0, h1, px_down, px_setting, px_some, pp_some, pp_count, p_len, pu_down, pu_some, pressA, hk, ie, eq_iff_iff.mpr (iff_of_true e1 trivial), e1, hd, q1, q2, in_nil]
theorem e_press_key (a : PA) (x : PyData) (hn : noDic x = true) (hx : isW x 0 35 = false) : f_Player_press [mvP a, .d x] = .exc "NoKey" [mvP a, .d x] := by
  simp [fnM_ap, p0_Player_press, p1_Player_press, p2_Player_press, p3_Player_press, p4_Player_press, b_Player_press, f_Player_press, e_is_key x hn, hx]
theorem e_press_held (a : PA) (k : Int) (h0 : 0 ≤ k) (h1 : k ≤ 35) (hd : k ∈ a.down) : f_Player_press [mvP a, .d (.int k)] = .exc "IsHeld" [mvP a, .d (.int k)] := by
  have hq := in_ints k a.down false
  simp [hd] at hq
  simp [fnM_ap, p0_Player_press, p1_Player_press, p2_Player_press, p3_Player_press, p4_Player_press, b_Player_press, f_Player_press, e_is_key (.int k) rfl, isW, h0, h1, px_down, hd]
theorem e_leave_key (a : PA) (x : PyData) (hn : noDic x = true) (hx : isW x 0 35 = false) : f_Player_leave [mvP a, .d x] = .exc "NoKey" [mvP a, .d x] := by
  simp [fnM_ap, p0_Player_leave, p1_Player_leave, p2_Player_leave, p3_Player_leave, p4_Player_leave, b_Player_leave, f_Player_leave, e_is_key x hn, hx]
theorem e_leave_not (a : PA) (k : Int) (h0 : 0 ≤ k) (h1 : k ≤ 35) (hd : k ∉ a.down) : f_Player_leave [mvP a, .d (.int k)] = .exc "NotHeld" [mvP a, .d (.int k)] := by
  simp [fnM_ap, p0_Player_leave, p1_Player_leave, p2_Player_leave, p3_Player_leave, p4_Player_leave, b_Player_leave, f_Player_leave, e_is_key (.int k) rfl, isW, h0, h1, px_down, hd]
theorem e_leave_ok (a : PA) (hI : InvP a) (k : Int) (h0 : 0 ≤ k) (h1 : k ≤ 35) (hd : k ∈ a.down) : f_Player_leave [mvP a, .d (.int k)] = .ok (.d .none) [mvP (leaveA a k), .d (.int k)] := by
  have q2 : a.som.length < 16777216 := Nat.lt_of_le_of_lt hI.sl (by decide)
  have lc : ∀ x : MV, lcL (tgN 2) ct1_Player_leave ce1_Player_leave [some x, some (.d (.int k)), none] (a.som.map PyData.int) = some ((a.som.filter fun x => decide (x ≠ k)).map PyData.int) := fun x => lcL_ints _ PyData.int a.som fun n _ => by simp [ct1_Player_leave, ce1_Player_leave]
  have gr := gRemove_ints a.down k hd
  cases hh : a.se.hold <;> simp [fnM_ap, p0_Player_leave, p1_Player_leave, p2_Player_leave, p3_Player_leave, p4_Player_leave, b_Player_leave, f_Player_leave, sx4, hh, e_is_key (.int k) rfl, isW, h0, h1, px_down, px_setting, px_some, pp_some, p_len, pu_down, pu_some, hd, gr, lc, wipeS, q2, isO_rest, e_rest, leaveA, restA]
/-! no list -/
theorem eq_nilL (ns : List Int) : gEq (.list (ns.map PyData.int)) (.list []) = some (.d (.bool (decide (ns = [])))) := by
  have := eq_ints ns []
  simpa using this
theorem ne_nilL (ns : List Int) : gNe (.list (ns.map PyData.int)) (.list []) = some (.d (.bool (!decide (ns = [])))) := by
  have := ne_ints ns []
  simpa using this
theorem isOneS_mem {z : Str} {ws : List Str} (h : isOneS (.str z) ws = true) : z ∈ ws := by
  simp only [isOneS, List.any_eq_true, beq_iff_eq] at h
  obtain ⟨w, hw, e⟩ := h
  rw [← e]; exact hw
theorem isW_int {c : PyData} {lo hi : Int} (h : isW c lo hi = true) : ∃ n, c = .int n ∧ lo ≤ n ∧ n ≤ hi := by
  cases c <;> simp only [isW, Bool.false_eq_true] at h
  simp only [Bool.and_eq_true, decide_eq_true_eq] at h
  exact ⟨_, rfl, h⟩
/-! open places -/
def onA (l : List Int) (p : Bool × Int) : List Int := if p.1 = true then (if p.2 ∈ l then l else l ++ [p.2]) else l.filter fun x => decide (x ≠ p.2)
def runOk : List Int → List (Bool × Int) → Prop
  | _, [] => True
  | l, p :: r => (if p.1 = true then p.2 ∉ l else p.2 ∈ l) ∧ runOk (onA l p) r
theorem runOk_app : ∀ {r q : List (Bool × Int)} {l : List Int}, runOk l r → runOk (r.foldl onA l) q → runOk l (r ++ q)
  | [], _, _, _, h => h
  | _ :: _, _, _, h, h2 => ⟨h.1, runOk_app h.2 h2⟩
theorem onA_nodup {l : List Int} {p : Bool × Int} (h : l.Nodup) : (onA l p).Nodup := by
  unfold onA
  split
  · split
    · exact h
    · rename_i hk
      exact List.nodup_append.mpr ⟨h, by simp, fun x hx y hy e => hk (by rw [List.mem_singleton.mp hy] at e; rw [← e]; exact hx)⟩
  · exact h.filter _
theorem keys_filter_mem {d : DI} {q : Int → Bool} : (d.filter fun p => q p.1).map (·.1) = (d.map (·.1)).filter q := by
  rw [List.filter_map]
  rfl
theorem mem_putI {d : DI} {k v : Int} {p : Int × Int} (h : p ∈ putI d k v) : p ∈ d ∨ p = (k, v) := by
  unfold putI at h
  split at h
  · obtain ⟨q, hq, e⟩ := List.mem_map.mp h
    split at e
    · rename_i hk
      rw [← hk]
      exact .inr e.symm
    · exact .inl (by rw [← e]; exact hq)
  · rcases List.mem_append.mp h with h | h
    · exact .inl h
    · exact .inr (List.mem_singleton.mp h)
abbrev La := Int × Int × Option Int
def encL (h : La) : PyData := .tuple [.int h.1, .int h.2.1, dueD h.2.2]
def lastF (st : DI × List La) (h : Int × Bool × Int) : DI × List La :=
  if h.2.1 = true then (putI st.1 h.2.2 (st.2.length : Nat), st.2 ++ [(h.1, h.2.2, none)])
  else
    let at_ := ((valI st.1 h.2.2).getD 0).toNat
    let b := (st.2.getD at_ (0, 0, none)).1
    (dropI st.1 h.2.2, st.2.set at_ (b, h.2.2, some (h.1 - b)))
structure LaOk (st : DI × List La) (l : List Int) : Prop where
  keys : st.1.map (·.1) = l
  nd : l.Nodup
  rng : ∀ p ∈ st.1, 0 ≤ p.2 ∧ p.2 < st.2.length
theorem onA_on {l : List Int} {t : Int} (h : t ∉ l) : onA l (true, t) = l ++ [t] := by unfold onA; simp only [if_true]; rw [if_neg h]
theorem last_ok {st : DI × List La} {l : List Int} (h : LaOk st l) (x : Int × Bool × Int) (hr : if x.2.1 = true then x.2.2 ∉ l else x.2.2 ∈ l) : LaOk (lastF st x) (onA l x.2) := by
  obtain ⟨i, w, t⟩ := x
  cases w with
  | true =>
    have ht : t ∉ l := by simpa using hr
    have ht2 : t ∉ st.1.map (·.1) := by rw [h.keys]; exact ht
    refine ⟨?_, onA_nodup h.nd, ?_⟩
    · show (putI st.1 t _).map (·.1) = onA l (true, t)
      rw [keys_putI, if_neg ht2, onA_on ht, h.keys]
    · show ∀ p ∈ putI st.1 t (st.2.length : Nat), 0 ≤ p.2 ∧ p.2 < ((st.2 ++ [(i, t, none)]).length : Int)
      intro p hp
      rw [List.length_append]
      rcases mem_putI hp with hp | hp
      · have := h.rng p hp
        simp; omega
      · rw [hp]; simp; omega
  | false =>
    refine ⟨?_, onA_nodup h.nd, ?_⟩
    · show (dropI st.1 t).map (·.1) = onA l (false, t)
      unfold dropI onA
      rw [keys_filter_mem (q := fun x => decide (x ≠ t)), h.keys]
      simp
    · intro p hp
      have hp : p ∈ dropI st.1 t := hp
      have := h.rng p (List.mem_filter.mp hp).1
      show 0 ≤ p.2 ∧ p.2 < ((st.2.set _ _).length : Int)
      rw [List.length_set]
      exact this
theorem last_fold : ∀ {R : List (Int × Bool × Int)} {st : DI × List La} {l : List Int}, LaOk st l → runOk l (R.map (·.2)) → LaOk (R.foldl lastF st) ((R.map (·.2)).foldl onA l)
  | [], _, _, h, _ => h
  | x :: R, st, l, h, hr => last_fold (R := R) (st := lastF st x) (l := onA l x.2) (last_ok h x hr.1) hr.2
theorem last_len : ∀ (R : List (Int × Bool × Int)) (st : DI × List La), (R.foldl lastF st).2.length ≤ st.2.length + R.length ∧ (R.foldl lastF st).1.length ≤ st.1.length + R.length
  | [], _ => by simp
  | x :: R, st => by
    have := last_len R (lastF st x)
    have h2 : (lastF st x).2.length ≤ st.2.length + 1 := by
      unfold lastF
      split
      · simp
      · simp
    have h3 : (lastF st x).1.length ≤ st.1.length + 1 := by
      unfold lastF
      split
      · show (putI _ _ _).length ≤ _
        unfold putI
        split
        · simp
        · simp
      · show (dropI _ _).length ≤ _
        exact Nat.le_succ_of_le (List.length_filter_le _ _)
    simp only [List.foldl_cons, List.length_cons]
    omega
theorem last_row {st : DI × List La} {l : List Int} (h : LaOk st l) {t : Int} (ht : t ∈ l) : ∃ at_ : Int, valI st.1 t = some at_ ∧ 0 ≤ at_ ∧ at_ < st.2.length ∧ st.2[at_.toNat]? = some (st.2.getD at_.toNat (0, 0, none)) := by
  obtain ⟨v, hv⟩ := valI_some (d := st.1) (k := t) (by rw [h.keys]; exact ht)
  obtain ⟨h0, h1⟩ := h.rng _ (mem_valI hv)
  refine ⟨v, hv, h0, h1, ?_⟩
  have : v.toNat < st.2.length := by
    have h1 : v < (st.2.length : Int) := h1
    have h0 : 0 ≤ v := h0
    omega
  rw [List.getD_eq_getElem?_getD, List.getElem?_eq_getElem this]
  rfl
end K19

set_option maxHeartbeats 1000000
namespace K19
open PySem PySem.Spec PyProof.Rows L2 M
/-! a step, a tick of a player -/
theorem e_step (a : PA) (hI : InvP a) (hs : a.som ≠ []) (hw : (roundZ a.se.order a.se.spans.toNat a.som).length < 1000) (hw0 : roundZ a.se.order a.se.spans.toNat a.som ≠ []) : f_Player_step [mvP a] = .ok (.d (.list ((onsA a).map encT))) [mvP (stepA a)] := by
  have l2 := hI.sl
  have l3 := hI.el
  have hse := hI.se
  have c0 := hI.c0
  have hr0 : rowA a ≠ [] := by
    unfold rowA
    split
    · exact hw0
    · rename_i h
      exact hI.row fun e => h (.inl e)
  have hl0 : 0 < (rowA a).length := List.length_pos_iff.mpr hr0
  have p0 : f_Player_step [mvP a] = finB 1 ((mseq p1_Player_step (mseq p2_Player_step (mseq p3_Player_step (mseq p4_Player_step (mseq p5_Player_step (mseq p6_Player_step p7_Player_step)))))) [some (mvP { a with row := rowA a }), none, none, none]) := by
    have hb : a.count = 0 ∨ a.se.wait = false → mborrow (.fld 0 ("some" : Str)) (mcall true f_round_told (mconsA true (mop2 true (lift2 gIx) (mfld "Player" "setting" (mvar 0)) (mc (.int 0))) (mconsA true (mop2 true (lift2 gIx) (mfld "Player" "setting" (mvar 0)) (mc (.int 1))) (mconsA true (mfld "Player" "some" (mvar 0)) (mnilA))))) [some (mvP a), none, none, none] = .ok (.nw (.lst ((rowA a).map PyData.int))) [some (mvP a), none, none, none] := fun h => by
      have er := e_round_told a.se.order a.se.spans a.som (Nat.lt_of_le_of_lt l2 (by decide)) hse.s2 (by have := hse.s1; omega)
      have e1 : rowA a = roundZ a.se.order a.se.spans.toNat a.som := if_pos h
      rw [e1]
      refine mborrow_l (p := [2, 1]) (ds := a.som.map PyData.int) (S1 := [some (.obj "Player" (pfl (.d (setD a.se)) (.lst (a.down.map PyData.int)) (.d (intL a.som)) (.d (.int a.now)) (.d (dueD a.due)) (.d (.int a.count)) (.d (.list (a.row.map PyData.int))) (.dic (kvI a.ends)))), none, none, none]) rfl ?_ (scal_ints _)
      simp [pu_some, px_setting, px_some, sx0, sx1, er]
    unfold f_Player_step
    rw [fnM_ap]
    show finB 1 (b_Player_step [some (mvP a), none, none, none]) = _
    unfold b_Player_step
    rw [mseq_ap]
    have : p0_Player_step [some (mvP a), none, none, none] = .nx [some (mvP { a with row := rowA a }), none, none, none] := by
      by_cases h : a.count = 0
      · simp [p0_Player_step, px_count, h, hb (.inl h), pp_row, p_len]
      · by_cases h2 : a.se.wait = false
        · simp [p0_Player_step, px_count, px_setting, sx6, h, h2, hb (.inr h2), pp_row, p_len]
        · have h2 : a.se.wait = true := by simpa using h2
          simp [p0_Player_step, px_count, px_setting, sx6, h, h2, rowA]
    rw [this, seq_nx]
  rw [p0]
  have hm1 : 0 ≤ a.count % ((rowA a).length : Int) := Int.emod_nonneg _ (by omega)
  have hm2 : a.count % ((rowA a).length : Int) < (rowA a).length := Int.emod_lt_of_pos _ (by omega)
  have hl : (0 : Int) < (rowA a).length := by omega
  have ix := ix_ints hm1 hm2
  have gm : ∀ x : Int, gMod (.int x) (.int ((rowA a).length : Int)) = some (.d (.int (x % (rowA a).length))) := fun x => gMod_ii hl
  have l3 : a.ends.length < 16777216 := Nat.lt_of_le_of_lt l3 (by decide)
  have dn := din_i false [7, 1] a.ends (toneA a)
  rw [valI_isSome] at dn
  by_cases ht : toneA a ∈ a.ends.map (·.1)
  · unfold toneA at ht dn
    simp only [ht, decide_true] at dn
    simp [p1_Player_step, p2_Player_step, p3_Player_step, p4_Player_step, p5_Player_step, p6_Player_step, p7_Player_step, px_count, px_row, px_now, px_setting, px_ends, sx2, sx3, pp_count, pp_due, p_len, gm, ix, dn, putK1_i, l3, pu_ends, stepA, onsA, toneA, ht, encT, dueD, -List.getD_eq_getElem?_getD]
  · unfold toneA at ht dn
    simp only [ht, decide_false] at dn
    simp [p1_Player_step, p2_Player_step, p3_Player_step, p4_Player_step, p5_Player_step, p6_Player_step, p7_Player_step, px_count, px_row, px_now, px_setting, px_ends, sx2, sx3, pp_count, pp_due, p_len, gm, ix, dn, putK1_i, l3, pu_ends, stepA, onsA, toneA, ht, encT, dueD, -List.getD_eq_getElem?_getD]
/-! rounds: what they hold -/
theorem mem_inOrder {o : Str} {ks : List Int} {t : Int} (h : t ∈ inOrderZ o ks) : t ∈ ks := by
  unfold inOrderZ at h
  have hs : ∀ x, x ∈ srt ks → x ∈ ks := fun x hx => (srt_perm ks).mem_iff.mp hx
  split at h
  · exact h
  · split at h
    · exact hs _ ((inw_perm _ _ (Nat.le_refl _)).mem_iff.mp h)
    · split at h
      · rename_i h3
        unfold thumbT at h
        obtain ⟨k, hk, ht⟩ := List.mem_flatMap.mp h
        have hk : k ∈ srt ks := List.mem_of_mem_drop hk
        simp only [List.mem_cons, List.not_mem_nil, or_false] at ht
        rcases ht with e | e
        · subst e
          refine hs _ ?_
          have : 0 < (srt ks).length := by omega
          rw [List.getD_eq_getElem?_getD, List.getElem?_eq_getElem this]
          exact List.getElem_mem this
        · subst e; exact hs _ hk
      · exact hs _ h
theorem mem_found {one : List Int} {n : Nat} {t : Int} (h : t ∈ foundZ one n) : ∃ s : Nat, s < n ∧ ∃ k ∈ one, t = k + 12 * (s : Int) := by
  unfold foundZ at h
  obtain ⟨s, hs, ht⟩ := List.mem_flatMap.mp h
  obtain ⟨k, hk, e⟩ := List.mem_map.mp ht
  exact ⟨s, List.mem_range.mp hs, k, hk, e.symm⟩
theorem mem_round {o : Str} {n : Nat} {ks : List Int} {t : Int} (h : t ∈ roundZ o n ks) : t ∈ foundZ (inOrderZ o ks) n := by
  unfold roundZ at h
  have hm : ∀ x, x ∈ midZ (foundZ (inOrderZ o ks) n) → x ∈ foundZ (inOrderZ o ks) n := fun x hx => List.mem_of_mem_drop (List.mem_of_mem_take hx)
  simp only at h
  split at h
  · exact List.mem_reverse.mp h
  · split at h
    · rcases List.mem_append.mp h with h | h
      · exact h
      · exact hm _ (List.mem_reverse.mp h)
    · split at h
      · rcases List.mem_append.mp h with h | h
        · exact h
        · exact List.mem_reverse.mp h
      · exact h
theorem round_rng {o : Str} {n : Nat} {ks : List Int} (hn : n ≤ 3) (hk : ∀ k ∈ ks, 0 ≤ k ∧ k ≤ 35) : ∀ t ∈ roundZ o n ks, 0 ≤ t ∧ t ≤ 59 := fun t ht => by
  obtain ⟨s, hs, k, hk2, e⟩ := mem_found (mem_round ht)
  have := hk k (mem_inOrder hk2)
  omega
theorem inOrder_ne {o : Str} {ks : List Int} (h : ks ≠ []) : inOrderZ o ks ≠ [] := by
  have h1 : srt ks ≠ [] := fun e => h (List.length_eq_zero_iff.mp (by rw [← srt_len, e]; rfl))
  unfold inOrderZ
  split
  · exact h
  · split
    · exact fun e => h1 (List.length_eq_zero_iff.mp (by rw [← (inw_perm _ (srt ks) (Nat.le_refl _)).length_eq, e]; rfl))
    · split
      · rename_i h3
        have : 0 < ((srt ks).drop 1).length := by rw [List.length_drop]; omega
        intro e
        unfold thumbT at e
        cases hd : (srt ks).drop 1 with
        | nil => rw [hd] at this; exact absurd this (by simp)
        | cons x r => rw [hd] at e; simp at e
      · exact h1
theorem round_len {o : Str} {n : Nat} {ks : List Int} (hn : n ≤ 3) (hl : ks.length ≤ 36) : (roundZ o n ks).length < 1000 := by
  have h1 := inOrder_len o ks
  have h2 := foundZ_len (inOrderZ o ks) n
  have h3 : n * (inOrderZ o ks).length ≤ 3 * (inOrderZ o ks).length := Nat.mul_le_mul hn (Nat.le_refl _)
  have h4 : (midZ (foundZ (inOrderZ o ks) n)).length ≤ (foundZ (inOrderZ o ks) n).length := by unfold midZ; simp; omega
  unfold roundZ
  simp only
  split
  · rw [List.length_reverse]; omega
  · split
    · rw [List.length_append, List.length_reverse]; omega
    · split
      · rw [List.length_append, List.length_reverse]; omega
      · omega
theorem found_ne {one : List Int} {n : Nat} (h : one ≠ []) (hn : 1 ≤ n) : foundZ one n ≠ [] := fun e => by
  have h2 := foundZ_len one n
  rw [e] at h2
  have h3 : 0 < one.length := List.length_pos_iff.mpr h
  have h4 : 1 * one.length ≤ n * one.length := Nat.mul_le_mul hn (Nat.le_refl _)
  simp only [List.length_nil] at h2
  omega
theorem round_ne {o : Str} {n : Nat} {ks : List Int} (hn : 1 ≤ n) (h : ks ≠ []) : roundZ o n ks ≠ [] := by
  have h1 := found_ne (inOrder_ne (o := o) h) hn
  unfold roundZ
  simp only
  split
  · simpa using h1
  · split
    · simp [h1]
    · split
      · simp [h1]
      · exact h1
/-! what stays true of a player -/
theorem InvP.end_ {a : PA} (h : InvP a) : InvP (endA a) := by
  refine ⟨h.se, h.dnd, h.dr, h.snd, h.sr, h.du, h.c0, h.row, h.rl, h.rr, ?_, ?_, ?_⟩
  · exact h.en.sublist (List.filter_sublist.map _)
  · intro t ht
    exact h.er t ((List.filter_sublist.map _).mem ht)
  · intro p hp
    exact h.et p (List.mem_filter.mp hp).1
theorem end_gt {a : PA} : ∀ p ∈ (endA a).ends, a.now < p.2 := fun p hp => by simpa using (List.mem_filter.mp hp).2
theorem InvP.due_ {a : PA} (h : InvP a) : InvP (dueA a) := by
  refine ⟨h.se, h.dnd, h.dr, h.snd, h.sr, ?_, h.c0, h.row, h.rl, h.rr, h.en, h.er, h.et⟩
  intro hs
  have hs : a.som = [] := hs
  unfold dueA
  simp [hs, h.du hs]
theorem rowA_ok {a : PA} (h : InvP a) (hs : a.som ≠ []) : rowA a ≠ [] ∧ (rowA a).length < 1000 ∧ ∀ t ∈ rowA a, 0 ≤ t ∧ t ≤ 59 := by
  have s1 := h.se.s1
  have s2 := h.se.s2
  unfold rowA
  split
  · exact ⟨round_ne (by omega) hs, round_len (by omega) h.sl, round_rng (by omega) h.sr⟩
  · rename_i hc
    exact ⟨h.row fun e => hc (.inl e), h.rl, h.rr⟩
theorem tone_mem {a : PA} (h : InvP a) (hs : a.som ≠ []) : toneA a ∈ rowA a := by
  obtain ⟨h1, _, _⟩ := rowA_ok h hs
  have hl : 0 < (rowA a).length := List.length_pos_iff.mpr h1
  have m1 : 0 ≤ a.count % ((rowA a).length : Int) := Int.emod_nonneg _ (by omega)
  have m2 : a.count % ((rowA a).length : Int) < (rowA a).length := Int.emod_lt_of_pos _ (by omega)
  unfold toneA
  have : (a.count % ((rowA a).length : Int)).toNat < (rowA a).length := by omega
  rw [List.getD_eq_getElem?_getD, List.getElem?_eq_getElem this]
  exact List.getElem_mem this
theorem InvP.step_ {a : PA} (h : InvP a) (hs : a.som ≠ []) : InvP (stepA a) := by
  obtain ⟨r1, r2, r3⟩ := rowA_ok h hs
  have tm := r3 _ (tone_mem h hs)
  have hl : 0 < (rowA a).length := List.length_pos_iff.mpr r1
  refine ⟨h.se, h.dnd, h.dr, h.snd, h.sr, fun e => absurd e hs, Int.emod_nonneg _ (by omega), fun _ => r1, r2, r3, ?_, ?_, ?_⟩
  · show ((putI a.ends (toneA a) (a.now + a.se.gate)).map (·.1)).Nodup
    rw [keys_putI]
    split
    · exact h.en
    · rename_i hk
      exact List.nodup_append.mpr ⟨h.en, by simp, fun x hx y hy e => hk (by rw [List.mem_singleton.mp hy] at e; rw [← e]; exact hx)⟩
  · show ∀ t ∈ (putI a.ends (toneA a) (a.now + a.se.gate)).map (·.1), 0 ≤ t ∧ t ≤ 59
    intro t ht
    obtain ⟨p, hp, rfl⟩ := List.mem_map.mp ht
    rcases mem_putI hp with hp | hp
    · exact h.er _ (List.mem_map.mpr ⟨p, hp, rfl⟩)
    · rw [hp]; exact tm
  · intro p hp
    rcases mem_putI hp with hp | hp
    · exact h.et p hp
    · have := h.se.g1
      rw [hp]; show a.now ≤ a.now + a.se.gate; omega
theorem step_gt {a : PA} (h : InvP a) (hg : ∀ p ∈ a.ends, a.now < p.2) : ∀ p ∈ (stepA a).ends, a.now < p.2 := fun p hp => by
  rcases mem_putI hp with hp | hp
  · exact hg p hp
  · have := h.se.g1
    rw [hp]; show a.now < a.now + a.se.gate; omega
theorem go_som {a : PA} (h : InvP a) (e : a.due = some a.now) : a.som ≠ [] := fun z => by rw [h.du z] at e; cases e
theorem InvP.go_ {a : PA} (h : InvP a) : InvP (goA a).1 := by
  unfold goA
  split
  · rename_i e
    exact h.step_ (go_som h e)
  · exact h
theorem InvP.tick_ {a : PA} (h : InvP a) : InvP (tickA a) := by
  have h1 := h.end_.due_
  have h2 := h1.go_
  have hg : ∀ p ∈ (goA (dueA (endA a))).1.ends, a.now < p.2 := by
    have h3 : ∀ p ∈ (dueA (endA a)).ends, a.now < p.2 := end_gt
    unfold goA
    split
    · rename_i e
      exact step_gt h1 h3
    · exact h3
  have hn : (goA (dueA (endA a))).1.now = a.now := by unfold goA; split <;> rfl
  refine ⟨h2.se, h2.dnd, h2.dr, h2.snd, h2.sr, h2.du, h2.c0, h2.row, h2.rl, h2.rr, h2.en, h2.er, fun p hp => ?_⟩
  have := hg p hp
  show (goA (dueA (endA a))).1.now + 1 ≤ p.2
  omega
theorem gEq_due (d : Option Int) (n : Int) : gEq (dueD d) (.int n) = some (.d (.bool (decide (d = some n)))) := by
  cases d with
  | none => simp [dueD, gEq, scalD, PyData.eqv]
  | some d => simp [dueD]
theorem e_tick (a : PA) (hI : InvP a) : f_Player_tick [mvP a] = .ok (.nw (.lst ((toldA a).map encT))) [mvP (tickA a)] := by
  have l3 := hI.el
  have hl : a.ends.length < 16777216 := Nat.lt_of_le_of_lt l3 (by decide)
  have hen := hI.en
  have es := e_sounding a.se a.down a.som a.now a.due a.count a.row a.ends (Nat.lt_of_le_of_lt l3 (by decide))
  have s0 : p0_Player_tick [some (mvP a), none, none] = .nx [some (mvP a), some (.lst ((offsA a).map fun k => encT (false, k))), none] := by
    have lc : lcL (tgN 2) ct1_Player_tick ce1_Player_tick [some (mvP a), none, none] ((srt (a.ends.map (·.1))).map PyData.int) = some ((offsA a).map fun k => encT (false, k)) := by
      refine lcL_ints (fun k => decide (valI a.ends k = some a.now)) (fun k => encT (false, k)) _ fun n hn => ?_
      obtain ⟨v, hv⟩ := valI_some ((srt_perm _).mem_iff.mp hn)
      simp [ct1_Player_tick, ce1_Player_tick, px_ends, px_now, dget_i _ _ _ _ hv, hv, encT]
    have hl2 : (srt (a.ends.map (·.1))).length < 16777216 := by rw [srt_len, List.length_map]; exact hl
    simp [p0_Player_tick, isO_sounding, es, hl2, lc, wipeS]
  have s1 : ∀ L : List PyData, p1_Player_tick [some (mvP a), some (.lst L), none] = .nx [some (mvP (endA a)), some (.lst L), none] := fun L => by
    have lc : ∀ y : MV, lcL (tgN 2) ct2_Player_tick ce2_Player_tick [some (.obj "Player" (pfl (.d (setD a.se)) (.lst (a.down.map PyData.int)) (.lst (a.som.map PyData.int)) (.d (.int a.now)) (.d (dueD a.due)) (.d (.int a.count)) (.d (.list (a.row.map PyData.int))) (.fdc (kvI a.ends)))), some y, none] (a.ends.map fun p => PyData.int p.1) = some ((a.ends.filter fun p => decide (a.now < p.2)).map fun p => .tuple [.int p.1, .int p.2]) := fun y => by
      refine lcL_enc (fun p : Int × Int => PyData.int p.1) (fun p => decide (a.now < p.2)) (fun p => .tuple [.int p.1, .int p.2]) _ fun p hp => ⟨_, rfl, ?_⟩
      have hv := valI_mem hen hp
      simp [ct2_Player_tick, ce2_Player_tick, px_ends, px_now, dget_if _ _ _ _ hv]
    have hk : (kvI a.ends).map (fun kv => kD kv.1) = a.ends.map fun p => PyData.int p.1 := by simp [kvI, kD]
    have ml : mlock (.fld 0 ("ends" : Str)) (mlc [2] (miK (mfld "Player" "ends" (mvar 0))) (tgN 2) (ct2_Player_tick) (ce2_Player_tick)) [some (mvP a), some (.lst L), none] = .ok (.nw (.lst ((endA a).ends.map fun p => .tuple [.int p.1, .int p.2]))) [some (mvP a), some (.lst L), none] := by
      refine mlock_l (p := [7, 1]) (kvs := kvI a.ends) (S1 := [some (.obj "Player" (pfl (.d (setD a.se)) (.lst (a.down.map PyData.int)) (.lst (a.som.map PyData.int)) (.d (.int a.now)) (.d (dueD a.due)) (.d (.int a.count)) (.d (.list (a.row.map PyData.int))) (.fdc (kvI a.ends)))), some (.lst L), none]) rfl ?_
      simp [pu_ends, px_ends, hk, hl, lc, wipeS, endA]
    have dp : gDictP (.list ((a.ends.filter fun p => decide (a.now < p.2)).map fun p => PyData.tuple [.int p.1, .int p.2])) = some (.nw (.dic (kvI (a.ends.filter fun p => decide (a.now < p.2))))) := dictP_i (endA a).ends hI.end_.en
    simp [p1_Player_tick, ml, dp, pp_ends, p_len, endA]
  have s2 : ∀ (b : PA) (L : List PyData), OkSet b.se → p2_Player_tick [some (mvP b), some (.lst L), none] = .nx [some (mvP (dueA b)), some (.lst L), none] := fun b L hb => by
    have eg := e_grid b.se b.down b.som b.now b.due b.count b.row b.ends hb
    have ie : ∀ l : List Int, l.isEmpty = decide (l = []) := fun l => by cases l <;> rfl
    rcases Classical.propComplete (b.som = []) with h1 | h1 <;> rcases Classical.propComplete (b.due = none) with h2 | h2 <;> rcases Classical.propComplete (b.se.start = "now") with h3 | h3 <;> simp [p2_Player_tick, px_some, px_due, px_setting, px_now, sx5, dueA, dueD_isN, dueD_some, ie, h1, h2, h3, pp_due, p_len, isO_grid, gridZ, eg]
  have s3 : ∀ (b : PA) (l : List (Bool × Int)), InvP b → l.length ≤ 100 → p3_Player_tick [some (mvP b), some (.lst (l.map encT)), none] = .nx [some (mvP (goA b).1), some (.lst ((l ++ (goA b).2).map encT)), none] := fun b l hb hl => by
    rcases Classical.propComplete (b.due = some b.now) with h | h
    · have h0 := of_eq_true h
      have hs := go_som hb h0
      have st := e_step b hb hs (round_len (by have := hb.se.s2; omega) hb.sl) (round_ne (by have := hb.se.s1; omega) hs)
      have lo : (onsA b).length ≤ 2 := by unfold onsA; split <;> simp
      have hx : l.length + (onsA b).length ≤ 16777216 := by omega
      simp [p3_Player_tick, px_due, px_now, h, gEq_due, isO_step, st, goA, hx]
    · simp [p3_Player_tick, px_due, px_now, h, gEq_due, goA]
  have ol : ((offsA a).map fun k => (false, k)).length ≤ 100 := by
    rw [List.length_map]
    have := List.length_filter_le (fun k => decide (valI a.ends k = some a.now)) (soundZ a)
    unfold offsA
    have h2 : (soundZ a).length = a.ends.length := by unfold soundZ; rw [srt_len, List.length_map]
    omega
  have s4 : ∀ (b : PA) (L : List PyData), p4_Player_tick [some (mvP b), some (.lst L), none] = .nx [some (mvP { b with now := b.now + 1 }), some (.lst L), none] := fun b L => by
    simp [p4_Player_tick, px_now, pp_now, p_len]
  unfold f_Player_tick
  rw [fnM_ap]
  show finB 1 (b_Player_tick [some (mvP a), none, none]) = _
  unfold b_Player_tick
  rw [mseq_ap, s0, seq_nx, mseq_ap, s1, seq_nx, mseq_ap, s2 (endA a) _ hI.se, seq_nx, mseq_ap]
  have e0 : ((offsA a).map fun k => encT (false, k)) = ((offsA a).map fun k => (false, k)).map encT := by simp
  rw [e0, s3 _ _ hI.end_.due_ ol, seq_nx, mseq_ap, s4, seq_nx]
  simp [p5_Player_tick, toldA, tickA]
end K19

set_option maxHeartbeats 1000000
namespace K19
open PySem PySem.Spec PyProof.Rows L2 M
/-! words that differ -/
theorem sn_tick_stop : (("tick" : Str) = "stop") = False := eq_false (by decide +kernel)
theorem sn_tick_change : (("tick" : Str) = "change") = False := eq_false (by decide +kernel)
theorem sn_tick_press : (("tick" : Str) = "press") = False := eq_false (by decide +kernel)
theorem sn_tick_leave : (("tick" : Str) = "leave") = False := eq_false (by decide +kernel)
theorem sn_stop_tick : (("stop" : Str) = "tick") = False := eq_false (by decide +kernel)
theorem sn_stop_change : (("stop" : Str) = "change") = False := eq_false (by decide +kernel)
theorem sn_stop_press : (("stop" : Str) = "press") = False := eq_false (by decide +kernel)
theorem sn_stop_leave : (("stop" : Str) = "leave") = False := eq_false (by decide +kernel)
theorem sn_change_tick : (("change" : Str) = "tick") = False := eq_false (by decide +kernel)
theorem sn_change_stop : (("change" : Str) = "stop") = False := eq_false (by decide +kernel)
theorem sn_change_press : (("change" : Str) = "press") = False := eq_false (by decide +kernel)
theorem sn_change_leave : (("change" : Str) = "leave") = False := eq_false (by decide +kernel)
theorem sn_press_tick : (("press" : Str) = "tick") = False := eq_false (by decide +kernel)
theorem sn_press_stop : (("press" : Str) = "stop") = False := eq_false (by decide +kernel)
theorem sn_press_change : (("press" : Str) = "change") = False := eq_false (by decide +kernel)
theorem sn_press_leave : (("press" : Str) = "leave") = False := eq_false (by decide +kernel)
theorem sn_leave_tick : (("leave" : Str) = "tick") = False := eq_false (by decide +kernel)
theorem sn_leave_stop : (("leave" : Str) = "stop") = False := eq_false (by decide +kernel)
theorem sn_leave_change : (("leave" : Str) = "change") = False := eq_false (by decide +kernel)
theorem sn_leave_press : (("leave" : Str) = "press") = False := eq_false (by decide +kernel)
/-! deeds of a player, as the laws draw them -/
inductive Dd where
  | tick | stop
  | change (x : PyData) | press (x : PyData) | leave (x : PyData)
def encDd : Dd → PyData
  | .tick => .tuple [.str "tick", .none]
  | .stop => .tuple [.str "stop", .none]
  | .change x => .tuple [.str "change", x]
  | .press x => .tuple [.str "press", x]
  | .leave x => .tuple [.str "leave", x]
def okDd : Dd → Bool
  | .change x => okD x
  | .press x => okD x
  | .leave x => okD x
  | _ => true
def keyOf : PyData → Option Int
  | .int i => if 0 ≤ i ∧ i ≤ 35 then some i else none
  | _ => none
def setO (x : PyData) : Option Set7 := match x with
  | .tuple [.str o, .int sp, .int st, .int g, .bool h, .str sa, .bool w] => if isS x = true then some ⟨o, sp, st, g, h, sa, w⟩ else none
  | _ => none
theorem keyOf_some {x : PyData} {k : Int} (h : keyOf x = some k) : x = .int k ∧ 0 ≤ k ∧ k ≤ 35 := by
  unfold keyOf at h
  split at h
  · split at h
    · rename_i hk
      cases h
      exact ⟨rfl, hk⟩
    · cases h
  · cases h
theorem keyOf_none {x : PyData} (h : keyOf x = none) : isW x 0 35 = false := by
  cases x with
  | int i =>
    unfold keyOf at h
    simp only at h
    split at h
    · cases h
    · rename_i hk
      simp only [isW, Bool.and_eq_false_iff, decide_eq_false_iff_not]
      by_cases h0 : (0 : Int) ≤ i
      · exact .inr fun h1 => hk ⟨h0, h1⟩
      · exact .inl h0
  | _ => rfl
theorem setO_some {x : PyData} {s : Set7} (h : setO x = some s) : x = setD s ∧ OkSet s := by
  unfold setO at h
  split at h
  · split at h
    · rename_i hs
      cases h
      refine ⟨rfl, ?_⟩
      simp only [isS, isW, Bool.and_eq_true, decide_eq_true_eq] at hs
      obtain ⟨⟨⟨⟨⟨⟨h1, h2⟩, h3⟩, h4⟩, _⟩, h6⟩, _⟩ := hs
      exact ⟨isOneS_mem h1, h2.1, h2.2, h3.1, h3.2, h4.1, h4.2, isOneS_mem h6⟩
    · cases h
  · cases h
theorem setO_none {x : PyData} (h : setO x = none) : isS x = false := by
  cases hs : isS x with
  | false => rfl
  | true =>
    unfold isS at hs
    split at hs
    · rename_i o s st g hd sta w
      simp only [Bool.and_eq_true] at hs
      obtain ⟨⟨⟨⟨⟨⟨h1, h2⟩, h3⟩, h4⟩, h5⟩, h6⟩, h7⟩ := hs
      have hb : isS (.tuple [o, s, st, g, hd, sta, w]) = true := by simp only [isS, h1, h2, h3, h4, h5, h6, h7, Bool.and_self]
      cases o <;> simp only [isOneS, Bool.false_eq_true] at h1
      cases s <;> simp only [isW, Bool.false_eq_true] at h2
      cases st <;> simp only [isW, Bool.false_eq_true] at h3
      cases g <;> simp only [isW, Bool.false_eq_true] at h4
      cases hd <;> simp only [isB, Bool.false_eq_true] at h5
      cases sta <;> simp only [isOneS, Bool.false_eq_true] at h6
      cases w <;> simp only [isB, Bool.false_eq_true] at h7
      unfold setO at h
      simp only [hb, if_true] at h
      cases h
    · cases hs
def nextA (a : PA) : Dd → PA
  | .tick => tickA a
  | .stop => stopA a
  | .change x => match setO x with
    | some s => changeA a s
    | none => a
  | .press x => match keyOf x with
    | some k => if k ∈ a.down then a else pressA a k
    | none => a
  | .leave x => match keyOf x with
    | some k => if k ∈ a.down then leaveA a k else a
    | none => a
def ansA (a : PA) : Dd → PyData
  | .tick => .list ((toldA a).map encT)
  | .stop => intL (soundZ a)
  | .change x => match setO x with
    | some _ => .none
    | none => .str "setting"
  | .press x => match keyOf x with
    | some k => if k ∈ a.down then .str "held" else .none
    | none => .str "key"
  | .leave x => match keyOf x with
    | some k => if k ∈ a.down then .none else .str "not"
    | none => .str "key"
theorem InvP.rest_ {a : PA} (h : InvP { a with due := none }) : InvP (restA a) := by
  refine ⟨h.se, h.dnd, h.dr, h.snd, h.sr, fun e => ?_, ?_, fun e => ?_, h.rl, h.rr, h.en, h.er, h.et⟩
  · show (if a.som = [] then none else a.due) = none
    exact if_pos e
  · show 0 ≤ (if a.som = [] then 0 else a.count)
    split
    · exact Int.le_refl _
    · exact h.c0
  · refine h.row fun z => e ?_
    show (if a.som = [] then 0 else a.count) = 0
    split
    · rfl
    · exact z
theorem InvP.press_ {a : PA} (h : InvP a) {k : Int} (h0 : 0 ≤ k) (h1 : k ≤ 35) (hk : k ∉ a.down) : InvP (pressA a k) := by
  have hso : ∃ so, so = (if a.se.hold = true ∧ a.down = [] then [] else a.som) ∧ so.Nodup ∧ ∀ x ∈ so, 0 ≤ x ∧ x ≤ 35 := by
    refine ⟨_, rfl, ?_⟩
    split
    · exact ⟨List.nodup_nil, fun _ hx => by cases hx⟩
    · exact ⟨h.snd, h.sr⟩
  obtain ⟨so, hso, sn, sr⟩ := hso
  have e : pressA a k = { a with down := a.down ++ [k], som := if k ∈ so then so else so ++ [k], count := if a.se.hold = true ∧ a.down = [] then 0 else a.count } := by rw [hso]; rfl
  rw [e]
  refine ⟨h.se, ?_, ?_, ?_, ?_, fun e => ?_, ?_, fun e => ?_, h.rl, h.rr, h.en, h.er, h.et⟩
  · exact List.nodup_append.mpr ⟨h.dnd, by simp, fun x hx y hy e => hk (by rw [List.mem_singleton.mp hy] at e; rw [← e]; exact hx)⟩
  · intro x hx
    rcases List.mem_append.mp hx with hx | hx
    · exact h.dr x hx
    · rw [List.mem_singleton.mp hx]; exact ⟨h0, h1⟩
  · show (if k ∈ so then so else so ++ [k]).Nodup
    split
    · exact sn
    · rename_i hks
      exact List.nodup_append.mpr ⟨sn, by simp, fun x hx y hy e => hks (by rw [List.mem_singleton.mp hy] at e; rw [← e]; exact hx)⟩
  · show ∀ x ∈ (if k ∈ so then so else so ++ [k]), 0 ≤ x ∧ x ≤ 35
    split
    · exact sr
    · intro x hx
      rcases List.mem_append.mp hx with hx | hx
      · exact sr x hx
      · rw [List.mem_singleton.mp hx]; exact ⟨h0, h1⟩
  · have e : (if k ∈ so then so else so ++ [k]) = [] := e
    split at e
    · rename_i hks; rw [e] at hks; cases hks
    · simp at e
  · show 0 ≤ (if a.se.hold = true ∧ a.down = [] then 0 else a.count)
    split
    · exact Int.le_refl _
    · exact h.c0
  · refine h.row fun z => e ?_
    show (if a.se.hold = true ∧ a.down = [] then 0 else a.count) = 0
    split
    · rfl
    · exact z
theorem InvP.noDue {a : PA} (h : InvP a) : InvP { a with due := none } := ⟨h.se, h.dnd, h.dr, h.snd, h.sr, fun _ => rfl, h.c0, h.row, h.rl, h.rr, h.en, h.er, h.et⟩
theorem InvP.leave_ {a : PA} (h : InvP a) (k : Int) : InvP (leaveA a k) := by
  refine InvP.rest_ (a := { a with down := a.down.erase k, som := if a.se.hold = true then a.som else a.som.filter fun x => decide (x ≠ k) }) ⟨h.se, h.dnd.erase k, fun x hx => h.dr x (List.mem_of_mem_erase hx), ?_, ?_, fun _ => rfl, h.c0, h.row, h.rl, h.rr, h.en, h.er, h.et⟩
  · show (if a.se.hold = true then a.som else a.som.filter fun x => decide (x ≠ k)).Nodup
    split
    · exact h.snd
    · exact h.snd.filter _
  · show ∀ x ∈ (if a.se.hold = true then a.som else a.som.filter fun x => decide (x ≠ k)), 0 ≤ x ∧ x ≤ 35
    split
    · exact h.sr
    · exact fun x hx => h.sr x (List.mem_filter.mp hx).1
theorem InvP.change_ {a : PA} (h : InvP a) {s : Set7} (hs : OkSet s) : InvP (changeA a s) := by
  obtain ⟨so, hso⟩ : ∃ so, so = (if s.hold = true then a.som else a.som.filter fun x => decide (x ∈ a.down)) := ⟨_, rfl⟩
  have sn : so.Nodup := by
    rw [hso]; split
    · exact h.snd
    · exact h.snd.filter _
  have sr : ∀ x ∈ so, 0 ≤ x ∧ x ≤ 35 := by
    rw [hso]; split
    · exact h.sr
    · exact fun x hx => h.sr x (List.mem_filter.mp hx).1
  unfold changeA
  simp only [← hso]
  exact InvP.rest_ ⟨hs, h.dnd, h.dr, sn, sr, fun _ => rfl, h.c0, h.row, h.rl, h.rr, h.en, h.er, h.et⟩
theorem InvP.stop_ {a : PA} (h : InvP a) : InvP (stopA a) := InvP.rest_ (a := { a with down := [], som := [], ends := [] }) ⟨h.se, List.nodup_nil, fun _ hx => (by cases hx), List.nodup_nil, fun _ hx => (by cases hx), fun _ => rfl, h.c0, h.row, h.rl, h.rr, List.nodup_nil, fun _ hx => (by cases hx), fun _ hx => (by cases hx)⟩
theorem InvP.next {a : PA} (h : InvP a) (d : Dd) : InvP (nextA a d) := by
  cases d with
  | tick => exact h.tick_
  | stop => exact h.stop_
  | change x =>
    show InvP (match setO x with | some s => changeA a s | none => a)
    cases e : setO x with
    | some s => exact h.change_ (setO_some e).2
    | none => exact h
  | press x =>
    show InvP (match keyOf x with | some k => if k ∈ a.down then a else pressA a k | none => a)
    cases e : keyOf x with
    | some k =>
      show InvP (if k ∈ a.down then a else pressA a k)
      split
      · exact h
      · rename_i hk; exact h.press_ (keyOf_some e).2.1 (keyOf_some e).2.2 hk
    | none => exact h
  | leave x =>
    show InvP (match keyOf x with | some k => if k ∈ a.down then leaveA a k else a | none => a)
    cases e : keyOf x with
    | some k =>
      show InvP (if k ∈ a.down then leaveA a k else a)
      split
      · exact h.leave_ _
      · exact h
    | none => exact h
def newA (s : Set7) : PA := ⟨s, [], [], 0, none, 0, [], []⟩
theorem InvP.new {s : Set7} (h : OkSet s) : InvP (newA s) := ⟨h, List.nodup_nil, fun _ hx => (by cases hx), List.nodup_nil, fun _ hx => (by cases hx), fun _ => rfl, Int.le_refl _, fun e => absurd rfl e, by show 0 < 1000; decide, fun _ hx => (by cases hx), List.nodup_nil, fun _ hx => (by cases hx), fun _ hx => (by cases hx)⟩
/-! a tick keeps -/
theorem go_down (b : PA) : (goA b).1.down = b.down := by unfold goA; split <;> rfl
theorem go_now (b : PA) : (goA b).1.now = b.now := by unfold goA; split <;> rfl
theorem tick_down (a : PA) : (tickA a).down = a.down := go_down (dueA (endA a))
theorem tick_now (a : PA) : (tickA a).now = a.now + 1 := by
  show (goA (dueA (endA a))).1.now + 1 = _
  rw [go_now]
  rfl
theorem told_len {a : PA} (h : InvP a) : (toldA a).length ≤ 62 := by
  have h1 : (offsA a).length ≤ 60 := by
    have := List.length_filter_le (fun k => decide (valI a.ends k = some a.now)) (soundZ a)
    unfold offsA
    have h2 : (soundZ a).length = a.ends.length := by unfold soundZ; rw [srt_len, List.length_map]
    have := h.el
    omega
  have h2 : (goA (dueA (endA a))).2.length ≤ 2 := by
    unfold goA
    split
    · show (onsA _).length ≤ 2
      unfold onsA
      split <;> simp
    · simp
  unfold toldA
  rw [List.length_append, List.length_map]
  omega
/-! a setting drawn, as such -/
def Set7.of (s : Int) : Set7 := ⟨ordersAt (pickZ (seedZ s 1) 7), 1 + s / 7 % 3, 1 + pickZ (seedZ s 2) (stepZ s), 1 + pickZ (seedZ s 3) 16, decide (pickZ (seedZ s 4) 3 = 0), startsAt (pickZ (seedZ s 5) 2), decide (pickZ (seedZ s 6) 3 = 0)⟩
theorem set_ok (s : Int) : OkSet (Set7.of s) := by
  have b1 := pick_lo (s := seedZ s 2) (step_lo s)
  have b2 := pick_hi (s := seedZ s 2) (step_lo s)
  have b3 := step_hi s
  have c1 := pick_lo (s := seedZ s 3) (show (0 : Int) < 16 by decide)
  have c2 := pick_hi (s := seedZ s 3) (show (0 : Int) < 16 by decide)
  exact ⟨orders_in _, by show 1 ≤ 1 + s / 7 % 3; omega, by show 1 + s / 7 % 3 ≤ 3; omega, by show 1 ≤ 1 + pickZ (seedZ s 2) (stepZ s); omega, by show 1 + pickZ (seedZ s 2) (stepZ s) ≤ 8; omega, by show 1 ≤ 1 + pickZ (seedZ s 3) 16; omega, by show 1 + pickZ (seedZ s 3) 16 ≤ 16; omega, starts_in _⟩
theorem e_setting_of (s : Int) : f_law_setting [.d (.int s)] = .ok (.d (setD (Set7.of s))) [.d (.int s)] := e_law_setting s
end K19

set_option maxHeartbeats 1000000
namespace K19
open PySem PySem.Spec PyProof.Rows L2 M
/-! deeds of hands -/
structure Deed where
  tick : Int
  down : Bool
  key : Int
def dwords : List Str := ["down", "up"]
def wordD (b : Bool) : Str := if b = true then "down" else "up"
def encD (d : Deed) : PyData := .tuple [.int d.tick, .str (wordD d.down), .int d.key]
abbrev dlist (D : List Deed) : PyData := .list (D.map encD)
def downZ (dn : List Int) (d : Deed) : List Int := if d.down = true then dn ++ [d.key] else dn.filter fun x => decide (x ≠ d.key)
def goodD : List Int → Int → List Deed → Bool
  | _, _, [] => true
  | dn, last, d :: r => decide (last ≤ d.tick) && decide (d.tick ≤ 999) && decide (0 ≤ d.key) && decide (d.key ≤ 35) && (decide (d.key ∈ dn) == !d.down) && goodD (downZ dn d) d.tick r
theorem goodD_cons {dn : List Int} {last : Int} {d : Deed} {r : List Deed} (h : goodD dn last (d :: r) = true) : last ≤ d.tick ∧ d.tick ≤ 999 ∧ 0 ≤ d.key ∧ d.key ≤ 35 ∧ (decide (d.key ∈ dn) = !d.down) ∧ goodD (downZ dn d) d.tick r = true := by
  unfold goodD at h
  simp only [Bool.and_eq_true, decide_eq_true_eq, beq_iff_eq] at h
  obtain ⟨⟨⟨⟨⟨h1, h2⟩, h3⟩, h4⟩, h5⟩, h6⟩ := h
  exact ⟨h1, h2, h3, h4, h5, h6⟩
theorem goodD_at : ∀ {pre : List Deed} {dn : List Int} {last : Int} {d : Deed} {post : List Deed}, goodD dn last (pre ++ d :: post) = true → last ≤ d.tick ∧ d.tick ≤ 999 ∧ 0 ≤ d.key ∧ d.key ≤ 35 ∧ (decide (d.key ∈ pre.foldl downZ dn) = !d.down)
  | [], _, _, _, _, h => by
    obtain ⟨h1, h2, h3, h4, h5, _⟩ := goodD_cons h
    exact ⟨h1, h2, h3, h4, h5⟩
  | p :: pre, _, _, _, _, h => by
    obtain ⟨h1, h2, h3, h4, h5, h6⟩ := goodD_cons h
    obtain ⟨g1, g2, g3, g4, g5⟩ := goodD_at (pre := pre) h6
    exact ⟨by omega, g2, g3, g4, g5⟩
theorem goodD_ge : ∀ {D : List Deed} {dn : List Int} {last : Int}, goodD dn last D = true → ∀ d ∈ D, last ≤ d.tick ∧ d.tick ≤ 999 ∧ 0 ≤ d.key ∧ d.key ≤ 35
  | [], _, _, _, d, hd => by cases hd
  | p :: D, _, _, h, d, hd => by
    obtain ⟨h1, h2, h3, h4, h5, h6⟩ := goodD_cons h
    rcases List.mem_cons.mp hd with e | e
    · subst e; exact ⟨h1, h2, h3, h4⟩
    · have := goodD_ge h6 d e
      omega
theorem goodD_sorted : ∀ {D : List Deed} {dn : List Int} {last : Int}, goodD dn last D = true → D.Pairwise fun a b => a.tick ≤ b.tick
  | [], _, _, _ => .nil
  | p :: D, _, _, h => by
    obtain ⟨h1, h2, h3, h4, h5, h6⟩ := goodD_cons h
    exact .cons (fun d hd => (goodD_ge h6 d hd).1) (goodD_sorted h6)
/-- deeds of lesser ticks, and those of one tick: ahead of a deed of that tick -/
theorem filt_split : ∀ {D : List Deed} (i : Int), (D.Pairwise fun a b => a.tick ≤ b.tick) → (D.filter fun d => decide (d.tick < i)) ++ (D.filter fun d => decide (d.tick = i)) = D.filter fun d => decide (d.tick < i + 1)
  | [], _, _ => rfl
  | d :: D, i, h => by
    have hp := List.pairwise_cons.mp h
    have ih := filt_split i hp.2
    by_cases h1 : d.tick < i
    · have h2 : d.tick < i + 1 := by omega
      have h3 : ¬ d.tick = i := by omega
      simp only [List.filter_cons, h1, h2, h3, decide_true, decide_false, if_true, Bool.false_eq_true, if_false, List.cons_append, ih]
    · have e0 : (D.filter fun d => decide (d.tick < i)) = [] := List.filter_eq_nil_iff.mpr fun x hx => by have := hp.1 x hx; simp; omega
      have e1 : (D.filter fun d => decide (d.tick = i)) = D.filter fun d => decide (d.tick < i + 1) := by
        apply List.filter_congr
        intro x hx
        have := hp.1 x hx
        by_cases h4 : x.tick = i
        · simp [h4]; omega
        · have : ¬ x.tick < i + 1 := by omega
          simp [h4, this]
      by_cases h5 : d.tick = i
      · have h6 : d.tick < i + 1 := by omega
        rw [List.filter_cons_of_neg (by simpa using h1), List.filter_cons_of_pos (by simpa using h5), List.filter_cons_of_pos (by simpa using h6), e0, List.nil_append, e1]
      · have h6 : ¬ d.tick < i + 1 := by omega
        simp only [List.filter_cons, h1, h5, h6, decide_false, Bool.false_eq_true, if_false, e0, List.nil_append, e1]
theorem filt_pre {pre : List Deed} {d : Deed} {post : List Deed} (h : (pre ++ d :: post).Pairwise fun a b => a.tick ≤ b.tick) : ((pre ++ d :: post).filter fun x => decide (x.tick < d.tick)) ++ (pre.filter fun x => decide (x.tick = d.tick)) = pre := by
  have hp := List.pairwise_append.mp h
  have hc := List.pairwise_cons.mp hp.2.1
  have e0 : ((d :: post).filter fun x => decide (x.tick < d.tick)) = [] := List.filter_eq_nil_iff.mpr fun x hx => by
    rcases List.mem_cons.mp hx with e | e
    · subst e; simp
    · have := hc.1 x e; simp; omega
  rw [List.filter_append, e0, List.append_nil, filt_split d.tick hp.1]
  exact List.filter_eq_self.mpr fun x hx => by
    have := hp.2.2 x hx d List.mem_cons_self
    simp; omega
/-- what a thing is as a deed -/
def isDeed (x : PyData) : Bool := match x with
  | .tuple [a, b, c] => isW a 0 999 && isOneS b dwords && isW c 0 35
  | _ => false
def deedO (x : PyData) : Option Deed := match x with
  | .tuple [.int t, .str w, .int k] => if isDeed x = true then some ⟨t, decide (w = "down"), k⟩ else none
  | _ => none
theorem deedO_some {x : PyData} {d : Deed} (h : deedO x = some d) : x = encD d ∧ 0 ≤ d.tick ∧ d.tick ≤ 999 ∧ 0 ≤ d.key ∧ d.key ≤ 35 := by
  unfold deedO at h
  split at h
  · rename_i t w k
    split at h
    · rename_i hs
      cases h
      simp only [isDeed, isW, Bool.and_eq_true, decide_eq_true_eq] at hs
      obtain ⟨⟨h1, h2⟩, h3⟩ := hs
      refine ⟨?_, h1.1, h1.2, h3.1, h3.2⟩
      have hw := isOneS_mem h2
      simp only [dwords, List.mem_cons, List.not_mem_nil, or_false] at hw
      rcases hw with e | e <;> subst e
      · simp [encD, wordD]
      · have : ¬ (("up" : Str) = "down") := by decide +kernel
        simp [encD, wordD, this]
    · cases h
  · cases h
theorem deedO_is (x : PyData) : (deedO x).isSome = isDeed x := by
  cases h : isDeed x with
  | false =>
    unfold deedO
    split
    · rw [h]; rfl
    · rfl
  | true =>
    have h0 := h
    unfold isDeed at h
    split at h
    · rename_i a b c
      simp only [Bool.and_eq_true] at h
      obtain ⟨⟨h1, h2⟩, h3⟩ := h
      cases a <;> simp only [isW, Bool.false_eq_true] at h1
      cases b <;> simp only [isOneS, Bool.false_eq_true] at h2
      cases c <;> simp only [isW, Bool.false_eq_true] at h3
      unfold deedO
      simp only [h0, if_true, Option.isSome_some]
    · cases h
theorem deedO_enc {d : Deed} (h0 : 0 ≤ d.tick) (h1 : d.tick ≤ 999) (h2 : 0 ≤ d.key) (h3 : d.key ≤ 35) : deedO (encD d) = some d := by
  have hd : isDeed (encD d) = true := by
    have : isOneS (.str (wordD d.down)) dwords = true := by cases d.down <;> decide +kernel
    simp [isDeed, encD, isW, h0, h1, h2, h3, this]
  have hw : decide (wordD d.down = "down") = d.down := by cases d.down <;> decide +kernel
  obtain ⟨t, b, k⟩ := d
  unfold encD at hd ⊢
  simp only [deedO, hd, if_true, Option.some.injEq, Deed.mk.injEq, true_and, and_true]
  exact hw
def deedsL : List PyData → Option (List Deed)
  | [] => some []
  | x :: r => match deedO x, deedsL r with
    | some d, some D => some (d :: D)
    | _, _ => none
def deedsO (x : PyData) : Option (List Deed) := match x with
  | .list xs => if xs.length ≤ 80 then (match deedsL xs with
    | some D => if goodD [] 0 D = true then some D else none
    | none => none) else none
  | _ => none
theorem deedsL_some : ∀ {xs : List PyData} {D : List Deed}, deedsL xs = some D → xs = D.map encD ∧ ∀ d ∈ D, 0 ≤ d.tick ∧ d.tick ≤ 999 ∧ 0 ≤ d.key ∧ d.key ≤ 35
  | [], _, h => by cases h; exact ⟨rfl, fun _ hd => by cases hd⟩
  | x :: r, D, h => by
    unfold deedsL at h
    split at h
    · rename_i d D' e1 e2
      cases h
      obtain ⟨h1, h2⟩ := deedO_some e1
      obtain ⟨h3, h4⟩ := deedsL_some e2
      refine ⟨by rw [h1, h3]; rfl, fun y hy => ?_⟩
      rcases List.mem_cons.mp hy with e | e
      · subst e; exact h2
      · exact h4 y e
    · cases h
theorem deedsL_none : ∀ {xs : List PyData}, deedsL xs = none → ∃ x ∈ xs, isDeed x = false
  | [], h => by cases h
  | x :: r, h => by
    cases e : deedO x with
    | none => exact ⟨x, List.mem_cons_self, by rw [← deedO_is, e]; rfl⟩
    | some d =>
      cases e2 : deedsL r with
      | none =>
        obtain ⟨y, hy, h2⟩ := deedsL_none e2
        exact ⟨y, List.mem_cons_of_mem _ hy, h2⟩
      | some D =>
        unfold deedsL at h
        rw [e, e2] at h
        cases h
theorem deedsL_enc : ∀ {D : List Deed}, (∀ d ∈ D, 0 ≤ d.tick ∧ d.tick ≤ 999 ∧ 0 ≤ d.key ∧ d.key ≤ 35) → deedsL (D.map encD) = some D
  | [], _ => rfl
  | d :: D, h => by
    obtain ⟨h1, h2, h3, h4⟩ := h d List.mem_cons_self
    have ih := deedsL_enc (D := D) fun x hx => h x (List.mem_cons_of_mem _ hx)
    rw [List.map_cons]
    unfold deedsL
    rw [deedO_enc h1 h2 h3 h4, ih]
theorem deedsO_good {D : List Deed} (hg : goodD [] 0 D = true) (hl : D.length ≤ 80) : deedsO (dlist D) = some D := by
  show (if (D.map encD).length ≤ 80 then (match deedsL (D.map encD) with
    | some D => if goodD [] 0 D = true then some D else none
    | none => none) else none) = _
  rw [if_pos (by rw [List.length_map]; exact hl), deedsL_enc (goodD_ge hg)]
  simp only [hg, if_true]
theorem deedsO_some {x : PyData} {D : List Deed} (h : deedsO x = some D) : x = dlist D ∧ goodD [] 0 D = true ∧ D.length ≤ 80 := by
  unfold deedsO at h
  split at h
  · split at h
    · rename_i hl
      split at h
      · rename_i D' e
        split at h
        · rename_i hg
          cases h
          obtain ⟨h1, _⟩ := deedsL_some e
          subst h1
          exact ⟨rfl, hg, by simpa using hl⟩
        · cases h
      · cases h
    · cases h
  · cases h
/-! whether they are deeds -/
theorem sh_dw : SeqAt.shaped (.tuple (strL dwords)) = true := by decide +kernel
theorem e_oneD (x : PyData) (h : okD x = true) : f_is_one [.d x, .d (.tuple [.str ("down" : Str), .str ("up" : Str)])] = .ok (.d (.bool (isOneS x dwords))) [.d x, .d (.tuple (strL dwords))] := e_one x dwords h sh_dw
theorem e_is_deed (x : PyData) (h : okD x = true) : f_is_deed [.d x] = .ok (.d (.bool (isDeed x))) [.d x] := by
  have hx := okD_noDic h
  cases x with
  | dict _ => cases hx
  | tuple ds =>
    match ds, h with
    | [a, b, c], h =>
      have ho := okD_tuple h
      simp only [List.mem_cons, List.not_mem_nil, or_false, forall_eq_or_imp, forall_eq] at ho
      obtain ⟨h1, h2, h3⟩ := ho
      cases a1 : isW a 0 999 <;> cases a2 : isOneS b dwords <;> simp [fnM_ap, b_is_deed, f_is_deed, isDeed, e_oneD _ h2, e_within _ _ _ (okD_noDic h1), e_is_key _ (okD_noDic h3), a1, a2]
    | [], _ => simp [fnM_ap, b_is_deed, f_is_deed, isDeed]
    | [_], _ => simp [fnM_ap, b_is_deed, f_is_deed, isDeed]
    | [_, _], _ => simp [fnM_ap, b_is_deed, f_is_deed, isDeed]
    | a :: b :: c :: d :: r, _ =>
      have : ¬ ((r.length : Int) + 1 + 1 + 1 + 1 = 3) := by omega
      simp [fnM_ap, b_is_deed, f_is_deed, isDeed, this]
  | _ => simp [fnM_ap, b_is_deed, f_is_deed, isDeed]
theorem okD_list {ds : List PyData} (h : okD (.list ds) = true) : ∀ d ∈ ds, okD d = true := by
  unfold okD SeqAt.shaped at h
  simp only [Bool.and_eq_true, decide_eq_true_eq] at h
  obtain ⟨h1, h2⟩ := h
  have h1 : PyData.canLayAll0 ds = true := by simpa [PyData.canLay0] using h1
  have h2 : PyData.depthAll ds + 1 ≤ 64 := by simpa [PyData.depth] using h2
  exact okD_all h1 (by omega)
theorem gInt_len (ds : List PyData) : gLen (.d (.list ds)) = some (.d (.int (ds.length : Nat))) := gLen_l rfl
theorem sn_down_up : (("down" : Str) = "up") = False ∧ (("up" : Str) = "down") = False := ⟨eq_false (by decide +kernel), eq_false (by decide +kernel)⟩
abbrev atD (x0 : PyData) (dn : List Int) (last : Int) (d : Deed) (s6 : Option MV) : MS := [some (.d x0), some (.d (intL dn)), some (.d (.int last)), some (.d (.int d.tick)), some (.d (.str (wordD d.down))), some (.d (.int d.key)), s6, none]
theorem are_ok (x0 : PyData) (s6 : Option MV) (dn : List Int) (last : Int) (d : Deed) (hl : dn.length < 1000) (c1 : last ≤ d.tick) (c2 : decide (d.key ∈ dn) = !d.down) : l1_are_deeds (atD x0 dn last d s6) = .nx (atD x0 (downZ dn d) d.tick d s6) := by
  have q1 : dn.length < 16777216 := by omega
  have q2 : dn.length + 1 ≤ 16777216 := by omega
  have c1' : (d.tick < last) = False := eq_false (by omega)
  have lc : ∀ x4 : Option MV, lcL (tgN 7) ct2_are_deeds ce2_are_deeds [some (.d x0), some (.d (intL dn)), some (.d (.int last)), some (.d (.int d.tick)), x4, some (.d (.int d.key)), s6, none] (dn.map PyData.int) = some ((dn.filter fun x => decide (x ≠ d.key)).map PyData.int) := fun x4 => lcL_ints _ PyData.int dn fun n _ => by simp [ct2_are_deeds, ce2_are_deeds]
  cases c3 : d.down with
  | true =>
    have c4 : (d.key ∈ dn) = False := eq_false (by simpa [c3] using c2)
    simp [l1_are_deeds, c1', c3, c4, wordD, sn_down_up, q2, downZ, intL]
  | false =>
    have c4 : (d.key ∈ dn) = True := eq_true (by simpa [c3] using c2)
    simp [l1_are_deeds, c1', c3, c4, wordD, sn_down_up, q1, lc, wipeS, downZ, intL]
theorem are_no (x0 : PyData) (s6 : Option MV) (dn : List Int) (last : Int) (d : Deed) (c : ¬ (last ≤ d.tick ∧ decide (d.key ∈ dn) = !d.down)) : l1_are_deeds (atD x0 dn last d s6) = .rt (.d (.bool false)) (atD x0 dn last d s6) := by
  by_cases c1 : d.tick < last
  · simp [l1_are_deeds, c1]
  · have c2 : ¬ (decide (d.key ∈ dn) = !d.down) := fun e => c ⟨by omega, e⟩
    have c1' : (d.tick < last) = False := eq_false c1
    cases c3 : d.down with
    | true =>
      have c4 : (d.key ∈ dn) = True := eq_true (by simpa [c3] using c2)
      simp [l1_are_deeds, c1', c3, c4, wordD, sn_down_up]
    | false =>
      have c4 : (d.key ∈ dn) = False := eq_false (by simpa [c3] using c2)
      simp [l1_are_deeds, c1', c3, c4, wordD, sn_down_up]
theorem goodD_if (dn : List Int) (last : Int) (d : Deed) (D : List Deed) (h2 : d.tick ≤ 999) (h3 : 0 ≤ d.key) (h4 : d.key ≤ 35) : goodD dn last (d :: D) = if last ≤ d.tick ∧ decide (d.key ∈ dn) = !d.down then goodD (downZ dn d) d.tick D else false := by
  by_cases c1 : last ≤ d.tick
  · by_cases c2 : decide (d.key ∈ dn) = !d.down
    · rw [if_pos ⟨c1, c2⟩]
      simp only [goodD, h2, h3, h4, c1, c2, decide_true, Bool.true_and, BEq.rfl]
    · rw [if_neg (fun z => c2 z.2)]
      simp only [goodD, h2, h3, h4, c1, decide_true, Bool.true_and, beq_eq_false_iff_ne.mpr c2, Bool.false_and]
  · rw [if_neg (fun z => c1 z.1)]
    simp only [goodD, c1, decide_false, Bool.false_and]
theorem are_loop (x0 : PyData) (s6 : Option MV) : ∀ (D : List Deed) (dn : List Int) (last : Int) (s3 s4 s5 : Option MV), (∀ d ∈ D, 0 ≤ d.tick ∧ d.tick ≤ 999 ∧ 0 ≤ d.key ∧ d.key ≤ 35) → dn.length + D.length < 1000 →
    ∃ S', loopM (tgT 3 (tgsC (tgN 3) (tgsC (tgN 4) (tgsC (tgN 5) tgsN)))) l1_are_deeds (D.map encD) [some (.d x0), some (.d (intL dn)), some (.d (.int last)), s3, s4, s5, s6, none] = (if goodD dn last D = true then .nx (some (.d x0) :: S') else .rt (.d (.bool false)) (some (.d x0) :: S'))
  | [], dn, last, s3, s4, s5, _, _ => ⟨_, rfl⟩
  | d :: D, dn, last, s3, s4, s5, h, hl => by
    obtain ⟨h1, h2, h3, h4⟩ := h d List.mem_cons_self
    have hr := fun x hx => h x (List.mem_cons_of_mem d hx)
    have e0 : tgT 3 (tgsC (tgN 3) (tgsC (tgN 4) (tgsC (tgN 5) tgsN))) (encD d) [some (.d x0), some (.d (intL dn)), some (.d (.int last)), s3, s4, s5, s6, none] = some (atD x0 dn last d s6) := by
      simp [encD]
    rw [List.map_cons, loopM_cons e0, goodD_if dn last d D h2 h3 h4]
    by_cases c : last ≤ d.tick ∧ decide (d.key ∈ dn) = !d.down
    · have hd : (downZ dn d).length ≤ dn.length + 1 := by
        unfold downZ
        split
        · simp
        · exact Nat.le_succ_of_le (List.length_filter_le _ _)
      obtain ⟨S', e⟩ := are_loop x0 s6 D (downZ dn d) d.tick (some (.d (.int d.tick))) (some (.d (.str (wordD d.down)))) (some (.d (.int d.key))) hr (by simp at hl; omega)
      refine ⟨S', ?_⟩
      rw [if_pos c, are_ok x0 s6 dn last d (by simp at hl; omega) c.1 c.2, lp_nx, e]
    · refine ⟨(atD x0 dn last d s6).tail, ?_⟩
      rw [if_neg c, are_no x0 s6 dn last d c]
      rfl
theorem e_are_deeds (x : PyData) (h : okD x = true) : f_are_deeds [.d x] = .ok (.d (.bool (deedsO x).isSome)) [.d x] := by
  have hx := okD_noDic h
  cases x with
  | dict _ => cases hx
  | list xs =>
    have ho := okD_list h
    by_cases hl : xs.length ≤ 80
    · have hl2 : ¬ (80 : Int) < (xs.length : Int) := by omega
      have q1 : xs.length < 16777216 := by omega
      have lc : lcL (tgN 6) ct1_are_deeds ce1_are_deeds [some (.d (.list xs)), none, none, none, none, none, none, none] xs = some (xs.filter fun x => !isDeed x) := by
        have := lcL_enc (tg := tgN 6) (mt := ct1_are_deeds) (me := ce1_are_deeds) (S := [some (.d (.list xs)), none, none, none, none, none, none, none]) id (fun x => !isDeed x) id xs fun b hb => ⟨_, rfl, by simp [ct1_are_deeds, ce1_are_deeds, e_is_deed b (ho b hb)]⟩
        simpa using this
      cases e : deedsL xs with
      | none =>
        obtain ⟨y, hy, hn⟩ := deedsL_none e
        have hf : (xs.filter fun x => !isDeed x).isEmpty = false := by
          rw [List.isEmpty_eq_false_iff]
          exact fun z => by
            have := List.filter_eq_nil_iff.mp z y hy
            simp [hn] at this
        have hd : deedsO (.list xs) = none := by
          unfold deedsO
          simp only [hl, if_true, e]
        rw [hd]
        simp [fnM_ap, p0_are_deeds, p1_are_deeds, p2_are_deeds, p3_are_deeds, p4_are_deeds, b_are_deeds, f_are_deeds, hl2, q1, lc, wipeS, hf]
      | some D =>
        obtain ⟨rfl, hr⟩ := deedsL_some e
        have hf : ((D.map encD).filter fun x => !isDeed x) = [] := List.filter_eq_nil_iff.mpr fun y hy => by
          obtain ⟨d, hd, rfl⟩ := List.mem_map.mp hy
          obtain ⟨h1, h2, h3, h4⟩ := hr d hd
          rw [← deedO_is, deedO_enc h1 h2 h3 h4]
          simp
        have hd : deedsO (.list (D.map encD)) = if goodD [] 0 D = true then some D else none := by
          unfold deedsO
          simp only [hl, if_true, e]
        have hl3 : ¬ (80 : Int) < (D.length : Int) := by simpa using hl2
        have q3 : D.length < 16777216 := by simpa using q1
        obtain ⟨S', el⟩ := are_loop (dlist D) none D [] 0 none none none hr (by simp at hl ⊢; omega)
        have el : loopM (tgT 3 (tgsC (tgN 3) (tgsC (tgN 4) (tgsC (tgN 5) tgsN)))) l1_are_deeds (D.map encD) [some (.d (dlist D)), some (.d (.list [])), some (.d (.int 0)), none, none, none, none, none] = _ := el
        rw [hd]
        rw [hf] at lc
        by_cases hg : goodD [] 0 D = true
        · rw [if_pos hg] at el ⊢
          simp [fnM_ap, p0_are_deeds, p1_are_deeds, p2_are_deeds, p3_are_deeds, p4_are_deeds, b_are_deeds, f_are_deeds, hl3, q3, lc, wipeS, el]
        · rw [if_neg hg] at el ⊢
          simp [fnM_ap, p0_are_deeds, p1_are_deeds, p2_are_deeds, p3_are_deeds, p4_are_deeds, b_are_deeds, f_are_deeds, hl3, q3, lc, wipeS, el]
    · have hl2 : (80 : Int) < (xs.length : Int) := by omega
      have hd : deedsO (.list xs) = none := by
        unfold deedsO
        simp only [hl, if_false]
      rw [hd]
      simp [fnM_ap, p0_are_deeds, p1_are_deeds, p2_are_deeds, p3_are_deeds, p4_are_deeds, b_are_deeds, f_are_deeds, hl2]
  | _ => simp [fnM_ap, p0_are_deeds, p1_are_deeds, p2_are_deeds, p3_are_deeds, p4_are_deeds, b_are_deeds, f_are_deeds, deedsO]
theorem e_look_deeds (x : PyData) (h : okD x = true) : f_look_deeds [.d x] = if (deedsO x).isSome = true then .ok (.d .none) [.d x] else .exc "NoDeeds" [.d x] := by
  cases e : (deedsO x).isSome <;> simp [fnM_ap, b_look_deeds, f_look_deeds, e_are_deeds x h, e]
theorem e_look_heard (a b c : PyData) (ha : okD a = true) (hb : okD b = true) (hc : okD c = true) : f_look_heard [.d a, .d b, .d c] = if isS a = true then (if (deedsO b).isSome = true then (if isW c 0 1000 = true then .ok (.d .none) [.d a, .d b, .d c] else .exc "NoCount" [.d a, .d b, .d c]) else .exc "NoDeeds" [.d a, .d b, .d c]) else .exc "NoSetting" [.d a, .d b, .d c] := by
  cases e1 : isS a with
  | false => simp [fnM_ap, b_look_heard, f_look_heard, e_look_no a ha e1]
  | true => cases e2 : (deedsO b).isSome <;> cases e3 : isW c 0 1000 <;> simp [fnM_ap, b_look_heard, f_look_heard, e_look_ok a ha e1, e_look_deeds b hb, e_within c 0 1000 (okD_noDic hc), e2, e3]
/-! deeds lay -/
theorem lay_encD (d : Deed) : lay 1 (encD d) = true := lay_tuple (k := 0) fun x hx => by
  simp only [List.mem_cons, List.not_mem_nil, or_false] at hx
  rcases hx with e | e | e <;> subst e
  · exact lay_int _ _
  · cases d.down <;> decide +kernel
  · exact lay_int _ _
theorem lay_dlist (D : List Deed) : lay 2 (dlist D) = true := lay_list (k := 1) fun x hx => by
  obtain ⟨d, _, rfl⟩ := List.mem_map.mp hx
  exact lay_encD d
theorem okD_dlist (D : List Deed) : okD (dlist D) = true := lay_sh (lay_dlist D) (by decide)
end K19

set_option maxHeartbeats 1000000
namespace K19
open PySem PySem.Spec PyProof.Rows L2 M
/-! what is heard -/
def doA (a : PA) (d : Deed) : PA := if d.down = true then pressA a d.key else leaveA a d.key
def canA (a : PA) (d : Deed) : Prop := 0 ≤ d.key ∧ d.key ≤ 35 ∧ (decide (d.key ∈ a.down) = !d.down)
theorem InvP.do_ {a : PA} (h : InvP a) {d : Deed} (hd : canA a d) : InvP (doA a d) := by
  obtain ⟨h0, h1, h2⟩ := hd
  unfold doA
  split
  · rename_i e
    exact h.press_ h0 h1 (by simpa [e] using h2)
  · exact h.leave_ _
theorem do_down {a : PA} (h : InvP a) (d : Deed) : (doA a d).down = downZ a.down d := by
  unfold doA downZ
  split
  · rfl
  · show a.down.erase d.key = _
    rw [h.dnd.erase_eq_filter]
    apply List.filter_congr
    intro x _
    by_cases e : x = d.key <;> simp [e]
theorem do_now (a : PA) (d : Deed) : (doA a d).now = a.now := by
  unfold doA
  split <;> rfl
def dosA (a : PA) (L : List Deed) : PA := L.foldl doA a
theorem dos_now (L : List Deed) : ∀ a : PA, (dosA a L).now = a.now := by
  induction L with
  | nil => intro a; rfl
  | cons d L ih => intro a; show (dosA (doA a d) L).now = _; rw [ih, do_now]
/-- the player ahead of the deeds of tick i -/
def atA (s : Set7) (D : List Deed) : Nat → PA
  | 0 => newA s
  | i + 1 => tickA (dosA (atA s D i) (D.filter fun d => decide (d.tick = (i : Int))))
/-- .. behind the deeds of tick i -/
def inA (s : Set7) (D : List Deed) (i : Nat) : PA := dosA (atA s D i) (D.filter fun d => decide (d.tick = (i : Int)))
def rowsA (s : Set7) (D : List Deed) (i : Nat) : List (Bool × Int) := toldA (inA s D i)
def heardZ (s : Set7) (D : List Deed) (n : Nat) : List (Int × Bool × Int) := (List.range n).flatMap fun i => (rowsA s D i).map fun p => ((i : Int), p)
def encH (h : Int × Bool × Int) : PyData := .tuple [.int h.1, .str (if h.2.1 = true then "on" else "off"), .int h.2.2]
theorem heardZ_succ (s : Set7) (D : List Deed) (n : Nat) : heardZ s D (n + 1) = heardZ s D n ++ (rowsA s D n).map fun p => ((n : Int), p) := by
  unfold heardZ
  rw [List.range_succ, List.flatMap_append]
  simp
theorem at_now (s : Set7) (D : List Deed) : ∀ i, (atA s D i).now = (i : Int)
  | 0 => rfl
  | i + 1 => by
    show (tickA (dosA (atA s D i) _)).now = _
    rw [tick_now, dos_now, at_now s D i]
    simp
section
variable {s : Set7} {D : List Deed}
/-- invariants along deeds that hands can do -/
structure AtOk (D : List Deed) (a : PA) (pre : List Deed) : Prop where
  inv : InvP a
  down : a.down = pre.foldl downZ []
theorem can_of (hg : goodD [] 0 D = true) {pre post : List Deed} {d : Deed} {a : PA} (hD : D = pre ++ d :: post) (h : AtOk D a pre) : canA a d := by
  rw [hD] at hg
  obtain ⟨_, _, h3, h4, h5⟩ := goodD_at hg
  exact ⟨h3, h4, by rw [h.down]; exact h5⟩
theorem AtOk.do_ (hg : goodD [] 0 D = true) {pre post : List Deed} {d : Deed} {a : PA} (hD : D = pre ++ d :: post) (h : AtOk D a pre) : AtOk D (doA a d) (pre ++ [d]) :=
  ⟨h.inv.do_ (can_of hg hD h), by rw [do_down h.inv, h.down, List.foldl_append]; rfl⟩
/-- within the deeds of one tick -/
theorem in_ok' (hg : goodD [] 0 D = true) {a : PA} {i : Int} (h : AtOk D a (D.filter fun d => decide (d.tick < i))) : ∀ (k : Nat) {pre post : List Deed}, pre.length = k → D = pre ++ post → AtOk D (dosA a (pre.filter fun d => decide (d.tick = i))) ((D.filter fun d => decide (d.tick < i)) ++ pre.filter fun d => decide (d.tick = i))
  | 0, pre, post, hk, _ => by
    have : pre = [] := List.eq_nil_of_length_eq_zero hk
    subst this
    rw [List.filter_nil, List.append_nil]
    exact h
  | k + 1, pre, post, hk, hD => by
    rcases List.eq_nil_or_concat pre with e | ⟨pre', d, e⟩
    · subst e; cases hk
    · subst e
      rw [List.concat_eq_append] at *
      have hD : D = pre' ++ d :: post := by rw [hD]; simp
      have ih := in_ok' hg h k (pre := pre') (post := d :: post) (by simpa using hk) hD
      by_cases e : d.tick = i
      · have hp := filt_pre (hD ▸ goodD_sorted hg)
        rw [← hD, e] at hp
        rw [hp] at ih
        have := ih.do_ hg hD
        have e1 : ((pre' ++ [d]).filter fun d => decide (d.tick = i)) = (pre'.filter fun d => decide (d.tick = i)) ++ [d] := by simp [e]
        rw [e1, ← List.append_assoc, hp]
        have e2 : dosA a ((pre'.filter fun d => decide (d.tick = i)) ++ [d]) = doA (dosA a (pre'.filter fun d => decide (d.tick = i))) d := by unfold dosA; rw [List.foldl_append]; rfl
        rw [e2]
        exact this
      · have e1 : ((pre' ++ [d]).filter fun d => decide (d.tick = i)) = (pre'.filter fun d => decide (d.tick = i)) := by simp [e]
        rw [e1]
        exact ih
theorem in_ok (hg : goodD [] 0 D = true) {a : PA} {i : Int} (h : AtOk D a (D.filter fun d => decide (d.tick < i))) {pre post : List Deed} (hD : D = pre ++ post) : AtOk D (dosA a (pre.filter fun d => decide (d.tick = i))) ((D.filter fun d => decide (d.tick < i)) ++ pre.filter fun d => decide (d.tick = i)) := in_ok' hg h pre.length rfl hD
theorem in_can (hg : goodD [] 0 D = true) {a : PA} {d : Deed} (h : AtOk D a (D.filter fun x => decide (x.tick < d.tick))) {pre post : List Deed} (hD : D = pre ++ d :: post) : canA (dosA a (pre.filter fun x => decide (x.tick = d.tick))) d ∧ InvP (dosA a (pre.filter fun x => decide (x.tick = d.tick))) := by
  have h1 := in_ok hg h (pre := pre) (post := d :: post) hD
  have hp := filt_pre (hD ▸ goodD_sorted hg)
  rw [← hD] at hp
  rw [hp] at h1
  exact ⟨can_of hg hD h1, h1.inv⟩
theorem at_ok (hs : OkSet s) (hg : goodD [] 0 D = true) : ∀ i : Nat, AtOk D (atA s D i) (D.filter fun d => decide (d.tick < (i : Int)))
  | 0 => ⟨InvP.new hs, by
      have : (D.filter fun d => decide (d.tick < ((0 : Nat) : Int))) = [] := List.filter_eq_nil_iff.mpr fun d hd => by
        have := goodD_ge hg d hd
        simp; omega
      rw [this]; rfl⟩
  | i + 1 => by
    have h := in_ok hg (at_ok hs hg i) (pre := D) (post := []) (by simp)
    rw [filt_split (i : Int) (goodD_sorted hg)] at h
    exact ⟨h.inv.tick_, by rw [show atA s D (i + 1) = tickA (dosA (atA s D i) (D.filter fun d => decide (d.tick = (i : Int)))) from rfl, tick_down, h.down]; simp⟩
theorem in_inv (hs : OkSet s) (hg : goodD [] 0 D = true) (i : Nat) : InvP (inA s D i) := (in_ok hg (at_ok hs hg i) (pre := D) (post := []) (by simp)).inv
theorem heardZ_len (hs : OkSet s) (hg : goodD [] 0 D = true) : ∀ n : Nat, (heardZ s D n).length ≤ 62 * n
  | 0 => by simp [heardZ]
  | n + 1 => by
    have := heardZ_len hs hg n
    have := told_len (in_inv hs hg n)
    rw [heardZ_succ, List.length_append, List.length_map]
    show _ + (toldA (inA s D n)).length ≤ _
    omega
end
theorem e_do (a : PA) (hI : InvP a) (d : Deed) (hd : canA a d) : f_do [mvP a, .d (encD d)] = .ok (.d .none) [mvP (doA a d), .d (encD d)] := by
  obtain ⟨h0, h1, h2⟩ := hd
  have g1 : gIx (encD d) (.int 1) = some (.d (.str (wordD d.down))) := rfl
  have g2 : gIx (encD d) (.int 2) = some (.d (.int d.key)) := rfl
  cases e : d.down with
  | true =>
    have hk : d.key ∉ a.down := by simpa [e] using h2
    simp [fnM_ap, b_do, f_do, g1, g2, e, wordD, isO_press, e_press_ok a hI d.key h0 h1 hk, doA]
  | false =>
    have hk : d.key ∈ a.down := by simpa [e] using h2
    simp [fnM_ap, b_do, f_do, g1, g2, e, wordD, sn_down_up, isO_leave, e_leave_ok a hI d.key h0 h1 hk, doA]
theorem e_heard (s : Set7) (hs : OkSet s) (D : List Deed) (hg : goodD [] 0 D = true) (hl : D.length ≤ 80) (hok : okD (dlist D) = true) (n : Int) (n0 : 0 ≤ n) (n1 : n ≤ 1000) : f_heard [.d (setD s), .d (dlist D), .d (.int n)] = .ok (.nw (.lst ((heardZ s D n.toNat).map encH))) [.d (setD s), .d (dlist D), .d (.int n)] := by
  have lk := e_look_heard (setD s) (dlist D) (.int n) (okD_set hs) hok (shaped_int n)
  rw [isS_ok hs, deedsO_good hg hl] at lk
  have hw : isW (.int n) 0 1000 = true := by simp [isW, n0, n1]
  simp only [hw, Option.isSome_some, if_true] at lk
  have inner : ∀ (i : Nat) (found : List PyData) (s6 : Option MV), ∃ s6', loopM (tgN 6) l1_heard (D.map encD) [some (.d (setD s)), some (.d (dlist D)), some (.d (.int n)), some (mvP (atA s D i)), some (.lst found), some (.d (.int (i : Int))), s6, none] = .nx [some (.d (setD s)), some (.d (dlist D)), some (.d (.int n)), some (mvP (inA s D i)), some (.lst found), some (.d (.int (i : Int))), s6', none] := fun i found s6 => by
    obtain ⟨S', e, s6', hS⟩ := loopM_all (f := tgN 6) (body := l1_heard) encD (fun pre S => ∃ s6, S = [some (.d (setD s)), some (.d (dlist D)), some (.d (.int n)), some (mvP (dosA (atA s D i) (pre.filter fun d => decide (d.tick = (i : Int))))), some (.lst found), some (.d (.int (i : Int))), s6, none]) D _ ⟨s6, rfl⟩ (by
      intro pre d post S hD hS
      obtain ⟨t6, rfl⟩ := hS
      refine ⟨_, rfl, ?_⟩
      have g0 : gIx (encD d) (.int 0) = some (.d (.int d.tick)) := rfl
      by_cases e : d.tick = (i : Int)
      · have hat := at_ok hs hg i
        rw [← e] at hat
        obtain ⟨c1, c2⟩ := in_can hg hat hD
        rw [e] at c1 c2
        have e1 : ((pre ++ [d]).filter fun d => decide (d.tick = (i : Int))) = (pre.filter fun d => decide (d.tick = (i : Int))) ++ [d] := by simp [e]
        have e2 : dosA (atA s D i) ((pre.filter fun d => decide (d.tick = (i : Int))) ++ [d]) = doA (dosA (atA s D i) (pre.filter fun d => decide (d.tick = (i : Int)))) d := by unfold dosA; rw [List.foldl_append]; rfl
        rw [e1, e2]
        obtain ⟨b, hb⟩ : ∃ b, b = dosA (atA s D i) (pre.filter fun d => decide (d.tick = (i : Int))) := ⟨_, rfl⟩
        rw [← hb] at c1 c2 ⊢
        have ed := e_do b c2 d c1
        refine lpOk_of (S2 := [some (.d (setD s)), some (.d (dlist D)), some (.d (.int n)), some (mvP (doA b d)), some (.lst found), some (.d (.int (i : Int))), some (.d (encD d)), none]) ?_ ⟨_, rfl⟩
        simp [l1_heard, g0, eq_true e, ed]
      · have e1 : ((pre ++ [d]).filter fun d => decide (d.tick = (i : Int))) = (pre.filter fun d => decide (d.tick = (i : Int))) := by simp [e]
        rw [e1]
        obtain ⟨b, hb⟩ : ∃ b, b = dosA (atA s D i) (pre.filter fun d => decide (d.tick = (i : Int))) := ⟨_, rfl⟩
        rw [← hb]
        refine lpOk_of (S2 := [some (.d (setD s)), some (.d (dlist D)), some (.d (.int n)), some (mvP b), some (.lst found), some (.d (.int (i : Int))), some (.d (encD d)), none]) ?_ ⟨_, rfl⟩
        simp [l1_heard, g0, e])
    subst hS
    exact ⟨s6', e⟩
  obtain ⟨S', e, s5, s6, hS⟩ := loopM_all (f := tgN 5) (body := l2_heard) (fun i : Nat => PyData.int (i : Int)) (fun pre S => ∃ s5 s6, S = [some (.d (setD s)), some (.d (dlist D)), some (.d (.int n)), some (mvP (atA s D pre.length)), some (.lst ((heardZ s D pre.length).map encH)), s5, s6, none]) (List.range n.toNat) [some (.d (setD s)), some (.d (dlist D)), some (.d (.int n)), some (mvP (newA s)), some (.lst []), none, none, none] ⟨none, none, rfl⟩ (by
    intro pre i post S hD hS
    obtain ⟨t5, t6, rfl⟩ := hS
    have hpi : pre.length = i := by
      have h1 : (List.range n.toNat)[pre.length]? = some i := by rw [hD]; simp
      have hlt : pre.length < n.toNat := by
        have := congrArg List.length hD
        simp at this; omega
      rw [List.getElem?_range hlt] at h1
      exact Option.some.inj h1
    have hlt : i < 1000 := by
      have : i ∈ List.range n.toNat := by rw [hD]; simp
      have := List.mem_range.mp this
      omega
    rw [hpi]
    refine ⟨_, rfl, ?_⟩
    obtain ⟨s6', ei⟩ := inner i ((heardZ s D i).map encH) t6
    have hI := in_inv hs hg i
    have et := e_tick (inA s D i) hI
    have tl := told_len hI
    have hlen := heardZ_len hs hg i
    have q1 : (toldA (inA s D i)).length < 16777216 := by omega
    have q2 : (heardZ s D i).length + (toldA (inA s D i)).length ≤ 16777216 := by omega
    have lc : ∀ (y3 y4 y6 : Option MV), lcL (tgN 7) myes ce1_heard [some (.d (setD s)), some (.d (dlist D)), some (.d (.int n)), y3, y4, some (.d (.int (i : Int))), y6, none] ((toldA (inA s D i)).map encT) = some (((toldA (inA s D i)).map fun p => ((i : Int), p)).map encH) := fun y3 y4 y6 => by
      have := lcL_enc (tg := tgN 7) (mt := myes) (me := ce1_heard) (S := [some (.d (setD s)), some (.d (dlist D)), some (.d (.int n)), y3, y4, some (.d (.int (i : Int))), y6, none]) encT (fun _ => true) (fun p => encH ((i : Int), p)) (toldA (inA s D i)) fun p hp => ⟨_, rfl, by simp [ce1_heard, encT, encH]⟩
      rw [this, List.filter_eq_self.mpr (fun _ _ => rfl), List.map_map]
      rfl
    refine lpOk_of (S2 := [some (.d (setD s)), some (.d (dlist D)), some (.d (.int n)), some (mvP (atA s D (i + 1))), some (.lst ((heardZ s D (i + 1)).map encH)), some (.d (.int (i : Int))), s6', none]) ?_ ⟨some (.d (.int (i : Int))), s6', by rw [List.length_append, hpi]; rfl⟩
    rw [heardZ_succ, show atA s D (i + 1) = tickA (inA s D i) from rfl]
    have ei : loopM (tgN 6) l1_heard (D.map encD) [some (.d (setD s)), some (.d (dlist D)), some (.d (.int n)), some (mvP (atA s D i)), some (.lst ((heardZ s D i).map encH)), some (.d (.int (i : Int))), t6, none] = _ := ei
    obtain ⟨b, hb⟩ : ∃ b, b = inA s D i := ⟨_, rfl⟩
    rw [show rowsA s D i = toldA (inA s D i) from rfl]
    rw [← hb] at ei et q1 q2 lc ⊢
    obtain ⟨a, ha⟩ : ∃ a, a = atA s D i := ⟨_, rfl⟩
    rw [← ha] at ei ⊢
    simp [l2_heard, ei, isO_tick, et, q1, q2, lc, wipeS])
  rw [← rng_nat] at e
  rw [List.length_range] at hS
  subst hS
  have ei := e_init s hs
  have e : loopM (tgN 5) l2_heard (rngD 0 1 n.toNat) [some (.d (setD s)), some (.d (dlist D)), some (.d (.int n)), some (.obj "Player" (pfl (.d (setD s)) (.lst []) (.lst []) (.d (.int 0)) (.d (dueD none)) (.d (.int 0)) (.d (.list [])) (.dic (kvI [])))), some (.lst []), none, none, none] = _ := e
  have n2 : -1000000000 ≤ n := by omega
  have n3 : n ≤ 1000000000 := by omega
  simp [fnM_ap, p0_heard, p1_heard, p2_heard, p3_heard, p4_heard, b_heard, f_heard, lk, makeR, ei, n2, n3, e]
end K19

set_option maxHeartbeats 1000000
namespace K19
open PySem PySem.Spec PyProof.Rows L2 M
/-! deeds drawn -/
theorem goodD_snoc : ∀ {D : List Deed} {dn : List Int} {last : Int} {d : Deed}, goodD dn last D = true → (∀ x ∈ D, x.tick ≤ d.tick) → last ≤ d.tick → d.tick ≤ 999 → 0 ≤ d.key → d.key ≤ 35 → (decide (d.key ∈ D.foldl downZ dn) = !d.down) → goodD dn last (D ++ [d]) = true
  | [], dn, last, d, _, _, h1, h2, h3, h4, h5 => by
    show goodD dn last [d] = true
    rw [goodD_if _ _ _ _ h2 h3 h4, if_pos ⟨h1, h5⟩]
    rfl
  | x :: D, dn, last, d, hg, ht, h1, h2, h3, h4, h5 => by
    obtain ⟨g1, g2, g3, g4, g5, g6⟩ := goodD_cons hg
    show goodD dn last (x :: (D ++ [d])) = true
    rw [goodD_if _ _ _ _ g2 g3 g4, if_pos ⟨g1, g5⟩]
    exact goodD_snoc g6 (fun y hy => ht y (List.mem_cons_of_mem _ hy)) (ht x List.mem_cons_self) h2 h3 h4 h5
theorem ix_3930 (s : Int) : ∃ m : Int, 0 < m ∧ m ≤ 30 ∧ gIx (.list [.int 3, .int 9, .int 30]) (.int (s / 5 % 3)) = some (.d (.int m)) := by
  have : s / 5 % 3 = 0 ∨ s / 5 % 3 = 1 ∨ s / 5 % 3 = 2 := by omega
  rcases this with e | e | e <;> rw [e]
  · exact ⟨3, by decide, by decide, rfl⟩
  · exact ⟨9, by decide, by decide, rfl⟩
  · exact ⟨30, by decide, by decide, rfl⟩
theorem ix_366 (s : Int) : ∃ m : Int, 0 < m ∧ m ≤ 36 ∧ gIx (.list [.int 36, .int 6]) (.int (s / 7 % 2)) = some (.d (.int m)) := by
  have : s / 7 % 2 = 0 ∨ s / 7 % 2 = 1 := by omega
  rcases this with e | e <;> rw [e]
  · exact ⟨36, by decide, by decide, rfl⟩
  · exact ⟨6, by decide, by decide, rfl⟩
theorem e_law_deeds (s many : Int) (h0 : 0 ≤ many) (h1 : many ≤ 100) : ∃ D, f_law_deeds [.d (.int s), .d (.int many)] = .ok (.nw (.lst (D.map encD))) [.d (.int s), .d (.int many)] ∧ goodD [] 0 D = true ∧ D.length = many.toNat := by
  obtain ⟨w, w0, w1, iw⟩ := ix_3930 s
  obtain ⟨m, m0, m1, im⟩ := ix_366 s
  have gm : ∀ x : Int, gMod (.int x) (.int w) = some (.d (.int (x % w))) := fun x => gMod_ii w0
  obtain ⟨S', e, D, dn, tick, s6, s7, s8, hS, hg, hdn, ht, t0, t1, hl⟩ := loopM_all (f := tgN 6) (body := l1_law_deeds) (fun i : Nat => PyData.int (i : Int)) (fun pre S => ∃ D dn tick s6 s7 s8, S = [some (.d (.int s)), some (.d (.int many)), some (.lst (D.map encD)), some (.d (intL dn)), some (.d (.int tick)), some (.d (.int w)), s6, s7, s8, none] ∧ goodD [] 0 D = true ∧ dn = D.foldl downZ [] ∧ (∀ x ∈ D, x.tick ≤ tick) ∧ 0 ≤ tick ∧ tick ≤ 999 ∧ D.length = pre.length) (List.range many.toNat) [some (.d (.int s)), some (.d (.int many)), some (.lst []), some (.d (.list [])), some (.d (.int 0)), some (.d (.int w)), none, none, none, none] ⟨[], [], 0, none, none, none, rfl, rfl, rfl, fun _ hx => (by cases hx), by decide, by decide, rfl⟩ (by
    intro pre i post S hD hS
    obtain ⟨D, dn, tick, s6, s7, s8, rfl, hg, hdn, ht, t0, t1, hl⟩ := hS
    refine ⟨_, rfl, ?_⟩
    have hpl : pre.length < 100 := by
      have := congrArg List.length hD
      simp at this; omega
    obtain ⟨k, hk⟩ : ∃ k : Int, k = (i : Int) := ⟨_, rfl⟩
    rw [← hk]
    obtain ⟨one, ho⟩ : ∃ one, one = seedZ s k := ⟨_, rfl⟩
    obtain ⟨tk, htk⟩ : ∃ tk, tk = (if tick + one / 7 % w < 999 then tick + one / 7 % w else 999) := ⟨_, rfl⟩
    have r0 : 0 ≤ one / 7 % w := Int.emod_nonneg _ (by omega)
    have tk0 : tick ≤ tk := by rw [htk]; split <;> omega
    have tk1 : tk ≤ 999 := by rw [htk]; split <;> omega
    obtain ⟨key, hkey⟩ : ∃ key, key = pickZ (seedZ one 1) m := ⟨_, rfl⟩
    have k0 : 0 ≤ key := by rw [hkey]; exact pick_lo m0
    have k1 : key ≤ 35 := by have := pick_hi (s := seedZ one 1) m0; rw [← hkey] at this; omega
    have dl : ∀ (L : List Deed) (d0 : List Int), (L.foldl downZ d0).length ≤ d0.length + L.length := fun L => by
      induction L with
      | nil => intro d0; simp
      | cons x L ih =>
        intro d0
        have := ih (downZ d0 x)
        have h2 : (downZ d0 x).length ≤ d0.length + 1 := by
          unfold downZ
          split
          · simp
          · exact Nat.le_succ_of_le (List.length_filter_le _ _)
        simp only [List.foldl_cons, List.length_cons]
        omega
    have dr : ∀ x ∈ dn, 0 ≤ x ∧ x ≤ 35 := by
      have gen : ∀ (L : List Deed) (d0 : List Int), (∀ x ∈ d0, 0 ≤ x ∧ x ≤ 35) → (∀ d ∈ L, 0 ≤ d.key ∧ d.key ≤ 35) → ∀ x ∈ L.foldl downZ d0, 0 ≤ x ∧ x ≤ 35 := fun L => by
        induction L with
        | nil => intro d0 h _; exact h
        | cons y L ih =>
          intro d0 h hL
          refine ih (downZ d0 y) (fun x hx => ?_) fun d hd => hL d (List.mem_cons_of_mem _ hd)
          unfold downZ at hx
          split at hx
          · rcases List.mem_append.mp hx with h3 | h3
            · exact h x h3
            · rw [List.mem_singleton.mp h3]; exact hL y List.mem_cons_self
          · exact h x (List.mem_filter.mp hx).1
      rw [hdn]
      exact gen D [] (fun _ hx => by cases hx) fun d hd => (goodD_ge hg d hd).2.2
    have dnl := dl D []
    rw [← hdn] at dnl
    have q1 : dn.length < 16777216 := by simp at dnl; omega
    have q2 : dn.length + 1 ≤ 16777216 := by omega
    have q3 : D.length < 16777216 := by omega
    have ep := e_pick (seedZ one 1) m m0
    rw [← hkey] at ep
    have lc : ∀ (x2 x4 x5 x6 x7 : Option MV) (kk : Int), lcL (tgN 9) ct1_law_deeds ce1_law_deeds [some (.d (.int s)), some (.d (.int many)), x2, some (.d (intL dn)), x4, x5, x6, x7, some (.d (.int kk)), none] (dn.map PyData.int) = some ((dn.filter fun x => decide (x ≠ kk)).map PyData.int) := fun x2 x4 x5 x6 x7 kk => lcL_ints _ PyData.int dn fun n _ => by simp [ct1_law_deeds, ce1_law_deeds]
    have mn : (if tick + one / 7 % w < 999 then tick + one / 7 % w else 999) = tk := htk.symm
    have fin : ∀ d : Deed, d.tick = tk → 0 ≤ d.key → d.key ≤ 35 → (decide (d.key ∈ dn) = !d.down) → l1_law_deeds [some (.d (.int s)), some (.d (.int many)), some (.lst (D.map encD)), some (.d (intL dn)), some (.d (.int tick)), some (.d (.int w)), some (.d (.int k)), s7, s8, none] = .nx [some (.d (.int s)), some (.d (.int many)), some (.lst ((D ++ [d]).map encD)), some (.d (intL (downZ dn d))), some (.d (.int tk)), some (.d (.int w)), some (.d (.int k)), some (.d (.int one)), some (.d (.int d.key)), none] → lpOk (fun S => ∃ D dn tick s6 s7 s8, S = [some (.d (.int s)), some (.d (.int many)), some (.lst (D.map encD)), some (.d (intL dn)), some (.d (.int tick)), some (.d (.int w)), s6, s7, s8, none] ∧ goodD [] 0 D = true ∧ dn = D.foldl downZ [] ∧ (∀ x ∈ D, x.tick ≤ tick) ∧ 0 ≤ tick ∧ tick ≤ 999 ∧ D.length = (pre ++ [i]).length) (l1_law_deeds [some (.d (.int s)), some (.d (.int many)), some (.lst (D.map encD)), some (.d (intL dn)), some (.d (.int tick)), some (.d (.int w)), some (.d (.int k)), s7, s8, none]) := fun d d1 d2 d3 d4 ee => by
      refine lpOk_of ee ⟨D ++ [d], downZ dn d, tk, _, _, _, rfl, ?_, ?_, ?_, by omega, tk1, by simp [hl]⟩
      · exact goodD_snoc hg (fun x hx => by have := ht x hx; omega) (by omega) (by omega) d2 d3 (by rw [← hdn]; exact d4)
      · rw [List.foldl_append, ← hdn]; rfl
      · intro x hx
        rcases List.mem_append.mp hx with h | h
        · have := ht x h; omega
        · rw [List.mem_singleton.mp h]; omega
    by_cases c1 : key ∈ dn
    · refine fin ⟨tk, false, key⟩ rfl k0 k1 (by simp [c1]) ?_
      simp [l1_law_deeds, e_seed, ← ho, gm, mmin2, mn, im, ep, c1, lc, wipeS, q1, q3, encD, wordD, downZ]
    · by_cases c2 : dn = [] ∨ ¬ one / 11 % 5 < 2
      · refine fin ⟨tk, true, key⟩ rfl k0 k1 (by simp [c1]) ?_
        by_cases c3 : dn = []
        · simp [l1_law_deeds, e_seed, ← ho, gm, mmin2, mn, im, ep, c1, ne_nilL, eq_true c3, q2, q3, encD, wordD, downZ, intL]
        · have c4 : ¬ one / 11 % 5 < 2 := fun z => c2.elim c3 fun y => y z
          simp [l1_law_deeds, e_seed, ← ho, gm, mmin2, mn, im, ep, c1, ne_nilL, c3, c4, q2, q3, encD, wordD, downZ, intL]
      · have c3 : ¬ dn = [] := fun z => c2 (.inl z)
        have c4 : one / 11 % 5 < 2 := Classical.not_not.mp fun z => c2 (.inr z)
        have hpos : 0 < dn.length := List.length_pos_iff.mpr c3
        have hz : (0 : Int) < (dn.length : Int) := by omega
        have gm2 : ∀ x : Int, gMod (.int x) (.int (dn.length : Int)) = some (.d (.int (x % (dn.length : Int)))) := fun x => gMod_ii hz
        have j0 : 0 ≤ one / 13 % (dn.length : Int) := Int.emod_nonneg _ (by omega)
        have j1 : one / 13 % (dn.length : Int) < dn.length := Int.emod_lt_of_pos _ hz
        have ix := ix_ints j0 j1
        obtain ⟨kk, hkk⟩ : ∃ kk, kk = dn.getD (one / 13 % (dn.length : Int)).toNat 0 := ⟨_, rfl⟩
        have hmem : kk ∈ dn := by
          have : (one / 13 % (dn.length : Int)).toNat < dn.length := by omega
          rw [hkk, List.getD_eq_getElem?_getD, List.getElem?_eq_getElem this]
          exact List.getElem_mem this
        rw [← hkk] at ix
        refine fin ⟨tk, false, kk⟩ rfl (dr kk hmem).1 (dr kk hmem).2 (by simp [hmem]) ?_
        simp [l1_law_deeds, e_seed, ← ho, gm, mmin2, mn, im, ep, c1, ne_nilL, c3, c4, gm2, ix, lc, wipeS, q1, q3, encD, wordD, downZ, -List.getD_eq_getElem?_getD])
  subst hS
  rw [← rng_nat] at e
  have n2 : -1000000000 ≤ many := by omega
  have n3 : many ≤ 1000000000 := by omega
  refine ⟨D, ?_, hg, by rw [hl, List.length_range]⟩
  simp [fnM_ap, p0_law_deeds, p1_law_deeds, p2_law_deeds, p3_law_deeds, p4_law_deeds, b_law_deeds, f_law_deeds, iw, n2, n3, e]
end K19

set_option maxHeartbeats 1000000
namespace K19
open PySem PySem.Spec PyProof.Rows L2 M
theorem ix_map {β : Type} {enc : β → PyData} {xs : List β} {j : Int} {x : β} (h0 : 0 ≤ j) (hx : xs[j.toNat]? = some x) : gIx (.list (xs.map enc)) (.int j) = some (.d (enc x)) := by
  have hl : j.toNat < xs.length := by
    by_cases h : j.toNat < xs.length
    · exact h
    · rw [List.getElem?_eq_none (by omega)] at hx; cases hx
  rw [ix_nat h0 (by rw [List.length_map]; omega), List.getD_eq_getElem?_getD, List.getElem?_map, hx]
  rfl
/-! tones that end -/
theorem offs_nd {a : PA} (h : InvP a) : (offsA a).Nodup := by
  unfold offsA soundZ
  exact (((srt_perm _).nodup_iff).mpr h.en).filter _
theorem offs_end {a : PA} (h : InvP a) : (a.ends.filter fun p => decide (p.1 ∉ offsA a)) = (endA a).ends := by
  unfold endA
  apply List.filter_congr
  intro p hp
  have h1 := h.et p hp
  have h2 := valI_mem h.en (k := p.1) (v := p.2) hp
  have h3 : p.1 ∈ soundZ a := (srt_perm _).mem_iff.mpr (List.mem_map.mpr ⟨p, hp, rfl⟩)
  unfold offsA
  simp only [List.mem_filter, h3, h2, Option.some.injEq, decide_eq_true_eq, true_and]
  by_cases e : p.2 = a.now
  · simp [e]
  · have : a.now < p.2 := by omega
    simp [e, this]
/-! what sounds -/
theorem run_offs : ∀ {ks : List Int} {l : List Int}, ks.Nodup → (∀ k ∈ ks, k ∈ l) → runOk l (ks.map fun k => (false, k)) ∧ (ks.map fun k => (false, k)).foldl onA l = l.filter fun x => decide (x ∉ ks)
  | [], l, _, _ => ⟨trivial, (List.filter_eq_self.mpr fun _ _ => by simp).symm⟩
  | k :: ks, l, hn, hm => by
    have hn := List.nodup_cons.mp hn
    have e : onA l (false, k) = l.filter fun x => decide (x ≠ k) := rfl
    obtain ⟨h1, h2⟩ := run_offs (ks := ks) (l := onA l (false, k)) hn.2 fun x hx => by
      rw [e]
      refine List.mem_filter.mpr ⟨hm x (List.mem_cons_of_mem _ hx), ?_⟩
      simpa using fun z => hn.1 (by rw [← z]; exact hx)
    refine ⟨⟨by simpa using hm k List.mem_cons_self, h1⟩, ?_⟩
    rw [List.map_cons, List.foldl_cons, h2, e, List.filter_filter]
    apply List.filter_congr
    intro x _
    simp [Bool.and_comm]
theorem tick_run {a : PA} (h : InvP a) {l : List Int} (hp : l.Perm (a.ends.map (·.1))) : runOk l (toldA a) ∧ ((toldA a).foldl onA l).Perm ((tickA a).ends.map (·.1)) := by
  have hl : l.Nodup := hp.nodup_iff.mpr h.en
  obtain ⟨h1, h2⟩ := run_offs (ks := offsA a) (l := l) (offs_nd h) fun k hk => by
    unfold offsA at hk
    exact hp.mem_iff.mpr ((srt_perm _).mem_iff.mp (List.mem_filter.mp hk).1)
  have hp1 : (l.filter fun x => decide (x ∉ offsA a)).Perm ((endA a).ends.map (·.1)) := by
    rw [← offs_end h, keys_filter_mem (q := fun x => decide (x ∉ offsA a))]
    exact hp.filter _
  have hb : InvP (dueA (endA a)) := h.end_.due_
  obtain ⟨b, hbe⟩ : ∃ b, b = dueA (endA a) := ⟨_, rfl⟩
  have hp2 : (l.filter fun x => decide (x ∉ offsA a)).Perm (b.ends.map (·.1)) := by rw [hbe]; exact hp1
  rw [← hbe] at hb
  have key : ∀ m : List Int, m.Perm (b.ends.map (·.1)) → runOk m (goA b).2 ∧ ((goA b).2.foldl onA m).Perm ((goA b).1.ends.map (·.1)) := by
    intro m hm
    have hmn : m.Nodup := hm.nodup_iff.mpr hb.en
    unfold goA
    split
    · show runOk m (onsA b) ∧ ((onsA b).foldl onA m).Perm ((putI b.ends (toneA b) (b.now + b.se.gate)).map (·.1))
      rw [keys_putI]
      unfold onsA
      by_cases ht : toneA b ∈ b.ends.map (·.1)
      · rw [if_pos ht, if_pos ht]
        have ht2 : toneA b ∈ m := hm.mem_iff.mpr ht
        have hn2 : toneA b ∉ m.filter fun x => decide (x ≠ toneA b) := fun z => by simpa using (List.mem_filter.mp z).2
        refine ⟨⟨by simpa using ht2, ⟨by simpa [onA] using hn2, trivial⟩⟩, ?_⟩
        have e : [((false, toneA b) : Bool × Int), (true, toneA b)].foldl onA m = (m.filter fun x => decide (x ≠ toneA b)) ++ [toneA b] := by
          show onA (m.filter fun x => decide (x ≠ toneA b)) (true, toneA b) = _
          unfold onA
          simp only [if_true]
          rw [if_neg hn2]
        rw [e]
        refine List.Perm.trans ?_ hm
        refine List.Perm.trans List.perm_append_comm ?_
        have : m.filter (fun x => decide (x ≠ toneA b)) = m.erase (toneA b) := by
          rw [hmn.erase_eq_filter]
          apply List.filter_congr
          intro x _
          by_cases e : x = toneA b <;> simp [e]
        rw [this]
        exact (List.perm_cons_erase ht2).symm
      · rw [if_neg ht, if_neg ht]
        have ht2 : toneA b ∉ m := fun z => ht (hm.mem_iff.mp z)
        refine ⟨⟨by simpa using ht2, trivial⟩, ?_⟩
        have e : [((true, toneA b) : Bool × Int)].foldl onA m = m ++ [toneA b] := by
          show onA m (true, toneA b) = _
          unfold onA
          simp only [if_true]
          rw [if_neg ht2]
        rw [e]
        exact hm.append_right _
    · exact ⟨trivial, hm⟩
  obtain ⟨k1, k2⟩ := key _ hp2
  unfold toldA
  rw [← hbe]
  refine ⟨runOk_app h1 (by rw [h2]; exact k1), ?_⟩
  rw [List.foldl_append, h2]
  have : (tickA a).ends = (goA b).1.ends := by rw [hbe]; rfl
  rw [this]
  exact k2
theorem do_ends (a : PA) (d : Deed) : (doA a d).ends = a.ends := by
  unfold doA
  split <;> rfl
theorem dos_ends (L : List Deed) : ∀ a : PA, (dosA a L).ends = a.ends := by
  induction L with
  | nil => intro a; rfl
  | cons d L ih => intro a; show (dosA (doA a d) L).ends = _; rw [ih, do_ends]
/-- the tones that sound ahead of tick i, as they are told -/
def hereA (s : Set7) (D : List Deed) : Nat → List Int
  | 0 => []
  | i + 1 => (rowsA s D i).foldl onA (hereA s D i)
section
variable {s : Set7} {D : List Deed}
theorem here_perm (hs : OkSet s) (hg : goodD [] 0 D = true) : ∀ i, (hereA s D i).Perm ((atA s D i).ends.map (·.1))
  | 0 => .nil
  | i + 1 => by
    have h := here_perm hs hg i
    have hI := in_inv hs hg i
    have e : (inA s D i).ends = (atA s D i).ends := dos_ends _ _
    rw [← e] at h
    exact (tick_run hI h).2
theorem here_run (hs : OkSet s) (hg : goodD [] 0 D = true) (i : Nat) : runOk (hereA s D i) (rowsA s D i) := by
  have h := here_perm hs hg i
  have hI := in_inv hs hg i
  have e : (inA s D i).ends = (atA s D i).ends := dos_ends _ _
  rw [← e] at h
  exact (tick_run hI h).1
theorem here_nodup : ∀ i, (hereA s D i).Nodup
  | 0 => .nil
  | i + 1 => by
    have gen : ∀ (r : List (Bool × Int)) (l : List Int), l.Nodup → (r.foldl onA l).Nodup := fun r => by
      induction r with
      | nil => intro l h; exact h
      | cons p r ih => intro l h; exact ih _ (onA_nodup h)
    exact gen _ _ (here_nodup i)
theorem here_srt (hs : OkSet s) (hg : goodD [] 0 D = true) (i : Nat) : srt (hereA s D i) = soundZ (atA s D i) := srt_perm_eq (here_perm hs hg i)
theorem at_inv (hs : OkSet s) (hg : goodD [] 0 D = true) (i : Nat) : InvP (atA s D i) := (at_ok hs hg i).inv
theorem here_len (hs : OkSet s) (hg : goodD [] 0 D = true) (i : Nat) : (hereA s D i).length < 64 := by
  have h1 := (here_perm hs hg i).length_eq
  have h2 := (at_inv hs hg i).el
  rw [List.length_map] at h1
  omega
end
def soundsZ (s : Set7) (D : List Deed) (n : Nat) : List (List Int) := (List.range n).map fun i => soundZ (atA s D (i + 1))
/-- a dict of truths -/
def kvB (l : List Int) : List (Key × PyData) := l.map fun t => (Sum.inl t, .bool true)
theorem keysI_kvB (l : List Int) : keysI (kvB l) = some l := by
  induction l with
  | nil => rfl
  | cons p l ih =>
    show (match keysI (kvB l) with | some ns => some (p :: ns) | none => none) = _
    rw [ih]
theorem sorted_kvB {l : List Int} {p : Path} (h : l.length < 64) : gSorted (.pk p (.dic (kvB l))) = some (.nw (.lst ((srt l).map PyData.int))) := by
  show (match keysI (kvB l) with | some ns => if ns.length < 64 then some (RV.nw (.lst ((srt ns).map PyData.int))) else none | none => none) = _
  rw [keysI_kvB]
  simp only [h, if_true]
theorem put_kvB (p : Path) (l : List Int) (t : Int) (S : MS) (h : l.length < 1000) (ht : t ∉ l) : putK1 p (kvB l) (.bool true) (.d (.int t)) S = .nx (updS p (.dic (kvB (l ++ [t]))) S) := by
  show (if (kvB l).length < 16777216 then RS.nx (updS p (.dic (putD (kvB l) (Sum.inl t) (.bool true))) S) else .stuck) = _
  have : putD (kvB l) (Sum.inl t) (.bool true) = kvB (l ++ [t]) := by
    unfold putD
    rw [if_neg]
    · simp [kvB]
    · simp only [kvB, List.any_map, List.any_eq_true, Function.comp, decide_eq_true_eq, Sum.inl.injEq, not_exists, not_and]
      exact fun x hx e => ht (by rw [← e]; exact hx)
  rw [if_pos (by simp [kvB]; omega), this]
theorem pop_kvB (p : Path) (l : List Int) (t : Int) (S : MS) (ht : t ∈ l) : popK1 p (kvB l) (.d (.int t)) S = .ok (.d (.bool true)) (updS p (.dic (kvB (l.filter fun x => decide (x ≠ t)))) S) := by
  show (match valD (kvB l) (Sum.inl t) with | some x => R.ok (RV.d x) (updS p (.dic (dropD (kvB l) (Sum.inl t))) S) | none => .stuck) = _
  have h1 : valD (kvB l) (Sum.inl t) = some (.bool true) := by
    unfold valD kvB
    induction l with
    | nil => cases ht
    | cons x l ih =>
      rw [List.map_cons, List.find?_cons]
      by_cases e : x = t
      · simp [e]
      · simp only [Sum.inl.injEq, e, decide_false]
        exact ih ((List.mem_cons.mp ht).resolve_left fun z => e z.symm)
  have h2 : dropD (kvB l) (Sum.inl t) = kvB (l.filter fun x => decide (x ≠ t)) := by
    unfold dropD kvB
    rw [List.filter_map]
    congr 1
    apply List.filter_congr
    intro x _
    simp
  rw [h1, h2]
theorem heard_split (s : Set7) (D : List Deed) (i : Nat) : ∀ n, i ≤ n → ∃ rest, heardZ s D n = heardZ s D i ++ rest ∧ ∀ h ∈ rest, (i : Int) ≤ h.1
  | 0, hi => ⟨[], by rw [Nat.le_zero.mp hi]; simp, fun _ h => by cases h⟩
  | n + 1, hi => by
    by_cases e : i = n + 1
    · exact ⟨[], by rw [e]; simp, fun _ h => by cases h⟩
    · obtain ⟨rest, h1, h2⟩ := heard_split s D i n (by omega)
      refine ⟨rest ++ (rowsA s D n).map fun p => ((n : Int), p), by rw [heardZ_succ, h1, List.append_assoc], fun h hh => ?_⟩
      rcases List.mem_append.mp hh with h3 | h3
      · exact h2 h h3
      · obtain ⟨p, _, rfl⟩ := List.mem_map.mp h3
        show (i : Int) ≤ (n : Int)
        omega
theorem e_sounds (s : Set7) (hs : OkSet s) (D : List Deed) (hg : goodD [] 0 D = true) (hl : D.length ≤ 80) (hok : okD (dlist D) = true) (n : Int) (n0 : 0 ≤ n) (n1 : n ≤ 1000) : f_sounds [.d (setD s), .d (dlist D), .d (.int n)] = .ok (.nw (.lst ((soundsZ s D n.toNat).map intL))) [.d (setD s), .d (dlist D), .d (.int n)] := by
  have eh := e_heard s hs D hg hl hok n n0 n1
  obtain ⟨R, hR⟩ : ∃ R, R = heardZ s D n.toNat := ⟨_, rfl⟩
  rw [← hR] at eh
  have hRl : R.length ≤ 62 * n.toNat := by rw [hR]; exact heardZ_len hs hg _
  have inner : ∀ (i : Nat) (found : List PyData), i < n.toNat → ∃ S', mwhile w1_sounds l1_sounds [some (.d (setD s)), some (.d (dlist D)), some (.d (.int n)), some (.d (.list (R.map encH))), some (.lst found), some (.dic (kvB (hereA s D i))), some (.d (.int ((heardZ s D i).length : Nat))), some (.d (.int (i : Int)))] = .nx S' ∧ S' = [some (.d (setD s)), some (.d (dlist D)), some (.d (.int n)), some (.d (.list (R.map encH))), some (.lst found), some (.dic (kvB (hereA s D (i + 1)))), some (.d (.int ((heardZ s D (i + 1)).length : Nat))), some (.d (.int (i : Int)))] := fun i found hi => by
    obtain ⟨rest, hr1, hr2⟩ := heard_split s D (i + 1) n.toNat (by omega)
    rw [← hR, heardZ_succ] at hr1
    refine mwhile_rel (fun k S => ∃ pre post, rowsA s D i = pre ++ post ∧ k = post.length ∧ S = [some (.d (setD s)), some (.d (dlist D)), some (.d (.int n)), some (.d (.list (R.map encH))), some (.lst found), some (.dic (kvB (pre.foldl onA (hereA s D i)))), some (.d (.int (((heardZ s D i).length + pre.length : Nat) : Int))), some (.d (.int (i : Int)))]) _ ?_ (rowsA s D i).length _ ⟨[], rowsA s D i, rfl, rfl, rfl⟩
    rintro k S ⟨pre, post, hp, hk, rfl⟩
    obtain ⟨at_, hat⟩ : ∃ at_ : Int, at_ = (((heardZ s D i).length + pre.length : Nat) : Int) := ⟨_, rfl⟩
    have hat0 : 0 ≤ at_ := by omega
    have hatN : at_.toNat = (heardZ s D i).length + pre.length := by omega
    rw [← hat]
    have hrun := here_run hs hg i
    rw [hp] at hrun
    have hlen : (pre.foldl onA (hereA s D i)).length < 1000 := by
      have hsub : ∀ (r : List (Bool × Int)) (l : List Int), (r.foldl onA l).length ≤ l.length + r.length := fun r => by
        induction r with
        | nil => intro l; simp
        | cons p r ih =>
          intro l
          have := ih (onA l p)
          have h2 : (onA l p).length ≤ l.length + 1 := by
            unfold onA
            split
            · split <;> simp
            · exact Nat.le_succ_of_le (List.length_filter_le _ _)
          simp only [List.foldl_cons, List.length_cons]
          omega
      have h1 := hsub pre (hereA s D i)
      have h2 := here_len hs hg i
      have h3 := told_len (in_inv hs hg i)
      have h4 : pre.length ≤ (rowsA s D i).length := by rw [hp]; simp
      have h5 : (rowsA s D i).length = (toldA (inA s D i)).length := rfl
      omega
    cases post with
    | nil =>
      rw [List.append_nil] at hp
      have e1 : pre.foldl onA (hereA s D i) = hereA s D (i + 1) := by rw [← hp]; rfl
      have e2 : at_ = (((heardZ s D (i + 1)).length : Nat) : Int) := by rw [hat, heardZ_succ, List.length_append, List.length_map, hp]
      have tf : w1_sounds [some (.d (setD s)), some (.d (dlist D)), some (.d (.int n)), some (.d (.list (R.map encH))), some (.lst found), some (.dic (kvB (pre.foldl onA (hereA s D i)))), some (.d (.int at_)), some (.d (.int (i : Int)))] = .ok false [some (.d (setD s)), some (.d (dlist D)), some (.d (.int n)), some (.d (.list (R.map encH))), some (.lst found), some (.dic (kvB (pre.foldl onA (hereA s D i)))), some (.d (.int at_)), some (.d (.int (i : Int)))] := by
        by_cases c : at_ < (R.length : Int)
        · have hx : ∃ x, R[at_.toNat]? = some x ∧ ((i + 1 : Nat) : Int) ≤ x.1 := by
            have hlt : at_.toNat < R.length := by omega
            refine ⟨R[at_.toNat], List.getElem?_eq_getElem hlt, ?_⟩
            have hge : (heardZ s D i ++ (rowsA s D i).map fun p => ((i : Int), p)).length ≤ at_.toNat := by rw [List.length_append, List.length_map, hp]; omega
            have : R[at_.toNat]? = rest[at_.toNat - (heardZ s D i ++ (rowsA s D i).map fun p => ((i : Int), p)).length]? := by rw [hr1, List.getElem?_append_right hge]
            rw [List.getElem?_eq_getElem hlt] at this
            exact hr2 _ (List.mem_of_getElem? this.symm)
          obtain ⟨x, hx, hxi⟩ := hx
          have ix := ix_map (enc := encH) hat0 hx
          have g0 : gIx (encH x) (.int 0) = some (.d (.int x.1)) := rfl
          have hne : ¬ x.1 = (i : Int) := by omega
          simp [w1_sounds, c, ix, g0, hne]
        · simp [w1_sounds, c]
      rw [tf, whT_ok, if_neg (by decide), e1, e2]
    | cons p post =>
      have hx : R[at_.toNat]? = some ((i : Int), p) := by
        rw [hatN, hr1, List.getElem?_append_left (by rw [List.length_append, List.length_map, hp]; simp), List.getElem?_append_right (by omega)]
        rw [hp]
        simp
      have hlt : at_ < (R.length : Int) := by
        have : at_.toNat < R.length := by
          by_cases h : at_.toNat < R.length
          · exact h
          · rw [List.getElem?_eq_none (by omega)] at hx; cases hx
        omega
      have ix := ix_map (enc := encH) hat0 hx
      have g0 : gIx (encH ((i : Int), p)) (.int 0) = some (.d (.int (i : Int))) := rfl
      have g1 : gIx (encH ((i : Int), p)) (.int 1) = some (.d (.str (if p.1 = true then "on" else "off"))) := rfl
      have g2 : gIx (encH ((i : Int), p)) (.int 2) = some (.d (.int p.2)) := rfl
      have tt : w1_sounds [some (.d (setD s)), some (.d (dlist D)), some (.d (.int n)), some (.d (.list (R.map encH))), some (.lst found), some (.dic (kvB (pre.foldl onA (hereA s D i)))), some (.d (.int at_)), some (.d (.int (i : Int)))] = .ok true [some (.d (setD s)), some (.d (dlist D)), some (.d (.int n)), some (.d (.list (R.map encH))), some (.lst found), some (.dic (kvB (pre.foldl onA (hereA s D i)))), some (.d (.int at_)), some (.d (.int (i : Int)))] := by
        simp [w1_sounds, hlt, ix, g0]
      rw [tt, whT_ok, if_pos rfl]
      have hrp : runOk (pre.foldl onA (hereA s D i)) (p :: post) := by
        have gen : ∀ (r q : List (Bool × Int)) (l : List Int), runOk l (r ++ q) → runOk (r.foldl onA l) q := fun r => by
          induction r with
          | nil => intro q l h; exact h
          | cons x r ih => intro q l h; exact ih q _ h.2
        exact gen pre (p :: post) _ hrun
      obtain ⟨l, hle⟩ : ∃ l, l = pre.foldl onA (hereA s D i) := ⟨_, rfl⟩
      rw [← hle] at hrp hlen ⊢
      have hb : l1_sounds [some (.d (setD s)), some (.d (dlist D)), some (.d (.int n)), some (.d (.list (R.map encH))), some (.lst found), some (.dic (kvB l)), some (.d (.int at_)), some (.d (.int (i : Int)))] = .nx [some (.d (setD s)), some (.d (dlist D)), some (.d (.int n)), some (.d (.list (R.map encH))), some (.lst found), some (.dic (kvB (onA l p))), some (.d (.int (at_ + 1))), some (.d (.int (i : Int)))] := by
        have hon : (("off" : Str) = "on") = False := eq_false (by decide +kernel)
        cases hw : p.1 with
        | true =>
          have ht : p.2 ∉ l := by have := hrp.1; rwa [if_pos hw] at this
          have ho : onA l p = l ++ [p.2] := by unfold onA; rw [if_pos hw, if_neg ht]
          rw [ho]
          simp [l1_sounds, ix, g1, g2, hw, put_kvB _ _ _ _ hlen ht]
        | false =>
          have ht : p.2 ∈ l := by have := hrp.1; rwa [if_neg (by simp [hw])] at this
          have ho : onA l p = l.filter fun x => decide (x ≠ p.2) := by unfold onA; rw [if_neg (by simp [hw])]
          rw [ho]
          simp [l1_sounds, ix, g1, g2, hw, hon, pop_kvB _ _ _ _ ht]
      rw [hb, whB_nx]
      refine ⟨post.length, by rw [hk]; simp, pre ++ [p], post, by rw [hp]; simp, rfl, ?_⟩
      rw [List.foldl_append, ← hle]
      have : at_ + 1 = (((heardZ s D i).length + (pre ++ [p]).length : Nat) : Int) := by rw [hat]; simp; omega
      rw [this]
      rfl
  obtain ⟨S', e, s7, hS⟩ := loopM_all (f := tgN 7) (body := l2_sounds) (fun i : Nat => PyData.int (i : Int)) (fun pre S => ∃ s7, S = [some (.d (setD s)), some (.d (dlist D)), some (.d (.int n)), some (.d (.list (R.map encH))), some (.lst ((soundsZ s D pre.length).map intL)), some (.dic (kvB (hereA s D pre.length))), some (.d (.int ((heardZ s D pre.length).length : Nat))), s7]) (List.range n.toNat) [some (.d (setD s)), some (.d (dlist D)), some (.d (.int n)), some (.d (.list (R.map encH))), some (.lst []), some (.dic []), some (.d (.int 0)), none] ⟨none, rfl⟩ (by
    intro pre i post S hD hS
    obtain ⟨t7, rfl⟩ := hS
    have hpi : pre.length = i := by
      have h1 : (List.range n.toNat)[pre.length]? = some i := by rw [hD]; simp
      have hlt : pre.length < n.toNat := by
        have := congrArg List.length hD
        simp at this; omega
      rw [List.getElem?_range hlt] at h1
      exact Option.some.inj h1
    have hlt : i < n.toNat := List.mem_range.mp (by rw [hD]; simp)
    rw [hpi]
    refine ⟨_, rfl, ?_⟩
    obtain ⟨S1, ew, rfl⟩ := inner i ((soundsZ s D i).map intL) hlt
    have sd := sorted_kvB (p := [6]) (here_len hs hg (i + 1))
    rw [here_srt hs hg (i + 1)] at sd
    have q1 : (soundsZ s D i).length < 16777216 := by unfold soundsZ; simp; omega
    have es : soundsZ s D (i + 1) = soundsZ s D i ++ [soundZ (atA s D (i + 1))] := by unfold soundsZ; rw [List.range_succ, List.map_append]; rfl
    refine lpOk_of (S2 := [some (.d (setD s)), some (.d (dlist D)), some (.d (.int n)), some (.d (.list (R.map encH))), some (.lst ((soundsZ s D (i + 1)).map intL)), some (.dic (kvB (hereA s D (i + 1)))), some (.d (.int ((heardZ s D (i + 1)).length : Nat))), some (.d (.int (i : Int)))]) ?_ ⟨some (.d (.int (i : Int))), by rw [List.length_append, hpi]; rfl⟩
    rw [es]
    obtain ⟨h1, hh1⟩ : ∃ h1, h1 = hereA s D (i + 1) := ⟨_, rfl⟩
    rw [← hh1] at ew sd ⊢
    simp [l2_sounds, ew, sd, q1])
  subst hS
  rw [← rng_nat] at e
  rw [List.length_range] at e
  have n2 : -1000000000 ≤ n := by omega
  have n3 : n ≤ 1000000000 := by omega
  simp [fnM_ap, p0_sounds, p1_sounds, p2_sounds, p3_sounds, p4_sounds, p5_sounds, b_sounds, f_sounds, eh, n2, n3, e]
end K19

set_option maxHeartbeats 1000000
namespace K19
open PySem PySem.Spec PyProof.Rows L2 M
theorem valD_putD (kvs : List (Key × PyData)) (k k' : Key) (v : PyData) : valD (putD kvs k v) k' = if k' = k then some v else valD kvs k' := by
  unfold valD putD
  by_cases h : (kvs.any fun kv => decide (kv.1 = k)) = true
  · rw [if_pos h]
    induction kvs with
    | nil => simp at h
    | cons p r ih =>
      rw [List.map_cons, List.find?_cons, List.find?_cons]
      by_cases e : p.1 = k
      · by_cases e2 : k' = k
        · subst e2; simp [e]
        · have e3 : ¬ p.1 = k' := fun z => e2 (z.symm.trans e)
          have e4 : ¬ k = k' := fun z => e2 z.symm
          simp only [e, if_true, e4, decide_false, e2, if_false]
          by_cases h3 : (r.any fun kv => decide (kv.1 = k)) = true
          · have := ih h3
            rw [if_neg e2] at this
            exact this
          · have : r.map (fun kv => if kv.1 = k then (kv.1, v) else kv) = r := by
              have : ∀ kv ∈ r, (if kv.1 = k then (kv.1, v) else kv) = kv := fun kv hkv => by
                rw [if_neg]
                intro z
                exact h3 (List.any_eq_true.mpr ⟨kv, hkv, by simpa using z⟩)
              rw [List.map_congr_left this, List.map_id']
            rw [this]
      · have h3 : (r.any fun kv => decide (kv.1 = k)) = true := by simpa [e] using h
        by_cases e3 : p.1 = k'
        · have e2 : ¬ k' = k := fun z => e (e3.trans z)
          simp [e, e3, e2]
        · simp only [e, if_false, e3, decide_false]
          exact ih h3
  · rw [if_neg h, List.find?_append]
    by_cases e2 : k' = k
    · subst e2
      have : kvs.find? (fun kv => decide (kv.1 = k')) = none := List.find?_eq_none.mpr fun x hx hk => h (List.any_eq_true.mpr ⟨x, hx, hk⟩)
      rw [this]
      simp
    · have e4 : ¬ k = k' := fun z => e2 z.symm
      rw [if_neg e2]
      cases kvs.find? (fun kv => decide (kv.1 = k')) <;> simp [e4]
/-! a dict's value behind a putting, a filtering -/
theorem valI_put (o : DI) (k v k' : Int) : valI (putI o k v) k' = if k' = k then some v else valI o k' := by
  have h1 := valD_kvI (putI o k v) k'
  rw [← putD_kvI, valD_putD, valD_kvI] at h1
  have inj : ∀ a b : Option Int, a.map PyData.int = b.map PyData.int → a = b := fun a b h => by
    cases a <;> cases b
    · rfl
    · cases h
    · cases h
    · have := Option.some.inj h
      exact congrArg some (PyData.int.inj this)
  apply inj
  rw [← h1]
  by_cases c : k' = k
  · rw [if_pos c, if_pos (by rw [c])]; rfl
  · rw [if_neg c, if_neg (fun z => c (Sum.inl.inj z))]
/-! how often tones begin -/
def onsN (R : List (Int × Bool × Int)) (t : Int) : Int := (R.countP fun r => r.2.1 && decide (r.2.2 = t) : Nat)
def offsN (R : List (Int × Bool × Int)) (t : Int) : Int := (R.countP fun r => !r.2.1 && decide (r.2.2 = t) : Nat)
def oftF (d : DI) (r : Int × Bool × Int) : DI := if r.2.1 = true then putI d r.2.2 ((valI d r.2.2).getD 0 + 1) else d
def oftZ (R : List (Int × Bool × Int)) : DI := R.foldl oftF []
theorem oft_gen (P : List (Int × Bool × Int)) (d : DI) (hd : (d.map (·.1)).Nodup) (hv : ∀ t, valI d t = if onsN P t = 0 then none else some (onsN P t)) : ∀ R : List (Int × Bool × Int), ((R.foldl oftF d).map (·.1)).Nodup ∧ ∀ t, valI (R.foldl oftF d) t = if onsN (P ++ R) t = 0 then none else some (onsN (P ++ R) t) := by
  intro R
  induction R generalizing P d with
  | nil => rw [List.append_nil]; exact ⟨hd, hv⟩
  | cons r R ih =>
    rw [List.foldl_cons, show P ++ r :: R = (P ++ [r]) ++ R by simp]
    have on1 : ∀ t, onsN (P ++ [r]) t = onsN P t + if r.2.1 = true ∧ r.2.2 = t then 1 else 0 := fun t => by
      unfold onsN
      rw [List.countP_append, List.countP_singleton]
      by_cases c : r.2.1 = true ∧ r.2.2 = t
      · rw [if_pos c, if_pos (by simp [c.1, c.2])]; omega
      · rw [if_neg c, if_neg (by simpa using c)]; omega
    refine ih (P ++ [r]) (oftF d r) ?_ fun t => ?_
    · unfold oftF
      split
      · rw [keys_putI]
        split
        · exact hd
        · rename_i h
          exact List.nodup_append.mpr ⟨hd, (by simp), fun a ha b hb e => by
            rw [List.mem_singleton.mp hb] at e
            rw [e] at ha
            exact h ha⟩
      · exact hd
    · have o1 := on1 t
      unfold oftF
      by_cases c : r.2.1 = true
      · rw [if_pos c, valI_put]
        by_cases e : t = r.2.2
        · rw [if_pos ⟨c, e.symm⟩] at o1
          rw [if_pos e, hv r.2.2, o1, e]
          have p0 : 0 ≤ onsN P r.2.2 := by unfold onsN; omega
          rw [if_neg (by omega : ¬ onsN P r.2.2 + 1 = 0)]
          by_cases z : onsN P r.2.2 = 0
          · rw [if_pos z, z]; rfl
          · rw [if_neg z]; rfl
        · rw [if_neg (fun h => e h.2.symm), Int.add_zero] at o1
          rw [if_neg e, hv t, o1]
      · rw [if_neg (fun h => c h.1), Int.add_zero] at o1
        rw [if_neg c, hv t, o1]
theorem oft_nd (R : List (Int × Bool × Int)) : ((oftZ R).map (·.1)).Nodup := (oft_gen [] [] List.nodup_nil (fun t => rfl) R).1
theorem oft_val (R : List (Int × Bool × Int)) (t : Int) : valI (oftZ R) t = if onsN R t = 0 then none else some (onsN R t) := (oft_gen [] [] List.nodup_nil (fun t => rfl) R).2 t
theorem oft_mem {R : List (Int × Bool × Int)} {p : Int × Int} (h : p ∈ oftZ R) : p.2 = onsN R p.1 ∧ 1 ≤ p.2 := by
  have h1 := valI_mem (oft_nd R) h
  rw [oft_val] at h1
  have h0 : 0 ≤ onsN R p.1 := by unfold onsN; omega
  by_cases z : onsN R p.1 = 0
  · rw [if_pos z] at h1; cases h1
  · rw [if_neg z] at h1
    have := Option.some.inj h1
    omega
theorem oft_in {R : List (Int × Bool × Int)} {t : Int} (h : onsN R t ≠ 0) : t ∈ (oftZ R).map (·.1) := by
  have h1 := oft_val R t
  rw [if_neg h] at h1
  have h2 := valI_isSome (oftZ R) t
  rw [h1] at h2
  exact of_decide_eq_true h2.symm
theorem oft_len (R : List (Int × Bool × Int)) : ∀ d : DI, (R.foldl oftF d).length ≤ d.length + R.length := by
  induction R with
  | nil => intro d; exact Nat.le_refl _
  | cons r R ih =>
    intro d
    rw [List.foldl_cons, List.length_cons]
    have h1 := ih (oftF d r)
    have h2 : (oftF d r).length ≤ d.length + 1 := by
      unfold oftF
      split
      · unfold putI
        split
        · rw [List.length_map]; omega
        · rw [List.length_append]; simp
      · omega
    omega
theorem rowsK_kvI (d : DI) : rowsK (kvI d) = some d := by
  induction d with
  | nil => rfl
  | cons p d ih =>
    show (match rowsK (kvI d) with | some l => some ((p.1, p.2) :: l) | none => none) = _
    rw [ih]
theorem sort_pairs (d : DI) : ∃ O : DI, O.Perm d ∧ (O.Pairwise fun a b => lexL [b.1, b.2] [a.1, a.2] = false) ∧ sortT 2 (d.map tupP) = O.map tupP := by
  obtain ⟨O, h1, h2⟩ := perm_back tupP (sortT_perm 2 (d.map tupP)) rfl
  refine ⟨O, h1, ?_, h2⟩
  have := sortT_pair 2 (d.map tupP)
  rw [h2, List.pairwise_map] at this
  exact this
theorem getD3_kv (d : DI) (k z : Int) (S : MS) : getD3 (kvI d) (.d (.int k)) (.d (.int z)) S = .ok (.d (.int ((valI d k).getD z))) S := by
  rw [getD3_i, valD_kvI]
  cases valI d k <;> rfl
theorem e_how_often (s : Set7) (hs : OkSet s) (D : List Deed) (hg : goodD [] 0 D = true) (hl : D.length ≤ 80) (hok : okD (dlist D) = true) (n : Int) (n0 : 0 ≤ n) (n1 : n ≤ 1000) : f_how_often [.d (setD s), .d (dlist D), .d (.int n)] = .ok (.nw (.lst (sortT 2 ((oftZ (heardZ s D n.toNat)).map tupP)))) [.d (setD s), .d (dlist D), .d (.int n)] := by
  have eh := e_heard s hs D hg hl hok n n0 n1
  have hR0 : (heardZ s D n.toNat).length ≤ 62 * n.toNat := heardZ_len hs hg _
  obtain ⟨R, hR⟩ : ∃ R, R = heardZ s D n.toNat := ⟨_, rfl⟩
  rw [← hR] at eh hR0 ⊢
  obtain ⟨S', e, x4, x5, x6, hS⟩ := loopM_all (f := tgT 3 (tgsC (tgN 4) (tgsC (tgN 5) (tgsC (tgN 6) (tgsN))))) (body := l1_how_often) encH (fun pre S => ∃ x4 x5 x6, S = [some (.d (setD s)), some (.d (dlist D)), some (.d (.int n)), some (.dic (kvI (oftZ pre))), x4, x5, x6]) R [some (.d (setD s)), some (.d (dlist D)), some (.d (.int n)), some (.dic []), none, none, none] ⟨none, none, none, rfl⟩ (by
    intro pre r post S hD hS
    obtain ⟨x4, x5, x6, rfl⟩ := hS
    have hp : pre.length < R.length := by rw [hD]; simp
    have hl2 := oft_len pre []
    have q1 : (oftZ pre).length < 16777216 := by
      have : (oftZ pre).length ≤ 0 + pre.length := hl2
      omega
    obtain ⟨i, w, t⟩ := r
    have e1 : oftZ (pre ++ [(i, w, t)]) = oftF (oftZ pre) (i, w, t) := by unfold oftZ; rw [List.foldl_append]; rfl
    refine ⟨[some (.d (setD s)), some (.d (dlist D)), some (.d (.int n)), some (.dic (kvI (oftZ pre))), some (.d (.int i)), some (.d (.str (if w = true then "on" else "off"))), some (.d (.int t))], by simp [encH], lpOk_of (S2 := [some (.d (setD s)), some (.d (dlist D)), some (.d (.int n)), some (.dic (kvI (oftZ (pre ++ [(i, w, t)])))), some (.d (.int i)), some (.d (.str (if w = true then "on" else "off"))), some (.d (.int t))]) ?_ ⟨_, _, _, rfl⟩⟩
    rw [e1]
    obtain ⟨d, hd⟩ : ∃ d, d = oftZ pre := ⟨_, rfl⟩
    rw [← hd] at q1 ⊢
    have hon : (("off" : Str) = "on") = False := eq_false (by decide +kernel)
    cases w with
    | false => simp [l1_how_often, hon, oftF]
    | true => simp [l1_how_often, oftF, getD3_kv, putK1_i, q1])
  subst hS
  have hf : rowsK (kvI (oftZ R)) = some (oftZ R) := rowsK_kvI _
  obtain ⟨KV, hKV⟩ : ∃ k, k = kvI (oftZ R) := ⟨_, rfl⟩
  rw [← hKV] at e hf
  simp [fnM_ap, f_how_often, b_how_often, eh, e, hf]
end K19

set_option maxHeartbeats 1000000
namespace K19
open PySem PySem.Spec PyProof.Rows L2 M
/-! the silences, the fullest tick -/
theorem ix_lastM {β : Type} {enc : β → PyData} (D : List β) (p : β) : gIx (.list ((D ++ [p]).map enc)) (.int (-1)) = some (.d (enc p)) := by
  show (L2.atI ((D ++ [p]).map enc) (-1)).map RV.d = _
  unfold L2.atI L2.ixN
  rw [if_neg (by decide), if_pos (by simp; omega), Option.bind_some, show (-1 + (((D ++ [p]).map enc).length : Int)).toNat = D.length by simp; omega]
  simp
theorem putI1_last {β : Type} {enc : β → PyData} (D : List β) (q : β) (x : PyData) (p : Path) (S : MS) : putI1 p ((D ++ [q]).map enc) x (.d (.int (-1))) S = .nx (updS p (.lst (D.map enc ++ [x])) S) := by
  show (match L2.ixN ((D ++ [q]).map enc).length (-1) with | some k => RS.nx (updS p (.lst (((D ++ [q]).map enc).set k x)) S) | none => .stuck) = _
  have : L2.ixN ((D ++ [q]).map enc).length (-1) = some D.length := by
    unfold L2.ixN
    rw [if_neg (by decide), if_pos (by simp; omega), show (-1 + (((D ++ [q]).map enc).length : Int)).toNat = D.length by simp; omega]
  rw [this]
  simp [List.set_append]
def flatR (F : List (Int × Int)) : List Int := F.flatMap fun q => (List.range q.2.toNat).map fun i : Nat => q.1 + (i : Int)
def emptyT (pre : List (List Int × Nat)) : List Int := (pre.filter fun p => decide (p.1 = [])).map fun p => (p.2 : Int)
structure SilOk (pre : List (List Int × Nat)) (F : List (Int × Int)) : Prop where
  flat : flatR F = emptyT pre
  apart : F.Pairwise fun a b => a.1 + a.2 < b.1
  pos : ∀ q ∈ F, 1 ≤ q.2
  hi : ∀ q ∈ F, q.1 + q.2 ≤ pre.length
  len : F.length ≤ pre.length
theorem SilOk.nil : SilOk [] [] := ⟨rfl, .nil, fun _ h => (by cases h), fun _ h => (by cases h), Nat.le_refl _⟩
theorem SilOk.loud {pre : List (List Int × Nat)} {F : List (Int × Int)} (h : SilOk pre F) {p : List Int × Nat} (hp : p.1 ≠ []) : SilOk (pre ++ [p]) F := by
  refine ⟨?_, h.apart, h.pos, fun q hq => ?_, ?_⟩
  · rw [h.flat]
    unfold emptyT
    rw [List.filter_append, List.filter_cons_of_neg (by simpa using hp), List.filter_nil, List.append_nil]
  · have := h.hi q hq; simp; omega
  · have := h.len; simp; omega
theorem emptyT_snoc (pre : List (List Int × Nat)) {p : List Int × Nat} (hp : p.1 = []) : emptyT (pre ++ [p]) = emptyT pre ++ [(p.2 : Int)] := by
  unfold emptyT
  rw [List.filter_append, List.filter_cons_of_pos (by simpa using hp), List.filter_nil, List.map_append]
  rfl
theorem SilOk.more {pre : List (List Int × Nat)} {F : List (Int × Int)} {q : Int × Int} (h : SilOk pre (F ++ [q])) {p : List Int × Nat} (hp : p.1 = []) (h2 : p.2 = pre.length) (e : q.1 + q.2 = (p.2 : Int)) : SilOk (pre ++ [p]) (F ++ [(q.1, q.2 + 1)]) := by
  have hq := h.pos q (by simp)
  refine ⟨?_, ?_, fun r hr => ?_, fun r hr => ?_, ?_⟩
  · rw [emptyT_snoc pre hp, ← h.flat]
    unfold flatR
    rw [List.flatMap_append, List.flatMap_append, List.flatMap_singleton, List.flatMap_singleton, List.append_assoc]
    congr 1
    show (List.range (q.2 + 1).toNat).map (fun i : Nat => q.1 + (i : Int)) = _
    rw [show (q.2 + 1).toNat = q.2.toNat + 1 by omega, List.range_succ, List.map_append]
    congr 1
    show [q.1 + (q.2.toNat : Int)] = _
    congr 1
    omega
  · have ha := List.pairwise_append.mp h.apart
    exact List.pairwise_append.mpr ⟨ha.1, List.pairwise_singleton _ _, fun a ha2 b hb => by
      rw [List.mem_singleton.mp hb]
      exact ha.2.2 a ha2 q (by simp)⟩
  · rcases List.mem_append.mp hr with z | z
    · exact h.pos r (by simp [z])
    · rw [List.mem_singleton.mp z]; show 1 ≤ q.2 + 1; omega
  · rcases List.mem_append.mp hr with z | z
    · have := h.hi r (by simp [z]); simp; omega
    · rw [List.mem_singleton.mp z]; simp; omega
  · have := h.len; simp at this ⊢; omega
theorem SilOk.anew {pre : List (List Int × Nat)} {F : List (Int × Int)} (h : SilOk pre F) {p : List Int × Nat} (hp : p.1 = []) (h2 : p.2 = pre.length) (e : ∀ q, F.getLast? = some q → q.1 + q.2 ≠ (p.2 : Int)) : SilOk (pre ++ [p]) (F ++ [((p.2 : Int), 1)]) := by
  refine ⟨?_, ?_, fun r hr => ?_, fun r hr => ?_, ?_⟩
  · rw [emptyT_snoc pre hp, ← h.flat]
    unfold flatR
    rw [List.flatMap_append, List.flatMap_singleton]
    simp
  · refine List.pairwise_append.mpr ⟨h.apart, List.pairwise_singleton _ _, fun a ha b hb => ?_⟩
    rw [List.mem_singleton.mp hb]
    show a.1 + a.2 < (p.2 : Int)
    rcases List.eq_nil_or_concat F with z | ⟨L, q, z⟩
    · rw [z] at ha; cases ha
    · rw [List.concat_eq_append] at z
      subst z
      have h3 := e q (by simp)
      have h4 := h.hi q (by simp)
      have h5 := h.pos q (by simp)
      rcases List.mem_append.mp ha with w | w
      · have := (List.pairwise_append.mp h.apart).2.2 a w q (by simp)
        omega
      · rw [List.mem_singleton.mp w]; omega
  · rcases List.mem_append.mp hr with z | z
    · exact h.pos r z
    · rw [List.mem_singleton.mp z]; exact Int.le_refl _
  · rcases List.mem_append.mp hr with z | z
    · have := h.hi r z; simp; omega
    · rw [List.mem_singleton.mp z]; simp; omega
  · have := h.len; simp; omega
theorem e_silences (s : Set7) (hs : OkSet s) (D : List Deed) (hg : goodD [] 0 D = true) (hl : D.length ≤ 80) (hok : okD (dlist D) = true) (n : Int) (n0 : 0 ≤ n) (n1 : n ≤ 1000) : ∃ F, SilOk (soundsZ s D n.toNat).zipIdx F ∧ f_silences [.d (setD s), .d (dlist D), .d (.int n)] = .ok (.nw (.lst (F.map tupP))) [.d (setD s), .d (dlist D), .d (.int n)] := by
  have eh := e_sounds s hs D hg hl hok n n0 n1
  have hR0 : (soundsZ s D n.toNat).length = n.toNat := by unfold soundsZ; simp
  obtain ⟨R, hR⟩ : ∃ R, R = soundsZ s D n.toNat := ⟨_, rfl⟩
  rw [← hR] at eh hR0 ⊢
  have enz : enumD (R.map intL) 0 = R.zipIdx.map fun p => .tuple [.int ((p.2 : Nat) : Int), intL p.1] := by
    show List.map _ ((R.map intL).zipIdx 0) = _
    rw [List.zipIdx_map, List.map_map]
    rfl
  obtain ⟨S', e, F, x4, x5, hF, hS⟩ := loopM_all (f := tgT 2 (tgsC (tgN 4) (tgsC (tgN 5) (tgsN)))) (body := l1_silences) (fun p : List Int × Nat => PyData.tuple [.int ((p.2 : Nat) : Int), intL p.1]) (fun pre S => ∃ F x4 x5, SilOk pre F ∧ S = [some (.d (setD s)), some (.d (dlist D)), some (.d (.int n)), some (.lst (F.map tupP)), x4, x5]) R.zipIdx [some (.d (setD s)), some (.d (dlist D)), some (.d (.int n)), some (.lst []), none, none] ⟨[], none, none, .nil, rfl⟩ (by
    intro pre p post S hD hS
    obtain ⟨F, x4, x5, hF, rfl⟩ := hS
    have hp2 : p.2 = pre.length ∧ pre.length < R.length := by
      have h1 : R.zipIdx[pre.length]? = some p := by rw [hD]; simp
      have h3 := (List.getElem?_eq_some_iff.mp h1).1
      rw [List.length_zipIdx] at h3
      rw [List.getElem?_eq_getElem (by rw [List.length_zipIdx]; exact h3), List.getElem_zipIdx] at h1
      have := Option.some.inj h1
      refine ⟨?_, h3⟩
      rw [← this]
      show 0 + pre.length = _
      omega
    have hlF := hF.len
    refine ⟨[some (.d (setD s)), some (.d (dlist D)), some (.d (.int n)), some (.lst (F.map tupP)), some (.d (.int ((p.2 : Nat) : Int))), some (.d (intL p.1))], by simp, ?_⟩
    obtain ⟨row, i⟩ := p
    by_cases c : row = []
    · subst c
      rcases List.eq_nil_or_concat F with z | ⟨L, q, z⟩
      · subst z
        refine lpOk_of (S2 := [some (.d (setD s)), some (.d (dlist D)), some (.d (.int n)), some (.lst (([((i : Int), 1)] : List (Int × Int)).map tupP)), some (.d (.int (i : Int))), some (.d (intL []))]) ?_ ⟨[((i : Int), 1)], _, _, hF.anew rfl hp2.1 (fun q h => by cases h), rfl⟩
        simp [l1_silences, truR, truD, tupP]
      · rw [List.concat_eq_append] at z
        subst z
        have g1 := ix_lastM (enc := tupP) L q
        have ga : gIx (tupP q) (.int 0) = some (.d (.int q.1)) := rfl
        have gb : gIx (tupP q) (.int 1) = some (.d (.int q.2)) := rfl
        have q1 : ((L ++ [q]).map tupP).length < 16777216 := by
          rw [List.length_map]
          have := hp2.2
          omega
        have ne : ((L ++ [q]).map tupP).isEmpty = false := by cases L <;> rfl
        by_cases c2 : q.1 + q.2 = (i : Int)
        · refine lpOk_of (S2 := [some (.d (setD s)), some (.d (dlist D)), some (.d (.int n)), some (.lst ((L ++ [(q.1, q.2 + 1)]).map tupP)), some (.d (.int (i : Int))), some (.d (intL []))]) ?_ ⟨_, _, _, hF.more rfl hp2.1 c2, rfl⟩
          have e1 : (L ++ [(q.1, q.2 + 1)]).map tupP = L.map tupP ++ [.tuple [.int q.1, .int (q.2 + 1)]] := by rw [List.map_append]; rfl
          have pl := fun x pp S => putI1_last (enc := tupP) L q x pp S
          rw [e1]
          obtain ⟨LL, hLL⟩ : ∃ LL, LL = (L ++ [q]).map tupP := ⟨_, rfl⟩
          rw [← hLL] at g1 q1 ne pl ⊢
          simp [l1_silences, truR, truD, ne, g1, ga, gb, c2, pl]
        · refine lpOk_of (S2 := [some (.d (setD s)), some (.d (dlist D)), some (.d (.int n)), some (.lst ((L ++ [q] ++ [((i : Int), 1)]).map tupP)), some (.d (.int (i : Int))), some (.d (intL []))]) ?_ ⟨_, _, _, hF.anew rfl hp2.1 (fun r h => by simp at h; rw [← h]; exact c2), rfl⟩
          have e1 : (L ++ [q] ++ [((i : Int), (1 : Int))]).map tupP = (L ++ [q]).map tupP ++ [.tuple [.int (i : Int), .int 1]] := by rw [List.map_append]; rfl
          rw [e1]
          obtain ⟨LL, hLL⟩ : ∃ LL, LL = (L ++ [q]).map tupP := ⟨_, rfl⟩
          rw [← hLL] at g1 q1 ne ⊢
          simp [l1_silences, truR, truD, ne, g1, ga, gb, c2, q1]
    · have ne : (row.map PyData.int).isEmpty = false := by cases row with | nil => exact absurd rfl c | cons _ _ => rfl
      have : l1_silences [some (.d (setD s)), some (.d (dlist D)), some (.d (.int n)), some (.lst (F.map tupP)), some (.d (.int (i : Int))), some (.d (intL row))] = .ct [some (.d (setD s)), some (.d (dlist D)), some (.d (.int n)), some (.lst (F.map tupP)), some (.d (.int (i : Int))), some (.d (intL row))] := by
        simp [l1_silences, truR, truD, ne]
      rw [this]
      exact ⟨F, _, _, hF.loud c, rfl⟩)
  subst hS
  rw [← enz] at e
  refine ⟨F, hF, ?_⟩
  have t : mfor (miE false (mcall true f_sounds (mconsA true (mvar 0) (mconsA true (mvar 1) (mconsA true (mvar 2) (mnilA)))))) (tgT 2 (tgsC (tgN 4) (tgsC (tgN 5) (tgsN)))) l1_silences [some (.d (setD s)), some (.d (dlist D)), some (.d (.int n)), some (.lst []), none, none] = .nx [some (.d (setD s)), some (.d (dlist D)), some (.d (.int n)), some (.lst (F.map tupP)), x4, x5] := by
    have c1 : mcall true f_sounds (mconsA true (mvar 0) (mconsA true (mvar 1) (mconsA true (mvar 2) (mnilA)))) [some (.d (setD s)), some (.d (dlist D)), some (.d (.int n)), some (.lst []), none, none] = .ok (.nw (.lst (R.map intL))) [some (.d (setD s)), some (.d (dlist D)), some (.d (.int n)), some (.lst []), none, none] := by simp [eh]
    rw [mfor_ap, miE_ap, c1, bind_ok]
    exact e
  simp [fnM_ap, f_silences, b_silences, t]
/-- the fullest tick -/
theorem e_fullest (s : Set7) (hs : OkSet s) (D : List Deed) (hg : goodD [] 0 D = true) (hl : D.length ≤ 80) (hok : okD (dlist D) = true) (n : Int) (n0 : 0 ≤ n) (n1 : n ≤ 1000) (R : List (List Int)) (hR : R = soundsZ s D n.toNat) (m : Int) (j : Nat) (hj : (R.map fun r => (r.length : Int))[j]? = some m) (hlt : ∀ i, i < j → ∀ x, (R.map fun r => (r.length : Int))[i]? = some x → x < m) (hle : ∀ x ∈ R.map fun r => (r.length : Int), x ≤ m) : f_fullest [.d (setD s), .d (dlist D), .d (.int n)] = .ok (.d (.tuple [.int m, .int (j : Int)])) [.d (setD s), .d (dlist D), .d (.int n)] := by
  have eh := e_sounds s hs D hg hl hok n n0 n1
  have hR0 : (soundsZ s D n.toNat).length = n.toNat := by unfold soundsZ; simp
  rw [← hR] at eh hR0
  obtain ⟨LS, hLS⟩ : ∃ L, L = R.map fun r => (r.length : Int) := ⟨_, rfl⟩
  rw [← hLS] at hj hlt hle
  have lc : ∀ (x4 : Option MV) (me : ME), me = mop1 gLen (mvar 5) → lcL (tgN 5) myes me [some (.d (setD s)), some (.d (dlist D)), some (.d (.int n)), some (.d (.list (R.map intL))), x4, none] (R.map intL) = some (LS.map PyData.int) := fun x4 me hm => by
    subst hm
    have := lcL_enc (tg := tgN 5) (mt := myes) (me := mop1 gLen (mvar 5)) (S := [some (.d (setD s)), some (.d (dlist D)), some (.d (.int n)), some (.d (.list (R.map intL))), x4, none]) intL (fun _ => true) (fun r => PyData.int (r.length : Int)) R fun r _ => ⟨_, rfl, by simp [intL]⟩
    rw [this, List.filter_eq_self.mpr (fun _ _ => rfl), hLS, List.map_map]
    rfl
  have hjl := (List.getElem?_eq_some_iff.mp hj).1
  have mm : m ∈ LS := List.mem_of_getElem? hj
  have gm : gMax (.list (LS.map PyData.int)) = some (.d (.int m)) := by
    cases LS with
    | nil => cases mm
    | cons x r =>
      have := gMax_ints x r
      have sp := maxI_spec r x
      have h1 := hle _ sp.1
      have h2 := sp.2 m mm
      rw [show maxI x r = m by omega] at this
      exact this
  have ix : LS.idxOf m = j := by
    rw [List.idxOf, List.findIdx_eq hjl]
    refine ⟨by rw [List.getElem?_eq_getElem hjl] at hj; rw [Option.some.inj hj]; simp, fun i hi => ?_⟩
    have := hlt i hi _ (List.getElem?_eq_getElem (by omega))
    simp; omega
  have gi : gIndex (.list (LS.map PyData.int)) (.int m) = some (.d (.int (j : Int))) := by rw [gIndex_i mm, ix]
  have qR : R.length < 16777216 := by omega
  have ne : (R.map intL).isEmpty = false := by
    cases R with
    | nil => rw [hLS] at hjl; cases hjl
    | cons _ _ => rfl
  obtain ⟨RR, hRR⟩ : ∃ r, r = R.map intL := ⟨_, rfl⟩
  have qRR : RR.length < 16777216 := by rw [hRR, List.length_map]; exact qR
  rw [← hRR] at eh lc ne
  simp [fnM_ap, f_fullest, b_fullest, eh, truR, truD, ne, ce1_fullest, ce2_fullest, lc, wipeS, qRR, gm, gi]
end K19

set_option maxHeartbeats 1000000
namespace K19
open PySem PySem.Spec PyProof.Rows L2 M
/-! what several players make -/
structure Sv where
  t : Int
  p : Nat
  a : Nat
  w : Bool
  k : Int
def keyS (r : Sv) : List Int := [r.t, (r.p : Int), (r.a : Int)]
def restS (r : Sv) : List PyData := [.str (if r.w = true then "on" else "off"), .int r.k]
def encS (r : Sv) : PyData := .tuple [.int r.t, .int (r.p : Int), .int (r.a : Int), .str (if r.w = true then "on" else "off"), .int r.k]
def encS4 (r : Sv) : PyData := .tuple [.int r.t, .int (r.p : Int), .str (if r.w = true then "on" else "off"), .int r.k]
def svL (R : List (Int × Bool × Int)) (p : Nat) : List Sv := R.zipIdx.map fun q => ⟨q.1.1, p, q.2, q.1.2.1, q.1.2.2⟩
def sevL (RS : List (List (Int × Bool × Int))) : List Sv := RS.zipIdx.flatMap fun q => svL q.1 q.2
theorem zipIdx_lt {α : Type} (l : List α) : l.zipIdx.Pairwise fun a b => a.2 < b.2 := by
  have h : (l.zipIdx.map Prod.snd).Pairwise (· < ·) := by
    rw [List.zipIdx_map_snd]
    exact List.pairwise_lt_range'
  exact List.pairwise_map.mp h
theorem sev_keys (RS : List (List (Int × Bool × Int))) : ((sevL RS).map keyS).Nodup := by
  have h : (sevL RS).Pairwise fun a b => keyS a ≠ keyS b := by
    unfold sevL
    rw [List.pairwise_flatMap]
    refine ⟨fun q _ => ?_, (zipIdx_lt RS).imp fun {a b} hab x hx y hy e => ?_⟩
    · unfold svL
      rw [List.pairwise_map]
      refine (zipIdx_lt q.1).imp fun {a b} hab e => ?_
      have : [a.1.1, (q.2 : Int), (a.2 : Int)] = [b.1.1, (q.2 : Int), (b.2 : Int)] := e
      injection this with _ h2
      injection h2 with _ h3
      injection h3 with h4
      omega
    · obtain ⟨u, _, rfl⟩ := List.mem_map.mp hx
      obtain ⟨v, _, rfl⟩ := List.mem_map.mp hy
      have : [u.1.1, (a.2 : Int), (u.2 : Int)] = [v.1.1, (b.2 : Int), (v.2 : Int)] := e
      injection this with _ h2
      injection h2 with h3
      omega
  exact List.pairwise_map.mpr h
theorem sev_snoc (RS : List (List (Int × Bool × Int))) (R : List (Int × Bool × Int)) : sevL (RS ++ [R]) = sevL RS ++ svL R RS.length := by
  unfold sevL
  rw [List.zipIdx_append, List.flatMap_append]
  simp
theorem sv_len (R : List (Int × Bool × Int)) (p : Nat) : (svL R p).length = R.length := by unfold svL; simp
theorem e_several (SS : List Set7) (hS : ∀ s ∈ SS, OkSet s) (l1 : 1 ≤ SS.length) (l4 : SS.length ≤ 4) (D : List Deed) (hg : goodD [] 0 D = true) (hl : D.length ≤ 80) (hok : okD (dlist D) = true) (n : Int) (n0 : 0 ≤ n) (n1 : n ≤ 1000) (Z : List Sv) (hZ : Z.Perm (sevL (SS.map fun s => heardZ s D n.toNat))) (hs : Z.Pairwise fun a b => lexL (keyS b) (keyS a) = false) :
    f_several [.d (.list (SS.map setD)), .d (dlist D), .d (.int n)] = .ok (.nw (.lst (Z.map encS4))) [.d (.list (SS.map setD)), .d (dlist D), .d (.int n)] := by
  obtain ⟨st, hst⟩ : ∃ st : List Int → List PyData → Option MV → Option MV → Option MV → MS, st = fun _ rows x4 x5 x6 => [some (.d (.list (SS.map setD))), some (.d (dlist D)), some (.d (.int n)), some (.lst rows), x4, x5, x6, none, none, none, none, none, none] := ⟨_, rfl⟩
  have t0 : p0_several [some (.d (.list (SS.map setD))), some (.d (dlist D)), some (.d (.int n)), none, none, none, none, none, none, none, none, none, none] = .nx [some (.d (.list (SS.map setD))), some (.d (dlist D)), some (.d (.int n)), none, none, none, none, none, none, none, none, none, none] := by
    have i1 : (1 : Int) ≤ (SS.length : Int) := by omega
    have i2 : (SS.length : Int) ≤ 4 := by omega
    have g : gIsi "list" (.list (SS.map setD)) = some (.d (.bool true)) := by rfl
    have a1 : gLe (.int 1) (.int (SS.length : Int)) = some (.d (.bool true)) := by simp [i1]
    have a2 : gLe (.int (SS.length : Int)) (.int 4) = some (.d (.bool true)) := by simp [i2]
    simp [p0_several, g, a1, a2]
  have t1 : p1_several [some (.d (.list (SS.map setD))), some (.d (dlist D)), some (.d (.int n)), none, none, none, none, none, none, none, none, none, none] = .nx [some (.d (.list (SS.map setD))), some (.d (dlist D)), some (.d (.int n)), none, none, none, none, none, none, none, none, none, none] := by
    have lc : lcL (tgN 7) ct1_several ce1_several [some (.d (.list (SS.map setD))), some (.d (dlist D)), some (.d (.int n)), none, none, none, none, none, none, none, none, none, none] (SS.map setD) = some [] := by
      have := lcL_enc (tg := tgN 7) (mt := ct1_several) (me := ce1_several) (S := [some (.d (.list (SS.map setD))), some (.d (dlist D)), some (.d (.int n)), none, none, none, none, none, none, none, none, none, none]) setD (fun _ => false) setD SS fun s hs => ⟨_, rfl, by
        have e := e_is_setting (setD s) (okD_set (hS s hs))
        rw [isS_ok (hS s hs)] at e
        simp [ct1_several, e, truR, truD]⟩
      rw [this]
      simp
    have q : (SS.map setD).length < 16777216 := by rw [List.length_map]; omega
    obtain ⟨SD, hSD⟩ : ∃ d, d = SS.map setD := ⟨_, rfl⟩
    rw [← hSD] at lc q ⊢
    simp [p1_several, lc, wipeS, q, truR, truD]
  have t2 : p2_several [some (.d (.list (SS.map setD))), some (.d (dlist D)), some (.d (.int n)), none, none, none, none, none, none, none, none, none, none] = .nx [some (.d (.list (SS.map setD))), some (.d (dlist D)), some (.d (.int n)), some (.lst []), none, none, none, none, none, none, none, none, none] := by
    simp [p2_several]
  have enz : enumD (SS.map setD) 0 = SS.zipIdx.map fun p => .tuple [.int ((p.2 : Nat) : Int), setD p.1] := by
    show List.map _ ((SS.map setD).zipIdx 0) = _
    rw [List.zipIdx_map, List.map_map]
    rfl
  obtain ⟨L, hL⟩ : ∃ L, L = sevL (SS.map fun s => heardZ s D n.toNat) := ⟨_, rfl⟩
  have t3 : ∃ x4 x5 x6, p3_several [some (.d (.list (SS.map setD))), some (.d (dlist D)), some (.d (.int n)), some (.lst []), none, none, none, none, none, none, none, none, none] = .nx [some (.d (.list (SS.map setD))), some (.d (dlist D)), some (.d (.int n)), some (.lst (L.map encS)), x4, x5, x6, none, none, none, none, none, none] ∧ L.length ≤ 62000 * SS.length := by
    obtain ⟨S', e, x4, x5, x6, hS2, hlen⟩ := loopM_all (f := tgT 2 (tgsC (tgN 4) (tgsC (tgN 5) (tgsN)))) (body := l1_several) (fun p : Set7 × Nat => PyData.tuple [.int ((p.2 : Nat) : Int), setD p.1]) (fun pre S => ∃ x4 x5 x6, S = [some (.d (.list (SS.map setD))), some (.d (dlist D)), some (.d (.int n)), some (.lst ((sevL (pre.map fun p => heardZ p.1 D n.toNat)).map encS)), x4, x5, x6, none, none, none, none, none, none] ∧ (sevL (pre.map fun p => heardZ p.1 D n.toNat)).length ≤ 62000 * pre.length) SS.zipIdx [some (.d (.list (SS.map setD))), some (.d (dlist D)), some (.d (.int n)), some (.lst []), none, none, none, none, none, none, none, none, none] ⟨none, none, none, rfl, Nat.le_refl _⟩ (by
      intro pre p post S hD hS3
      obtain ⟨x4, x5, x6, rfl, hlen⟩ := hS3
      have h1 : SS.zipIdx[pre.length]? = some p := by rw [hD]; simp
      have h3 := (List.getElem?_eq_some_iff.mp h1).1
      rw [List.length_zipIdx] at h3
      rw [List.getElem?_eq_getElem (by rw [List.length_zipIdx]; exact h3), List.getElem_zipIdx] at h1
      have hp := Option.some.inj h1
      have hp2 : p.2 = pre.length := by rw [← hp]; show 0 + pre.length = _; omega
      have hs1 : OkSet p.1 := by rw [← hp]; exact hS _ (List.getElem_mem h3)
      obtain ⟨s, i⟩ := p
      have hp2 : i = pre.length := hp2
      have eh := e_heard s hs1 D hg hl hok n n0 n1
      have hRl : (heardZ s D n.toNat).length ≤ 62 * n.toNat := heardZ_len hs1 hg _
      have em : sevL ((pre ++ [(s, i)]).map fun p => heardZ p.1 D n.toNat) = sevL (pre.map fun p => heardZ p.1 D n.toNat) ++ svL (heardZ s D n.toNat) i := by
        rw [List.map_append, List.map_singleton, sev_snoc, List.length_map, hp2]
      refine ⟨[some (.d (.list (SS.map setD))), some (.d (dlist D)), some (.d (.int n)), some (.lst ((sevL (pre.map fun p => heardZ p.1 D n.toNat)).map encS)), some (.d (.int ((i : Nat) : Int))), some (.d (setD s)), x6, none, none, none, none, none, none], by simp, ?_⟩
      rw [em]
      obtain ⟨R, hR⟩ : ∃ R, R = heardZ s D n.toNat := ⟨_, rfl⟩
      rw [← hR] at eh hRl ⊢
      obtain ⟨M, hM⟩ : ∃ M, M = sevL (pre.map fun p => heardZ p.1 D n.toNat) := ⟨_, rfl⟩
      rw [← hM] at hlen ⊢
      refine lpOk_of (S2 := [some (.d (.list (SS.map setD))), some (.d (dlist D)), some (.d (.int n)), some (.lst (M.map encS ++ (svL R i).map encS)), some (.d (.int ((i : Nat) : Int))), some (.d (setD s)), some (.d (.list (R.map encH))), none, none, none, none, none, none]) ?_ ⟨_, _, _, by rw [List.map_append], by rw [List.length_append, List.length_append, sv_len]; simp; omega⟩
      have enr : enumD (R.map encH) 0 = R.zipIdx.map fun p => .tuple [.int ((p.2 : Nat) : Int), encH p.1] := by
        show List.map _ ((R.map encH).zipIdx 0) = _
        rw [List.zipIdx_map, List.map_map]
        rfl
      have lc : ∀ rows : List PyData, lcL (tgT 2 (tgsC (tgN 9) (tgsC (tgN 12) (tgsN)))) myes ce2_several [some (.d (.list (SS.map setD))), some (.d (dlist D)), some (.d (.int n)), some (.lst rows), some (.d (.int ((i : Nat) : Int))), some (.d (setD s)), some (.d (.list (R.map encH))), none, none, none, none, none, none] (enumD (R.map encH) 0) = some ((svL R i).map encS) := fun rows => by
        rw [enr]
        have := lcL_enc (tg := tgT 2 (tgsC (tgN 9) (tgsC (tgN 12) (tgsN)))) (mt := myes) (me := ce2_several) (S := [some (.d (.list (SS.map setD))), some (.d (dlist D)), some (.d (.int n)), some (.lst rows), some (.d (.int ((i : Nat) : Int))), some (.d (setD s)), some (.d (.list (R.map encH))), none, none, none, none, none, none]) (fun p : (Int × Bool × Int) × Nat => PyData.tuple [.int ((p.2 : Nat) : Int), encH p.1]) (fun _ => true) (fun q => encS ⟨q.1.1, i, q.2, q.1.2.1, q.1.2.2⟩) R.zipIdx fun q _ => ⟨[some (.d (.list (SS.map setD))), some (.d (dlist D)), some (.d (.int n)), some (.lst rows), some (.d (.int ((i : Nat) : Int))), some (.d (setD s)), some (.d (.list (R.map encH))), none, none, some (.d (.int ((q.2 : Nat) : Int))), none, none, some (.d (encH q.1))], by simp, by
          have g0 : gIx (encH q.1) (.int 0) = some (.d (.int q.1.1)) := rfl
          have g1 : gIx (encH q.1) (.int 1) = some (.d (.str (if q.1.2.1 = true then "on" else "off"))) := rfl
          have g2 : gIx (encH q.1) (.int 2) = some (.d (.int q.1.2.2)) := rfl
          simp [ce2_several, g0, g1, g2, encS]⟩
        rw [this, List.filter_eq_self.mpr (fun _ _ => rfl)]
        unfold svL
        rw [List.map_map]
        rfl
      have q1 : (enumD (R.map encH) 0).length < 16777216 := by rw [enr, List.length_map, List.length_zipIdx]; omega
      have q2 : (M.map encS).length + ((svL R i).map encS).length ≤ 16777216 := by
        rw [List.length_map, List.length_map, sv_len]; omega
      obtain ⟨EN, hEN⟩ : ∃ d, d = enumD (R.map encH) 0 := ⟨_, rfl⟩
      rw [← hEN] at lc q1
      obtain ⟨RR, hRR⟩ : ∃ d, d = R.map encH := ⟨_, rfl⟩
      rw [← hRR] at lc eh hEN ⊢
      obtain ⟨M1, hM1⟩ : ∃ d, d = M.map encS := ⟨_, rfl⟩
      obtain ⟨M2, hM2⟩ : ∃ d, d = (svL R i).map encS := ⟨_, rfl⟩
      rw [← hM1, ← hM2] at q2 ⊢
      rw [← hM2] at lc
      simp [l1_several, eh, ← hEN, lc, wipeS, q1, q2])
    subst hS2
    rw [← enz] at e
    have ez : SS.zipIdx.map (fun p : Set7 × Nat => heardZ p.1 D n.toNat) = SS.map fun s => heardZ s D n.toNat := by
      conv => rhs; rw [← List.zipIdx_map_fst 0 SS, List.map_map]
      rfl
    rw [ez, ← hL] at e
    rw [ez, ← hL, List.length_zipIdx] at hlen
    refine ⟨x4, x5, x6, ?_, hlen⟩
    unfold p3_several
    rw [mfor_ap, miE_ap, mvar_d (x := .list (SS.map setD)) rfl, bind_ok, stab_d, show ((some (RV.d (.list (SS.map setD)))).bind datL).map (fun ds => enumD ds 0) = some (enumD (SS.map setD) 0) from rfl, toI_some, toS_ok]
    exact e
  obtain ⟨x4, x5, x6, t3, hlen⟩ := t3
  have so := sortedT_map (n := 3) (by decide) encS keyS restS (fun r => rfl) (fun r => rfl) L Z (by rw [hL]; exact hZ) hs (.inl (by rw [hL]; exact sev_keys _))
  have t4 : p4_several [some (.d (.list (SS.map setD))), some (.d (dlist D)), some (.d (.int n)), some (.lst (L.map encS)), x4, x5, x6, none, none, none, none, none, none] = .rt (.nw (.lst (Z.map encS4))) [some (.d (.list (SS.map setD))), some (.d (dlist D)), some (.d (.int n)), some (.lst (L.map encS)), x4, x5, x6, none, none, none, none, none, none] := by
    have lc : lcL (tgT 5 (tgsC (tgN 8) (tgsC (tgN 4) (tgsC (tgN 9) (tgsC (tgN 10) (tgsC (tgN 11) (tgsN))))))) myes ce3_several [some (.d (.list (SS.map setD))), some (.d (dlist D)), some (.d (.int n)), some (.lst (L.map encS)), none, x5, x6, none, none, none, none, none, none] (Z.map encS) = some (Z.map encS4) := by
      have := lcL_enc (tg := tgT 5 (tgsC (tgN 8) (tgsC (tgN 4) (tgsC (tgN 9) (tgsC (tgN 10) (tgsC (tgN 11) (tgsN))))))) (mt := myes) (me := ce3_several) (S := [some (.d (.list (SS.map setD))), some (.d (dlist D)), some (.d (.int n)), some (.lst (L.map encS)), none, x5, x6, none, none, none, none, none, none]) encS (fun _ => true) encS4 Z fun r _ => ⟨[some (.d (.list (SS.map setD))), some (.d (dlist D)), some (.d (.int n)), some (.lst (L.map encS)), some (.d (.int (r.p : Int))), x5, x6, none, some (.d (.int r.t)), some (.d (.int (r.a : Int))), some (.d (.str (if r.w = true then "on" else "off"))), some (.d (.int r.k)), none], by simp [encS], by simp [ce3_several, encS4]⟩
      rw [this, List.filter_eq_self.mpr (fun _ _ => rfl)]
    have q1 : (Z.map encS).length < 16777216 := by
      rw [List.length_map, hZ.length_eq, ← hL]; omega
    obtain ⟨ZZ, hZZ⟩ : ∃ d, d = Z.map encS := ⟨_, rfl⟩
    rw [← hZZ] at lc so q1
    obtain ⟨LL, hLL⟩ : ∃ d, d = L.map encS := ⟨_, rfl⟩
    rw [← hLL] at lc so ⊢
    simp [p4_several, so, lc, wipeS, q1]
  unfold f_several
  rw [fnM_ap]
  show finB 3 (b_several [some (.d (.list (SS.map setD))), some (.d (dlist D)), some (.d (.int n)), none, none, none, none, none, none, none, none, none, none]) = _
  unfold b_several
  rw [mseq_ap, t0, seq_nx, mseq_ap, t1, seq_nx, mseq_ap, t2, seq_nx, mseq_ap, t3, seq_nx, t4]
  rfl
end K19

set_option maxHeartbeats 1000000
namespace K19
open PySem PySem.Spec PyProof.Rows L2 M
/-! what begins and does not end sounds -/
theorem nodup_le : ∀ {l m : List Int}, l.Nodup → (∀ x ∈ l, x ∈ m) → l.length ≤ m.length
  | [], _, _, _ => Nat.zero_le _
  | x :: l, m, hn, h => by
    have hn := List.nodup_cons.mp hn
    have hx := h x List.mem_cons_self
    have := nodup_le (l := l) (m := m.erase x) hn.2 fun y hy => (List.mem_erase_of_ne (fun e => hn.1 (by rw [← e]; exact hy))).mpr (h y (List.mem_cons_of_mem _ hy))
    rw [List.length_erase_of_mem hx] at this
    have hm := List.length_pos_of_mem hx
    rw [List.length_cons]
    omega
def onP (t : Int) (p : Bool × Int) : Bool := p.1 && decide (p.2 = t)
def offP (t : Int) (p : Bool × Int) : Bool := !p.1 && decide (p.2 = t)
def isIn (t : Int) (l : List Int) : Int := if t ∈ l then 1 else 0
theorem run_count (t : Int) : ∀ (r : List (Bool × Int)) (l : List Int), runOk l r → (r.countP (onP t) : Int) - (r.countP (offP t) : Int) + isIn t l = isIn t (r.foldl onA l)
  | [], l, _ => by simp
  | p :: r, l, h => by
    have ih := run_count t r (onA l p) h.2
    rw [List.foldl_cons, ← ih, List.countP_cons, List.countP_cons]
    have h1 := h.1
    have key : (if onP t p = true then 1 else 0 : Int) - (if offP t p = true then 1 else 0 : Int) + isIn t l = isIn t (onA l p) := by
      obtain ⟨w, k⟩ := p
      cases w with
      | true =>
        have h1 : k ∉ l := by simpa using h1
        have e1 : onA l (true, k) = l ++ [k] := by unfold onA; simp [h1]
        rw [e1]
        unfold isIn onP offP
        by_cases c : k = t
        · subst c; simp [h1]
        · have : t ≠ k := fun z => c z.symm
          simp [c, this]
      | false =>
        have h1 : k ∈ l := by simpa using h1
        have e1 : onA l (false, k) = l.filter fun x => decide (x ≠ k) := by unfold onA; simp
        rw [e1]
        unfold isIn onP offP
        by_cases c : k = t
        · subst c; simp [h1]
        · have : t ≠ k := fun z => c z.symm
          simp [c, this]
    push_cast
    split at key <;> split at key <;> simp_all <;> omega
section
variable {s : Set7} {D : List Deed}
theorem cnt_rows (t : Int) (n : Nat) (R : List (Bool × Int)) : ((R.map fun p => ((n : Int), p)).countP fun r : Int × Bool × Int => r.2.1 && decide (r.2.2 = t)) = R.countP (onP t) ∧ ((R.map fun p => ((n : Int), p)).countP fun r : Int × Bool × Int => !r.2.1 && decide (r.2.2 = t)) = R.countP (offP t) := by
  rw [List.countP_map, List.countP_map]
  exact ⟨rfl, rfl⟩
theorem on_off (hs : OkSet s) (hg : goodD [] 0 D = true) (t : Int) : ∀ i, onsN (heardZ s D i) t - offsN (heardZ s D i) t = isIn t (hereA s D i)
  | 0 => by simp [onsN, offsN, heardZ, hereA, isIn]
  | i + 1 => by
    have ih := on_off hs hg t i
    have rc := run_count t (rowsA s D i) (hereA s D i) (here_run hs hg i)
    obtain ⟨c1, c2⟩ := cnt_rows t i (rowsA s D i)
    show _ = isIn t ((rowsA s D i).foldl onA (hereA s D i))
    rw [← rc, ← ih, heardZ_succ]
    unfold onsN offsN
    rw [List.countP_append, List.countP_append, c1, c2]
    omega
theorem mem_sound (hs : OkSet s) (hg : goodD [] 0 D = true) (t : Int) (i : Nat) : t ∈ soundZ (atA s D i) ↔ t ∈ hereA s D i := by
  rw [← here_srt hs hg i]
  exact (srt_perm _).mem_iff
theorem sound_nd (hs : OkSet s) (hg : goodD [] 0 D = true) (i : Nat) : (soundZ (atA s D i)).Nodup := by
  rw [← here_srt hs hg i]
  exact (srt_perm _).nodup_iff.mpr (here_nodup i)
theorem sound_on (hs : OkSet s) (hg : goodD [] 0 D = true) {t : Int} {i n : Nat} (hin : i ≤ n) (h : t ∈ soundZ (atA s D i)) : onsN (heardZ s D n) t ≠ 0 := by
  have h1 := on_off hs hg t i
  have h2 : isIn t (hereA s D i) = 1 := if_pos ((mem_sound hs hg t i).mp h)
  obtain ⟨rest, hr, _⟩ := heard_split s D i n hin
  have h3 : onsN (heardZ s D n) t = onsN (heardZ s D i) t + (rest.countP fun r => r.2.1 && decide (r.2.2 = t) : Nat) := by
    rw [hr]
    unfold onsN
    rw [List.countP_append]
    omega
  have h4 : 0 ≤ offsN (heardZ s D i) t := by unfold offsN; omega
  omega
end
theorem lay_w (w : Bool) (i : Int) : lay 1 (.tuple [.str (if w = true then "on" else "off"), .int i]) = true := lay_tuple (k := 0) fun d hd => by
  simp only [List.mem_cons, List.not_mem_nil, or_false] at hd
  rcases hd with e | e
  · subst e
    cases w
    · exact (by decide +kernel : lay 0 (.str "off") = true)
    · exact (by decide +kernel : lay 0 (.str "on") = true)
  · subst e; exact lay_int _ _
theorem eq_wk (w : Bool) (i j : Int) : gEq (.tuple [.str (if w = true then "on" else "off"), .int i]) (.tuple [.str "off", .int j]) = some (.d (.bool (!w && decide (i = j)))) := by
  have s1 := lay_sh (lay_w w i) (by decide)
  have s2 := lay_sh (lay_w false j) (by decide)
  have s2 : SeqAt.shaped (.tuple [.str "off", .int j]) = true := s2
  unfold gEq
  rw [s1, s2, if_pos (by simp)]
  have : PyData.eqv (.tuple [.str (if w = true then "on" else "off"), .int i]) (.tuple [.str "off", .int j]) = (!w && decide (i = j)) := by
    have h1 : ((("on" : Str) == "off") : Bool) = false := by decide +kernel
    have h2 : ((("off" : Str) == "off") : Bool) = true := by decide +kernel
    cases w
    · show ((("off" : Str) == "off") && ((i == j) && true)) = _
      rw [h2]
      simp [Bool.beq_eq_decide_eq]
    · show ((("on" : Str) == "off") && ((i == j) && true)) = _
      rw [h1]
      rfl
  rw [this]
end K19

set_option maxHeartbeats 1000000
namespace K19
open PySem PySem.Spec PyProof.Rows L2 M
/-! answers lay -/
theorem lay_on : lay 0 (.str "on") = true ∧ lay 0 (.str "off") = true ∧ lay 0 (.str "setting") = true ∧ lay 0 (.str "key") = true ∧ lay 0 (.str "held") = true ∧ lay 0 (.str "not") = true := by decide +kernel
theorem lay_encT (p : Bool × Int) : lay 1 (encT p) = true := lay_tuple (k := 0) fun d hd => by
  simp only [List.mem_cons, List.not_mem_nil, or_false] at hd
  rcases hd with e | e
  · subst e
    split
    · exact lay_on.1
    · exact lay_on.2.1
  · subst e; exact lay_int _ _
theorem lay_told (l : List (Bool × Int)) : lay 2 (.list (l.map encT)) = true := lay_list (k := 1) fun d hd => by
  obtain ⟨p, _, rfl⟩ := List.mem_map.mp hd
  exact lay_encT p
theorem lay_ans (a : PA) (d : Dd) : lay 2 (ansA a d) = true := by
  cases d with
  | tick => exact lay_told _
  | stop => exact lay_up (lay_intL _) (by decide)
  | change x =>
    show lay 2 (match setO x with | some _ => .none | none => .str "setting") = true
    cases setO x with
    | some _ => exact lay_none _
    | none => exact lay_up lay_on.2.2.1 (by decide)
  | press x =>
    show lay 2 (match keyOf x with | some k => if k ∈ a.down then .str "held" else .none | none => .str "key") = true
    cases keyOf x with
    | some k =>
      show lay 2 (if k ∈ a.down then .str "held" else .none) = true
      split
      · exact lay_up lay_on.2.2.2.2.1 (by decide)
      · exact lay_none _
    | none => exact lay_up lay_on.2.2.2.1 (by decide)
  | leave x =>
    show lay 2 (match keyOf x with | some k => if k ∈ a.down then .none else .str "not" | none => .str "key") = true
    cases keyOf x with
    | some k =>
      show lay 2 (if k ∈ a.down then .none else .str "not") = true
      split
      · exact lay_none _
      · exact lay_up lay_on.2.2.2.2.2 (by decide)
    | none => exact lay_up lay_on.2.2.2.1 (by decide)
theorem ne_ans (a : PA) (d : Dd) : gNe (ansA a d) (ansA a d) = some (.d (.bool false)) := gNe_self (lay_sh (lay_ans a d) (by decide))
theorem ne_hcm (x y : List Int) (n : Int) : gNe (.tuple [.list (x.map PyData.int), .list (y.map PyData.int), .int n]) (.tuple [.list (x.map PyData.int), .list (y.map PyData.int), .int n]) = some (.d (.bool false)) := by
  refine gNe_self (lay_sh (k := 2) (lay_tuple (k := 1) fun d hd => ?_) (by decide))
  simp only [List.mem_cons, List.not_mem_nil, or_false] at hd
  rcases hd with e | e | e <;> subst e
  · exact lay_intL _
  · exact lay_intL _
  · exact lay_int _ _
/-! what is heard lays -/
theorem lay_encH (h : Int × Bool × Int) : lay 1 (encH h) = true := lay_tuple (k := 0) fun d hd => by
  simp only [List.mem_cons, List.not_mem_nil, or_false] at hd
  rcases hd with e | e | e <;> subst e
  · exact lay_int _ _
  · split
    · exact lay_on.1
    · exact lay_on.2.1
  · exact lay_int _ _
theorem lay_mapL {β : Type} (f : β → PyData) {k : Nat} (h : ∀ x, lay k (f x) = true) (l : List β) : lay (k + 1) (.list (l.map f)) = true := lay_list fun d hd => by
  obtain ⟨x, _, rfl⟩ := List.mem_map.mp hd
  exact h x
theorem ne_heard (R : List (Int × Bool × Int)) : gNe (.list (R.map encH)) (.list (R.map encH)) = some (.d (.bool false)) := gNe_self (lay_sh (lay_mapL encH lay_encH R) (by decide))
/-! rows by ticks -/
theorem filtG_split {β : Type} (f : β → Int) : ∀ {D : List β} (i : Int), (D.Pairwise fun a b => f a ≤ f b) → (D.filter fun d => decide (f d < i)) ++ (D.filter fun d => decide (f d = i)) = D.filter fun d => decide (f d < i + 1)
  | [], _, _ => rfl
  | d :: D, i, h => by
    have hp := List.pairwise_cons.mp h
    have ih := filtG_split f i hp.2
    by_cases h1 : f d < i
    · have h2 : f d < i + 1 := by omega
      have h3 : ¬ f d = i := by omega
      rw [List.filter_cons_of_pos (by simpa using h1), List.filter_cons_of_neg (by simpa using h3), List.filter_cons_of_pos (by simpa using h2), List.cons_append, ih]
    · have e0 : (D.filter fun d => decide (f d < i)) = [] := List.filter_eq_nil_iff.mpr fun x hx => by have := hp.1 x hx; simp; omega
      have e1 : (D.filter fun d => decide (f d = i)) = D.filter fun d => decide (f d < i + 1) := by
        apply List.filter_congr
        intro x hx
        have := hp.1 x hx
        by_cases h4 : f x = i
        · simp [h4]; omega
        · have : ¬ f x < i + 1 := by omega
          simp [h4, this]
      by_cases h5 : f d = i
      · have h6 : f d < i + 1 := by omega
        rw [List.filter_cons_of_neg (by simpa using h1), List.filter_cons_of_pos (by simpa using h5), List.filter_cons_of_pos (by simpa using h6), e0, List.nil_append, e1]
      · have h6 : ¬ f d < i + 1 := by omega
        rw [List.filter_cons_of_neg (by simpa using h1), List.filter_cons_of_neg (by simpa using h5), List.filter_cons_of_neg (by simpa using h6), e0, List.nil_append, e1]
theorem filtG_pre {β : Type} (f : β → Int) {pre : List β} {d : β} {post : List β} (h : (pre ++ d :: post).Pairwise fun a b => f a ≤ f b) : ((pre ++ d :: post).filter fun x => decide (f x < f d)) ++ (pre.filter fun x => decide (f x = f d)) = pre := by
  have hp := List.pairwise_append.mp h
  have hc := List.pairwise_cons.mp hp.2.1
  have e0 : ((d :: post).filter fun x => decide (f x < f d)) = [] := List.filter_eq_nil_iff.mpr fun x hx => by
    rcases List.mem_cons.mp hx with e | e
    · subst e; simp
    · have := hc.1 x e; simp; omega
  rw [List.filter_append, e0, List.append_nil, filtG_split f (f d) hp.1]
  exact List.filter_eq_self.mpr fun x hx => by
    have := hp.2.2 x hx d List.mem_cons_self
    simp; omega
theorem heard_lt (s : Set7) (D : List Deed) : ∀ (i : Nat), ∀ h ∈ heardZ s D i, 0 ≤ h.1 ∧ h.1 < (i : Int)
  | 0, h, hh => by cases hh
  | i + 1, h, hh => by
    rw [heardZ_succ] at hh
    rcases List.mem_append.mp hh with hh | hh
    · have := heard_lt s D i h hh
      omega
    · obtain ⟨p, _, rfl⟩ := List.mem_map.mp hh
      show 0 ≤ (i : Int) ∧ (i : Int) < ((i + 1 : Nat) : Int)
      omega
theorem heard_sorted (s : Set7) (D : List Deed) : ∀ (i : Nat), (heardZ s D i).Pairwise fun a b => a.1 ≤ b.1
  | 0 => .nil
  | i + 1 => by
    rw [heardZ_succ, List.pairwise_append]
    refine ⟨heard_sorted s D i, ?_, fun a ha b hb => ?_⟩
    · rw [List.pairwise_map]
      exact List.pairwise_of_forall (fun _ _ => Int.le_refl _)
    · obtain ⟨p, _, rfl⟩ := List.mem_map.mp hb
      have := heard_lt s D i a ha
      show a.1 ≤ (i : Int)
      omega
theorem heard_filt_lt (s : Set7) (D : List Deed) {i n : Nat} (h : i ≤ n) : ((heardZ s D n).filter fun x => decide (x.1 < (i : Int))) = heardZ s D i := by
  obtain ⟨rest, h1, h2⟩ := heard_split s D i n h
  have e0 : (rest.filter fun x => decide (x.1 < (i : Int))) = [] := List.filter_eq_nil_iff.mpr fun x hx => by have := h2 x hx; simp; omega
  rw [h1, List.filter_append, e0, List.append_nil]
  exact List.filter_eq_self.mpr fun x hx => by have := heard_lt s D i x hx; simp; omega
theorem heard_filt_eq (s : Set7) (D : List Deed) {i n : Nat} (h : i < n) : ((heardZ s D n).filter fun x => decide (x.1 = (i : Int))) = (rowsA s D i).map fun p => ((i : Int), p) := by
  obtain ⟨rest, h1, h2⟩ := heard_split s D (i + 1) n h
  have e0 : (rest.filter fun x => decide (x.1 = (i : Int))) = [] := List.filter_eq_nil_iff.mpr fun x hx => by have := h2 x hx; simp; omega
  have e1 : ((heardZ s D i).filter fun x => decide (x.1 = (i : Int))) = [] := List.filter_eq_nil_iff.mpr fun x hx => by have := heard_lt s D i x hx; simp; omega
  rw [h1, heardZ_succ, List.filter_append, List.filter_append, e0, e1, List.append_nil, List.nil_append]
  exact List.filter_eq_self.mpr fun x hx => by
    obtain ⟨p, _, rfl⟩ := List.mem_map.mp hx
    simp
/-- the rows of tick i so far -/
theorem heard_pre (s : Set7) (D : List Deed) {i n : Nat} (h : i ≤ n) {pre post : List (Int × Bool × Int)} {x : Int × Bool × Int} (hR : heardZ s D n = pre ++ x :: post) (hx : x.1 = (i : Int)) : heardZ s D i ++ (pre.filter fun y => decide (y.1 = (i : Int))) = pre := by
  have hp := filtG_pre (fun y : Int × Bool × Int => y.1) (hR ▸ heard_sorted s D n)
  rw [← hR, hx, heard_filt_lt s D h] at hp
  exact hp
theorem cut_upto {β : Type} {enc : β → PyData} (O : List β) (j : Nat) : M.cutD (O.map enc) none (some (j : Int)) = (O.take j).map enc := by
  unfold M.cutD
  rw [List.length_map]
  have h1 : HT.sIx O.length O.length (some (j : Int)) = min j O.length := by
    simp only [HT.sIx, show ¬ ((j : Int) < 0) by omega, if_false]
    omega
  have h2 : HT.sIx O.length 0 none = 0 := rfl
  rw [h1, h2, List.drop_zero, Nat.sub_zero, List.map_take]
  rw [List.take_eq_take_iff]
  simp
theorem cut_from1 {β : Type} {enc : β → PyData} (O : List β) : M.cutD (O.map enc) (some 1) none = (O.drop 1).map enc := by
  unfold M.cutD
  rw [List.length_map]
  cases O with
  | nil => rfl
  | cons x r =>
    have h1 : HT.sIx (x :: r).length 0 (some 1) = 1 := by
      simp only [HT.sIx, show ¬ ((1 : Int) < 0) by decide, if_false]
      simp
    have h2 : HT.sIx (x :: r).length (x :: r).length none = (x :: r).length := rfl
    rw [h1, h2]
    simp
    exact List.take_of_length_le (by simp)
theorem ne_rows (R : List (List Int)) : gNe (.list (R.map intL)) (.list (R.map intL)) = some (.d (.bool false)) := gNe_self (lay_sh (k := 2) (lay_list (k := 1) fun d hd => by
  obtain ⟨x, _, rfl⟩ := List.mem_map.mp hd
  exact lay_intL x) (by decide))
theorem ne_heardL (R : List (Int × Bool × Int)) : gNe (.list (R.map encH)) (.list (R.map encH)) = some (.d (.bool false)) := gNe_self (lay_sh (k := 2) (lay_list (k := 1) fun d hd => by
  obtain ⟨x, _, rfl⟩ := List.mem_map.mp hd
  exact lay_encH x) (by decide))
theorem lay_encS4 (r : Sv) : lay 1 (encS4 r) = true := lay_tuple (k := 0) fun d hd => by
  simp only [List.mem_cons, List.not_mem_nil, or_false] at hd
  rcases hd with e | e | e | e <;> subst e
  · exact lay_int _ _
  · exact lay_int _ _
  · cases r.w
    · exact (by decide +kernel : lay 0 (.str "off") = true)
    · exact (by decide +kernel : lay 0 (.str "on") = true)
  · exact lay_int _ _
theorem ne_encS4 (R : List Sv) : gNe (.list (R.map encS4)) (.list (R.map encS4)) = some (.d (.bool false)) := gNe_self (lay_sh (k := 2) (lay_list (k := 1) fun d hd => by
  obtain ⟨x, _, rfl⟩ := List.mem_map.mp hd
  exact lay_encS4 x) (by decide))
theorem sounds_take (s : Set7) (D : List Deed) (n m : Nat) (h : n ≤ m) : (soundsZ s D m).take n = soundsZ s D n := by
  unfold soundsZ
  rw [← List.map_take, List.take_range, Nat.min_eq_left h]
theorem sv_sorted {R : List (Int × Bool × Int)} (h : R.Pairwise fun a b => a.1 ≤ b.1) (p : Nat) : (svL R p).Pairwise fun a b => lexL (keyS b) (keyS a) = false := by
  unfold svL
  rw [List.pairwise_map]
  have h1 : R.zipIdx.Pairwise fun a b => a.1.1 ≤ b.1.1 := by
    have : (R.zipIdx.map Prod.fst).Pairwise fun a b => a.1 ≤ b.1 := by rw [List.zipIdx_map_fst]; exact h
    rw [List.pairwise_map] at this
    exact this
  refine (h1.and (zipIdx_lt R)).imp fun {a b} hab => ?_
  show lexL [b.1.1, (p : Int), (b.2 : Int)] [a.1.1, (p : Int), (a.2 : Int)] = false
  unfold lexL
  by_cases c : b.1.1 = a.1.1
  · rw [if_pos c]
    unfold lexL
    rw [if_pos rfl]
    unfold lexL
    rw [if_neg (by have := hab.2; omega)]
    exact decide_eq_false (by have := hab.2; omega)
  · rw [if_neg c]
    exact decide_eq_false (by have := hab.1; omega)
theorem zip_next {F : List (Int × Int)} (h : F.Pairwise fun a b => a.1 + a.2 < b.1) : ∀ p ∈ F.zip (F.drop 1), p.1.1 + p.1.2 < p.2.1 := by
  induction F with
  | nil => intro p hp; cases hp
  | cons x r ih =>
    intro p hp
    have h2 := List.pairwise_cons.mp h
    cases r with
    | nil => cases hp
    | cons y r =>
      rcases List.mem_cons.mp (show p ∈ (x, y) :: (y :: r).zip r from hp) with e | e
      · rw [e]; exact h2.1 y (by simp)
      · exact ih h2.2 p e
/-- a fullest tick there is -/
theorem full_ex : ∀ (L : List Int), L ≠ [] → ∃ (m : Int) (j : Nat), L[j]? = some m ∧ (∀ i, i < j → ∀ x, L[i]? = some x → x < m) ∧ ∀ x ∈ L, x ≤ m := fun L hL => by
  obtain ⟨m, hm⟩ : ∃ m, m ∈ L ∧ ∀ x ∈ L, x ≤ m := by
    cases L with
    | nil => exact absurd rfl hL
    | cons x r => exact ⟨_, (maxI_spec r x).1, (maxI_spec r x).2⟩
  have hj := List.idxOf_lt_length_of_mem hm.1
  refine ⟨m, L.idxOf m, by rw [List.getElem?_eq_getElem hj, List.getElem_idxOf hj], fun i hi x hx => ?_, hm.2⟩
  have hil : i < L.length := by omega
  rw [List.getElem?_eq_getElem hil] at hx
  have h1 := hm.2 _ (List.getElem_mem hil)
  have h2 := List.not_of_lt_findIdx (p := (· == m)) (xs := L) hi
  have h3 : L[i] ≠ m := by simpa using h2
  have h4 := Option.some.inj hx
  omega
theorem law_true (ns : List Int) (hl : ns.length ≤ 63) : ∃ ts, f_law [.d (.list (ns.map PyData.int))] = .ok (.d (.bool true)) ts := by
  obtain ⟨s, hse⟩ : ∃ s, s = Set7.of (seedZ (cell ns 0) 0) := ⟨_, rfl⟩
  have hs : OkSet s := by rw [hse]; exact set_ok _
  obtain ⟨D, eD, gD, lD⟩ := e_law_deeds (seedZ (cell ns 1) 1) (cell ns 2 % 20) (by omega) (by omega)
  have lD : D.length ≤ 80 := by omega
  obtain ⟨n, hn⟩ : ∃ n : Nat, (n : Int) = 1 + cell ns 3 % 80 := ⟨(1 + cell ns 3 % 80).toNat, by omega⟩
  have n0 : 1 ≤ n := by omega
  have n1 : n ≤ 80 := by omega
  have t0 : p0_law [some (.d (intL ns)), none, none, none, none, none, none, none, none, none, none, none, none, none, none, none, none, none, none, none, none, none] = .nx [some (.d (intL ns)), some (.d (setD s)), none, none, none, none, none, none, none, none, none, none, none, none, none, none, none, none, none, none, none, none] := by
    simp [p0_law, e_cell ns _ _ hl, e_seed, e_setting_of, ← hse]
  have t1 : p1_law [some (.d (intL ns)), some (.d (setD s)), none, none, none, none, none, none, none, none, none, none, none, none, none, none, none, none, none, none, none, none] = .nx [some (.d (intL ns)), some (.d (setD s)), some (.d (dlist D)), none, none, none, none, none, none, none, none, none, none, none, none, none, none, none, none, none, none, none] := by
    simp [p1_law, e_cell ns _ _ hl, e_seed, eD]
  have t2 : p2_law [some (.d (intL ns)), some (.d (setD s)), some (.d (dlist D)), none, none, none, none, none, none, none, none, none, none, none, none, none, none, none, none, none, none, none] = .nx [some (.d (intL ns)), some (.d (setD s)), some (.d (dlist D)), some (.d (.int (n : Int))), none, none, none, none, none, none, none, none, none, none, none, none, none, none, none, none, none, none] := by
    simp [p2_law, e_cell ns _ _ hl, ← hn]
  have eh := e_heard s hs D gD lD (okD_dlist D) n (by omega) (by omega)
  have eo := e_how_often s hs D gD lD (okD_dlist D) n (by omega) (by omega)
  have es := e_sounds s hs D gD lD (okD_dlist D) n (by omega) (by omega)
  obtain ⟨FF, hF, ei⟩ := e_silences s hs D gD lD (okD_dlist D) n (by omega) (by omega)
  obtain ⟨m, j, hj, hjlt, hjle⟩ := full_ex ((soundsZ s D n).map fun r => (r.length : Int)) (by unfold soundsZ; simp; omega)
  have ef := e_fullest s hs D gD lD (okD_dlist D) n (by omega) (by omega) (soundsZ s D n) (by rw [Int.toNat_natCast]) m j hj hjlt hjle
  rw [Int.toNat_natCast] at eh eo es hF
  obtain ⟨O, hOp, hOs, hO⟩ := sort_pairs (oftZ (heardZ s D n))
  rw [hO] at eo
  have hRl := heardZ_len hs gD n
  obtain ⟨R, hR⟩ : ∃ R, R = heardZ s D n := ⟨_, rfl⟩
  obtain ⟨W, hW⟩ : ∃ W, W = soundsZ s D n := ⟨_, rfl⟩
  have hWl : W.length = n := by rw [hW]; unfold soundsZ; simp
  rw [← hR] at eh hRl hOp
  rw [← hW] at es hF hj hjlt hjle
  have qR : R.length < 16777216 := by omega
  have qW : W.length < 16777216 := by omega
  have t3 : p3_law [some (.d (intL ns)), some (.d (setD s)), some (.d (dlist D)), some (.d (.int (n : Int))), none, none, none, none, none, none, none, none, none, none, none, none, none, none, none, none, none, none] = .nx [some (.d (intL ns)), some (.d (setD s)), some (.d (dlist D)), some (.d (.int (n : Int))), some (.d (.list (R.map encH))), none, none, none, none, none, none, none, none, none, none, none, none, none, none, none, none, none] := by
    simp [p3_law, eh]
  have t4 : p4_law [some (.d (intL ns)), some (.d (setD s)), some (.d (dlist D)), some (.d (.int (n : Int))), some (.d (.list (R.map encH))), none, none, none, none, none, none, none, none, none, none, none, none, none, none, none, none, none] = .nx [some (.d (intL ns)), some (.d (setD s)), some (.d (dlist D)), some (.d (.int (n : Int))), some (.d (.list (R.map encH))), some (.d (.list (O.map tupP))), none, none, none, none, none, none, none, none, none, none, none, none, none, none, none, none] := by
    simp [p4_law, eo]
  have t5 : p5_law [some (.d (intL ns)), some (.d (setD s)), some (.d (dlist D)), some (.d (.int (n : Int))), some (.d (.list (R.map encH))), some (.d (.list (O.map tupP))), none, none, none, none, none, none, none, none, none, none, none, none, none, none, none, none] = .nx [some (.d (intL ns)), some (.d (setD s)), some (.d (dlist D)), some (.d (.int (n : Int))), some (.d (.list (R.map encH))), some (.d (.list (O.map tupP))), some (.d (.list (W.map intL))), none, none, none, none, none, none, none, none, none, none, none, none, none, none, none] := by
    simp [p5_law, es]
  obtain ⟨last, hlast⟩ : ∃ l, l = soundZ (atA s D n) := ⟨_, rfl⟩
  have hW2 : W = soundsZ s D (n - 1) ++ [last] := by
    rw [hW, hlast]
    unfold soundsZ
    obtain ⟨q, rfl⟩ : ∃ q, n = q + 1 := ⟨n - 1, by omega⟩
    rw [List.range_succ, List.map_append]
    rfl
  have gl := ix_lastM (enc := intL) (soundsZ s D (n - 1)) last
  rw [← hW2] at gl
  have t6 : ∃ x7 x8 x9, p6_law [some (.d (intL ns)), some (.d (setD s)), some (.d (dlist D)), some (.d (.int (n : Int))), some (.d (.list (R.map encH))), some (.d (.list (O.map tupP))), some (.d (.list (W.map intL))), none, none, none, none, none, none, none, none, none, none, none, none, none, none, none] = .nx [some (.d (intL ns)), some (.d (setD s)), some (.d (dlist D)), some (.d (.int (n : Int))), some (.d (.list (R.map encH))), some (.d (.list (O.map tupP))), some (.d (.list (W.map intL))), x7, x8, x9, none, none, none, none, none, none, none, none, none, none, none, none] := by
    obtain ⟨S', e, x7, x8, x9, hS⟩ := loopM_all (f := tgT 2 (tgsC (tgN 7) (tgsC (tgN 8) (tgsN)))) (body := l1_law) tupP (fun _ S => ∃ x7 x8 x9, S = [some (.d (intL ns)), some (.d (setD s)), some (.d (dlist D)), some (.d (.int (n : Int))), some (.d (.list (R.map encH))), some (.d (.list (O.map tupP))), some (.d (.list (W.map intL))), x7, x8, x9, none, none, none, none, none, none, none, none, none, none, none, none]) O [some (.d (intL ns)), some (.d (setD s)), some (.d (dlist D)), some (.d (.int (n : Int))), some (.d (.list (R.map encH))), some (.d (.list (O.map tupP))), some (.d (.list (W.map intL))), none, none, none, none, none, none, none, none, none, none, none, none, none, none, none] ⟨none, none, none, rfl⟩ (by
      intro pre p post S hD hS
      obtain ⟨x7, x8, x9, rfl⟩ := hS
      have hp : p ∈ oftZ R := hOp.mem_iff.mp (by rw [hD]; simp)
      obtain ⟨p1, p2⟩ := oft_mem hp
      refine ⟨[some (.d (intL ns)), some (.d (setD s)), some (.d (dlist D)), some (.d (.int (n : Int))), some (.d (.list (R.map encH))), some (.d (.list (O.map tupP))), some (.d (.list (W.map intL))), some (.d (.int p.1)), some (.d (.int p.2)), x9, none, none, none, none, none, none, none, none, none, none, none, none], by simp [tupP], lpOk_of (S2 := [some (.d (intL ns)), some (.d (setD s)), some (.d (dlist D)), some (.d (.int (n : Int))), some (.d (.list (R.map encH))), some (.d (.list (O.map tupP))), some (.d (.list (W.map intL))), some (.d (.int p.1)), some (.d (.int p.2)), some (.d (.int (offsN R p.1))), none, none, none, none, none, none, none, none, none, none, none, none]) ?_ ⟨_, _, _, rfl⟩⟩
      have lc : lcL (tgN 19) ct1_law ce1_law [some (.d (intL ns)), some (.d (setD s)), some (.d (dlist D)), some (.d (.int (n : Int))), some (.d (.list (R.map encH))), some (.d (.list (O.map tupP))), some (.d (.list (W.map intL))), some (.d (.int p.1)), some (.d (.int p.2)), x9, none, none, none, none, none, none, none, none, none, none, none, none] (R.map encH) = some ((R.filter fun r => !r.2.1 && decide (r.2.2 = p.1)).map encH) := lcL_enc (tg := tgN 19) (mt := ct1_law) (me := ce1_law) (S := [some (.d (intL ns)), some (.d (setD s)), some (.d (dlist D)), some (.d (.int (n : Int))), some (.d (.list (R.map encH))), some (.d (.list (O.map tupP))), some (.d (.list (W.map intL))), some (.d (.int p.1)), some (.d (.int p.2)), x9, none, none, none, none, none, none, none, none, none, none, none, none]) encH (fun r => !r.2.1 && decide (r.2.2 = p.1)) encH R fun r _ => ⟨_, rfl, by
        have g : gSl (encH r) (some 1) none = some (.d (.tuple [.str (if r.2.1 = true then "on" else "off"), .int r.2.2])) := rfl
        have q := eq_wk r.2.1 r.2.2 p.1
        obtain ⟨b, hb⟩ : ∃ b, b = (!r.2.1 && decide (r.2.2 = p.1)) := ⟨_, rfl⟩
        rw [← hb] at q ⊢
        cases b <;> simp [ct1_law, ce1_law, g, q]⟩
      have hlen : (((R.filter fun r => !r.2.1 && decide (r.2.2 = p.1)).map encH).length : Int) = offsN R p.1 := by
        rw [List.length_map]
        unfold offsN
        rw [List.countP_eq_length_filter]
      have hoo := on_off hs gD p.1 n
      rw [← hR] at hoo
      have hin : isIn p.1 (hereA s D n) = (if decide (p.1 ∈ last) = true then 1 else 0) := by
        unfold isIn
        have := mem_sound hs gD p.1 n
        rw [← hlast] at this
        by_cases c : p.1 ∈ hereA s D n
        · rw [if_pos c, if_pos (decide_eq_true (this.mpr c))]
        · rw [if_neg c, if_neg (by simpa using fun z => c (this.mp z))]
      rw [hin, ← p1] at hoo
      obtain ⟨OF, hOF⟩ : ∃ x, x = (R.filter fun r => !r.2.1 && decide (r.2.2 = p.1)).map encH := ⟨_, rfl⟩
      rw [← hOF] at lc hlen
      obtain ⟨WW, hWW⟩ : ∃ x, x = W.map intL := ⟨_, rfl⟩
      obtain ⟨RR, hRR⟩ : ∃ x, x = R.map encH := ⟨_, rfl⟩
      have qRR : RR.length < 16777216 := by rw [hRR, List.length_map]; exact qR
      obtain ⟨f, hf⟩ : ∃ f, f = offsN R p.1 := ⟨_, rfl⟩
      rw [← hf] at hlen hoo ⊢
      obtain ⟨c, hc⟩ : ∃ c, c = decide (p.1 ∈ last) := ⟨_, rfl⟩
      have gin : gInL false (.int p.1) (intL last) = some (.d (.bool c)) := by
        have := in_ints p.1 last false
        rw [← hc] at this
        simpa using this
      rw [← hc] at hoo
      have nlt : ¬ p.2 < 1 := by omega
      have gi : gInt (.bool c) = some (.d (.int (p.2 - f))) := by rw [hoo]; cases c <;> rfl
      have nn : gNe (.int (p.2 - f)) (.int (p.2 - f)) = some (.d (.bool false)) := gNe_self (lay_sh (lay_int 0 _) (by decide))
      rw [← hWW] at gl
      rw [← hRR, ← hWW] at lc
      rw [← hRR, ← hWW]
      simp [l1_law, lc, wipeS, qRR, hlen, gl, gin, gi, nn, nlt])
    subst hS
    refine ⟨x7, x8, x9, ?_⟩
    unfold p6_law
    rw [mfor_ap, miL_ap, mvar_d (x := .list (O.map tupP)) rfl, bind_ok, stab_d, show (some (RV.d (.list (O.map tupP)))).bind datL = some (O.map tupP) from rfl, toI_some, toS_ok]
    exact e
  obtain ⟨x7, x8, x9, t6⟩ := t6
  have t7 : p7_law [some (.d (intL ns)), some (.d (setD s)), some (.d (dlist D)), some (.d (.int (n : Int))), some (.d (.list (R.map encH))), some (.d (.list (O.map tupP))), some (.d (.list (W.map intL))), x7, x8, x9, none, none, none, none, none, none, none, none, none, none, none, none] = .nx [some (.d (intL ns)), some (.d (setD s)), some (.d (dlist D)), some (.d (.int (n : Int))), some (.d (.list (R.map encH))), some (.d (.list (O.map tupP))), some (.d (.list (W.map intL))), x7, x8, x9, some (.d (.int m)), some (.d (.int (j : Int))), none, none, none, none, none, none, none, none, none, none] := by
    simp [p7_law, ef]
  have hjl := (List.getElem?_eq_some_iff.mp hj).1
  rw [List.length_map] at hjl
  obtain ⟨row, hrow⟩ : ∃ r, W[j]? = some r := ⟨_, List.getElem?_eq_getElem hjl⟩
  have hm : (row.length : Int) = m := by
    rw [List.getElem?_map, hrow] at hj
    exact Option.some.inj hj
  have t8 : p8_law [some (.d (intL ns)), some (.d (setD s)), some (.d (dlist D)), some (.d (.int (n : Int))), some (.d (.list (R.map encH))), some (.d (.list (O.map tupP))), some (.d (.list (W.map intL))), x7, x8, x9, some (.d (.int m)), some (.d (.int (j : Int))), none, none, none, none, none, none, none, none, none, none] = .nx [some (.d (intL ns)), some (.d (setD s)), some (.d (dlist D)), some (.d (.int (n : Int))), some (.d (.list (R.map encH))), some (.d (.list (O.map tupP))), some (.d (.list (W.map intL))), x7, x8, x9, some (.d (.int m)), some (.d (.int (j : Int))), none, none, none, none, none, none, none, none, none, none] := by
    have g := ix_map (enc := intL) (xs := W) (j := (j : Int)) (by omega) (by rw [Int.toNat_natCast]; exact hrow)
    have cu := cut_upto (enc := intL) W j
    have lc : lcL (tgN 19) ct2_law ce2_law [some (.d (intL ns)), some (.d (setD s)), some (.d (dlist D)), some (.d (.int (n : Int))), some (.d (.list (R.map encH))), some (.d (.list (O.map tupP))), some (.d (.list (W.map intL))), x7, x8, x9, some (.d (.int m)), some (.d (.int (j : Int))), none, none, none, none, none, none, none, none, none, none] ((W.take j).map intL) = some [] := by
      have := lcL_enc (tg := tgN 19) (mt := ct2_law) (me := ce2_law) (S := [some (.d (intL ns)), some (.d (setD s)), some (.d (dlist D)), some (.d (.int (n : Int))), some (.d (.list (R.map encH))), some (.d (.list (O.map tupP))), some (.d (.list (W.map intL))), x7, x8, x9, some (.d (.int m)), some (.d (.int (j : Int))), none, none, none, none, none, none, none, none, none, none]) intL (fun _ => false) intL (W.take j) fun r hr => ⟨[some (.d (intL ns)), some (.d (setD s)), some (.d (dlist D)), some (.d (.int (n : Int))), some (.d (.list (R.map encH))), some (.d (.list (O.map tupP))), some (.d (.list (W.map intL))), x7, x8, x9, some (.d (.int m)), some (.d (.int (j : Int))), none, none, none, none, none, none, none, some (.d (intL r)), none, none], rfl, by
        obtain ⟨i, hi⟩ := List.mem_iff_getElem?.mp hr
        have hij : i < j := by
          have := (List.getElem?_eq_some_iff.mp hi).1
          rw [List.length_take] at this; omega
        rw [List.getElem?_take_of_lt hij] at hi
        have h1 := hjlt i hij (r.length : Int) (by rw [List.getElem?_map, hi]; rfl)
        have ge : ¬ ((r.length : Int) ≥ m) := by omega
        have gg : gGe (.int (r.length : Int)) (.int m) = some (.d (.bool false)) := by simp [ge]
        simp [ct2_law, intL, gg]⟩
      rw [this]
      simp
    have nn : gNe (.int m) (.int m) = some (.d (.bool false)) := gNe_self (lay_sh (lay_int 0 _) (by decide))
    have n2 : gNe (.list []) (.list []) = some (.d (.bool false)) := gNe_self (by decide +kernel)
    obtain ⟨TK, hTK⟩ : ∃ x, x = (W.take j).map intL := ⟨_, rfl⟩
    have qTK : TK.length < 16777216 := by rw [hTK, List.length_map, List.length_take]; omega
    rw [← hTK] at lc cu
    obtain ⟨WW, hWW⟩ : ∃ x, x = W.map intL := ⟨_, rfl⟩
    rw [← hWW] at g cu
    rw [← hWW] at lc
    rw [← hWW]
    simp [p8_law, g, intL, hm, nn, cu, lc, wipeS, qTK, n2]
  have t9 : p9_law [some (.d (intL ns)), some (.d (setD s)), some (.d (dlist D)), some (.d (.int (n : Int))), some (.d (.list (R.map encH))), some (.d (.list (O.map tupP))), some (.d (.list (W.map intL))), x7, x8, x9, some (.d (.int m)), some (.d (.int (j : Int))), none, none, none, none, none, none, none, none, none, none] = .nx [some (.d (intL ns)), some (.d (setD s)), some (.d (dlist D)), some (.d (.int (n : Int))), some (.d (.list (R.map encH))), some (.d (.list (O.map tupP))), some (.d (.list (W.map intL))), x7, x8, x9, some (.d (.int m)), some (.d (.int (j : Int))), none, none, none, none, none, none, none, none, none, none] := by
    have lc : lcL (tgN 19) ct3_law ce3_law [some (.d (intL ns)), some (.d (setD s)), some (.d (dlist D)), some (.d (.int (n : Int))), some (.d (.list (R.map encH))), some (.d (.list (O.map tupP))), some (.d (.list (W.map intL))), x7, x8, x9, some (.d (.int m)), some (.d (.int (j : Int))), none, none, none, none, none, none, none, none, none, none] (W.map intL) = some [] := by
      have := lcL_enc (tg := tgN 19) (mt := ct3_law) (me := ce3_law) (S := [some (.d (intL ns)), some (.d (setD s)), some (.d (dlist D)), some (.d (.int (n : Int))), some (.d (.list (R.map encH))), some (.d (.list (O.map tupP))), some (.d (.list (W.map intL))), x7, x8, x9, some (.d (.int m)), some (.d (.int (j : Int))), none, none, none, none, none, none, none, none, none, none]) intL (fun _ => false) intL W fun r hr => ⟨[some (.d (intL ns)), some (.d (setD s)), some (.d (dlist D)), some (.d (.int (n : Int))), some (.d (.list (R.map encH))), some (.d (.list (O.map tupP))), some (.d (.list (W.map intL))), x7, x8, x9, some (.d (.int m)), some (.d (.int (j : Int))), none, none, none, none, none, none, none, some (.d (intL r)), none, none], rfl, by
        have h1 := hjle (r.length : Int) (List.mem_map.mpr ⟨r, hr, rfl⟩)
        have ge : ¬ ((r.length : Int) > m) := by omega
        have gg : gGt (.int (r.length : Int)) (.int m) = some (.d (.bool false)) := by simp [ge]
        simp [ct3_law, intL, gg]⟩
      rw [this]
      simp
    have n2 : gNe (.list []) (.list []) = some (.d (.bool false)) := gNe_self (by decide +kernel)
    obtain ⟨WW, hWW⟩ : ∃ x, x = W.map intL := ⟨_, rfl⟩
    have qWW : WW.length < 16777216 := by rw [hWW, List.length_map]; exact qW
    rw [← hWW] at lc
    rw [← hWW]
    simp [p9_law, lc, wipeS, qWW, n2]
  have t10 : p10_law [some (.d (intL ns)), some (.d (setD s)), some (.d (dlist D)), some (.d (.int (n : Int))), some (.d (.list (R.map encH))), some (.d (.list (O.map tupP))), some (.d (.list (W.map intL))), x7, x8, x9, some (.d (.int m)), some (.d (.int (j : Int))), none, none, none, none, none, none, none, none, none, none] = .nx [some (.d (intL ns)), some (.d (setD s)), some (.d (dlist D)), some (.d (.int (n : Int))), some (.d (.list (R.map encH))), some (.d (.list (O.map tupP))), some (.d (.list (W.map intL))), x7, x8, x9, some (.d (.int m)), some (.d (.int (j : Int))), none, none, none, none, none, none, none, none, none, none] := by
    have hle : row.length ≤ O.length := by
      have hrw : row = soundZ (atA s D (j + 1)) := by
        rw [hW] at hrow
        unfold soundsZ at hrow
        rw [List.getElem?_map, List.getElem?_range (by omega)] at hrow
        exact (Option.some.inj hrow).symm
      have h1 : row.length ≤ (O.map (·.1)).length := nodup_le (by rw [hrw]; exact sound_nd hs gD _) fun t ht => by
        have h2 : onsN R t ≠ 0 := by rw [hR]; exact sound_on hs gD (i := j + 1) (by omega) (by rw [← hrw]; exact ht)
        exact (hOp.map _).mem_iff.mpr (oft_in h2)
      rwa [List.length_map] at h1
    have ge : ¬ (m > (O.length : Int)) := by omega
    have gg : gGt (.int m) (.int (O.length : Int)) = some (.d (.bool false)) := by simp [ge]
    simp [p10_law, gg]
  have t11 : p11_law [some (.d (intL ns)), some (.d (setD s)), some (.d (dlist D)), some (.d (.int (n : Int))), some (.d (.list (R.map encH))), some (.d (.list (O.map tupP))), some (.d (.list (W.map intL))), x7, x8, x9, some (.d (.int m)), some (.d (.int (j : Int))), none, none, none, none, none, none, none, none, none, none] = .nx [some (.d (intL ns)), some (.d (setD s)), some (.d (dlist D)), some (.d (.int (n : Int))), some (.d (.list (R.map encH))), some (.d (.list (O.map tupP))), some (.d (.list (W.map intL))), x7, x8, x9, some (.d (.int m)), some (.d (.int (j : Int))), some (.d (.list (FF.map tupP))), none, none, none, none, none, none, none, none, none] := by
    simp [p11_law, ei]
  have t12 : p12_law [some (.d (intL ns)), some (.d (setD s)), some (.d (dlist D)), some (.d (.int (n : Int))), some (.d (.list (R.map encH))), some (.d (.list (O.map tupP))), some (.d (.list (W.map intL))), x7, x8, x9, some (.d (.int m)), some (.d (.int (j : Int))), some (.d (.list (FF.map tupP))), none, none, none, none, none, none, none, none, none] = .nx [some (.d (intL ns)), some (.d (setD s)), some (.d (dlist D)), some (.d (.int (n : Int))), some (.d (.list (R.map encH))), some (.d (.list (O.map tupP))), some (.d (.list (W.map intL))), x7, x8, x9, some (.d (.int m)), some (.d (.int (j : Int))), some (.d (.list (FF.map tupP))), some (.d (.list [])), none, none, none, none, none, none, none, none] := by
    simp [p12_law]
  have flen : ∀ pre post, FF = pre ++ post → (flatR pre).length ≤ n := fun pre post h => by
    have h1 : (flatR FF).length ≤ n := by
      rw [hF.flat]
      unfold emptyT
      rw [List.length_map]
      have := List.length_filter_le (fun p : List Int × Nat => decide (p.1 = [])) W.zipIdx
      rw [List.length_zipIdx, hWl] at this
      exact this
    rw [h] at h1
    unfold flatR at h1 ⊢
    rw [List.flatMap_append, List.length_append] at h1
    omega
  have t13 : ∃ x14 x15, p13_law [some (.d (intL ns)), some (.d (setD s)), some (.d (dlist D)), some (.d (.int (n : Int))), some (.d (.list (R.map encH))), some (.d (.list (O.map tupP))), some (.d (.list (W.map intL))), x7, x8, x9, some (.d (.int m)), some (.d (.int (j : Int))), some (.d (.list (FF.map tupP))), some (.d (.list [])), none, none, none, none, none, none, none, none] = .nx [some (.d (intL ns)), some (.d (setD s)), some (.d (dlist D)), some (.d (.int (n : Int))), some (.d (.list (R.map encH))), some (.d (.list (O.map tupP))), some (.d (.list (W.map intL))), x7, x8, x9, some (.d (.int m)), some (.d (.int (j : Int))), some (.d (.list (FF.map tupP))), some (.d (intL (flatR FF))), x14, x15, none, none, none, none, none, none] := by
    obtain ⟨S', e, x14, x15, hS⟩ := loopM_all (f := tgT 2 (tgsC (tgN 14) (tgsC (tgN 15) (tgsN)))) (body := l2_law) tupP (fun pre S => ∃ x14 x15, S = [some (.d (intL ns)), some (.d (setD s)), some (.d (dlist D)), some (.d (.int (n : Int))), some (.d (.list (R.map encH))), some (.d (.list (O.map tupP))), some (.d (.list (W.map intL))), x7, x8, x9, some (.d (.int m)), some (.d (.int (j : Int))), some (.d (.list (FF.map tupP))), some (.d (intL (flatR pre))), x14, x15, none, none, none, none, none, none]) FF [some (.d (intL ns)), some (.d (setD s)), some (.d (dlist D)), some (.d (.int (n : Int))), some (.d (.list (R.map encH))), some (.d (.list (O.map tupP))), some (.d (.list (W.map intL))), x7, x8, x9, some (.d (.int m)), some (.d (.int (j : Int))), some (.d (.list (FF.map tupP))), some (.d (.list [])), none, none, none, none, none, none, none, none] ⟨none, none, rfl⟩ (by
      intro pre q post S hD hS
      obtain ⟨x14, x15, rfl⟩ := hS
      have hq : q ∈ FF := by rw [hD]; simp
      have hhi := hF.hi q hq
      have hpos := hF.pos q hq
      rw [List.length_zipIdx, hWl] at hhi
      have hq0 : 0 ≤ q.1 := by
        have h1 : q.1 ∈ flatR FF := by
          unfold flatR
          refine List.mem_flatMap.mpr ⟨q, hq, List.mem_map.mpr ⟨0, List.mem_range.mpr (by omega), by simp⟩⟩
        rw [hF.flat] at h1
        unfold emptyT at h1
        obtain ⟨p, _, e⟩ := List.mem_map.mp h1
        omega
      have fl := flen (pre ++ [q]) post (by rw [hD]; simp)
      have fr : flatR (pre ++ [q]) = flatR pre ++ (List.range q.2.toNat).map fun i : Nat => q.1 + (i : Int) := by
        unfold flatR
        rw [List.flatMap_append, List.flatMap_singleton]
      refine ⟨[some (.d (intL ns)), some (.d (setD s)), some (.d (dlist D)), some (.d (.int (n : Int))), some (.d (.list (R.map encH))), some (.d (.list (O.map tupP))), some (.d (.list (W.map intL))), x7, x8, x9, some (.d (.int m)), some (.d (.int (j : Int))), some (.d (.list (FF.map tupP))), some (.d (intL (flatR pre))), some (.d (.int q.1)), some (.d (.int q.2)), none, none, none, none, none, none], by simp [tupP], lpOk_of (S2 := [some (.d (intL ns)), some (.d (setD s)), some (.d (dlist D)), some (.d (.int (n : Int))), some (.d (.list (R.map encH))), some (.d (.list (O.map tupP))), some (.d (.list (W.map intL))), x7, x8, x9, some (.d (.int m)), some (.d (.int (j : Int))), some (.d (.list (FF.map tupP))), some (.d (intL (flatR (pre ++ [q])))), some (.d (.int q.1)), some (.d (.int q.2)), none, none, none, none, none, none]) ?_ ⟨_, _, rfl⟩⟩
      rw [fr] at fl ⊢
      have rg : rgD q.1 (q.1 + q.2) = ((List.range q.2.toNat).map fun i : Nat => q.1 + (i : Int)).map PyData.int := by
        unfold rgD
        rw [show (q.1 + q.2 - q.1).toNat = q.2.toNat by omega, List.map_map]
        rfl
      have g1 : smR q.1 = true := by unfold smR; simp; omega
      have g2 : smR (q.1 + q.2) = true := by unfold smR; simp; omega
      obtain ⟨C, hC⟩ : ∃ C, C = (List.range q.2.toNat).map fun i : Nat => q.1 + (i : Int) := ⟨_, rfl⟩
      rw [← hC] at rg fl ⊢
      rw [List.length_append] at fl
      obtain ⟨B, hB⟩ : ∃ B, B = flatR pre := ⟨_, rfl⟩
      rw [← hB] at fl ⊢
      have qq : B.length + C.length ≤ 16777216 := by omega
      have lr : mLR2 (mvar 14) (mop2 true (lift2 gAdd) (mvar 14) (mvar 15)) [some (.d (intL ns)), some (.d (setD s)), some (.d (dlist D)), some (.d (.int (n : Int))), some (.d (.list (R.map encH))), some (.d (.list (O.map tupP))), some (.d (.list (W.map intL))), x7, x8, x9, some (.d (.int m)), some (.d (.int (j : Int))), some (.d (.list (FF.map tupP))), some (.d (intL B)), some (.d (.int q.1)), some (.d (.int q.2)), none, none, none, none, none, none] = .ok (.nw (.lst (C.map PyData.int))) [some (.d (intL ns)), some (.d (setD s)), some (.d (dlist D)), some (.d (.int (n : Int))), some (.d (.list (R.map encH))), some (.d (.list (O.map tupP))), some (.d (.list (W.map intL))), x7, x8, x9, some (.d (.int m)), some (.d (.int (j : Int))), some (.d (.list (FF.map tupP))), some (.d (intL B)), some (.d (.int q.1)), some (.d (.int q.2)), none, none, none, none, none, none] := by
        unfold mLR2
        simp [g1, g2, rg]
      simp [l2_law, lr, intL, qq])
    subst hS
    refine ⟨x14, x15, ?_⟩
    unfold p13_law
    rw [mfor_ap, miL_ap, mvar_d (x := .list (FF.map tupP)) rfl, bind_ok, stab_d, show (some (RV.d (.list (FF.map tupP)))).bind datL = some (FF.map tupP) from rfl, toI_some, toS_ok]
    exact e
  obtain ⟨x14, x15, t13⟩ := t13
  have t14 : p14_law [some (.d (intL ns)), some (.d (setD s)), some (.d (dlist D)), some (.d (.int (n : Int))), some (.d (.list (R.map encH))), some (.d (.list (O.map tupP))), some (.d (.list (W.map intL))), x7, x8, x9, some (.d (.int m)), some (.d (.int (j : Int))), some (.d (.list (FF.map tupP))), some (.d (intL (flatR FF))), x14, x15, none, none, none, none, none, none] = .nx [some (.d (intL ns)), some (.d (setD s)), some (.d (dlist D)), some (.d (.int (n : Int))), some (.d (.list (R.map encH))), some (.d (.list (O.map tupP))), some (.d (.list (W.map intL))), x7, x8, x9, some (.d (.int m)), some (.d (.int (j : Int))), some (.d (.list (FF.map tupP))), some (.d (intL (flatR FF))), x14, x15, none, none, none, none, none, none] := by
    have enz : enumD (W.map intL) 0 = W.zipIdx.map fun p => .tuple [.int ((p.2 : Nat) : Int), intL p.1] := by
      show List.map _ ((W.map intL).zipIdx 0) = _
      rw [List.zipIdx_map, List.map_map]
      rfl
    have lc : lcL (tgT 2 (tgsC (tgN 20) (tgsC (tgN 19) (tgsN)))) ct4_law ce4_law [some (.d (intL ns)), some (.d (setD s)), some (.d (dlist D)), some (.d (.int (n : Int))), some (.d (.list (R.map encH))), some (.d (.list (O.map tupP))), some (.d (.list (W.map intL))), x7, x8, x9, some (.d (.int m)), some (.d (.int (j : Int))), some (.d (.list (FF.map tupP))), some (.d (intL (flatR FF))), x14, x15, none, none, none, none, none, none] (enumD (W.map intL) 0) = some ((flatR FF).map PyData.int) := by
      rw [enz]
      have := lcL_enc (tg := tgT 2 (tgsC (tgN 20) (tgsC (tgN 19) (tgsN)))) (mt := ct4_law) (me := ce4_law) (S := [some (.d (intL ns)), some (.d (setD s)), some (.d (dlist D)), some (.d (.int (n : Int))), some (.d (.list (R.map encH))), some (.d (.list (O.map tupP))), some (.d (.list (W.map intL))), x7, x8, x9, some (.d (.int m)), some (.d (.int (j : Int))), some (.d (.list (FF.map tupP))), some (.d (intL (flatR FF))), x14, x15, none, none, none, none, none, none]) (fun p : List Int × Nat => PyData.tuple [.int ((p.2 : Nat) : Int), intL p.1]) (fun p => decide (p.1 = [])) (fun p => PyData.int ((p.2 : Nat) : Int)) W.zipIdx fun p _ => ⟨[some (.d (intL ns)), some (.d (setD s)), some (.d (dlist D)), some (.d (.int (n : Int))), some (.d (.list (R.map encH))), some (.d (.list (O.map tupP))), some (.d (.list (W.map intL))), x7, x8, x9, some (.d (.int m)), some (.d (.int (j : Int))), some (.d (.list (FF.map tupP))), some (.d (intL (flatR FF))), x14, x15, none, none, none, some (.d (intL p.1)), some (.d (.int ((p.2 : Nat) : Int))), none], by simp, by
        have q := eq_nilL p.1
        obtain ⟨b, hb⟩ : ∃ b, b = decide (p.1 = []) := ⟨_, rfl⟩
        rw [← hb] at q ⊢
        cases b <;> simp [ct4_law, ce4_law, intL, q]⟩
      rw [this, hF.flat]
      unfold emptyT
      rw [List.map_map]
      rfl
    have q1 : (enumD (W.map intL) 0).length < 16777216 := by rw [enz, List.length_map, List.length_zipIdx]; exact qW
    obtain ⟨EN, hEN⟩ : ∃ x, x = enumD (W.map intL) 0 := ⟨_, rfl⟩
    rw [← hEN] at lc q1
    have nn : gNe (.list ((flatR FF).map PyData.int)) (.list ((flatR FF).map PyData.int)) = some (.d (.bool false)) := gNe_self (lay_sh (k := 1) (lay_intL (flatR FF)) (by decide))
    obtain ⟨B, hB⟩ : ∃ B, B = flatR FF := ⟨_, rfl⟩
    rw [← hB] at lc nn ⊢
    simp [p14_law, ← hEN, lc, wipeS, q1, intL, nn]
  have t15 : ∃ x16 x17, p15_law [some (.d (intL ns)), some (.d (setD s)), some (.d (dlist D)), some (.d (.int (n : Int))), some (.d (.list (R.map encH))), some (.d (.list (O.map tupP))), some (.d (.list (W.map intL))), x7, x8, x9, some (.d (.int m)), some (.d (.int (j : Int))), some (.d (.list (FF.map tupP))), some (.d (intL (flatR FF))), x14, x15, none, none, none, none, none, none] = .nx [some (.d (intL ns)), some (.d (setD s)), some (.d (dlist D)), some (.d (.int (n : Int))), some (.d (.list (R.map encH))), some (.d (.list (O.map tupP))), some (.d (.list (W.map intL))), x7, x8, x9, some (.d (.int m)), some (.d (.int (j : Int))), some (.d (.list (FF.map tupP))), some (.d (intL (flatR FF))), x14, x15, x16, x17, none, none, none, none] := by
    have cu := cut_from1 (enc := tupP) FF
    have zd : zipD (FF.map tupP) ((FF.drop 1).map tupP) = (FF.zip (FF.drop 1)).map fun p => .tuple [tupP p.1, tupP p.2] := by
      unfold zipD
      rw [List.zip_map, List.map_map]
      rfl
    obtain ⟨S', e, x16, x17, hS⟩ := loopM_all (f := tgT 2 (tgsC (tgN 16) (tgsC (tgN 17) (tgsN)))) (body := l3_law) (fun p : (Int × Int) × (Int × Int) => PyData.tuple [tupP p.1, tupP p.2]) (fun pre S => ∃ x16 x17, S = [some (.d (intL ns)), some (.d (setD s)), some (.d (dlist D)), some (.d (.int (n : Int))), some (.d (.list (R.map encH))), some (.d (.list (O.map tupP))), some (.d (.list (W.map intL))), x7, x8, x9, some (.d (.int m)), some (.d (.int (j : Int))), some (.d (.list (FF.map tupP))), some (.d (intL (flatR FF))), x14, x15, x16, x17, none, none, none, none]) (FF.zip (FF.drop 1)) [some (.d (intL ns)), some (.d (setD s)), some (.d (dlist D)), some (.d (.int (n : Int))), some (.d (.list (R.map encH))), some (.d (.list (O.map tupP))), some (.d (.list (W.map intL))), x7, x8, x9, some (.d (.int m)), some (.d (.int (j : Int))), some (.d (.list (FF.map tupP))), some (.d (intL (flatR FF))), x14, x15, none, none, none, none, none, none] ⟨none, none, rfl⟩ (by
      intro pre p post S hD hS
      obtain ⟨x16, x17, rfl⟩ := hS
      have h1 := zip_next hF.apart p (by rw [hD]; simp)
      refine ⟨[some (.d (intL ns)), some (.d (setD s)), some (.d (dlist D)), some (.d (.int (n : Int))), some (.d (.list (R.map encH))), some (.d (.list (O.map tupP))), some (.d (.list (W.map intL))), x7, x8, x9, some (.d (.int m)), some (.d (.int (j : Int))), some (.d (.list (FF.map tupP))), some (.d (intL (flatR FF))), x14, x15, some (.d (tupP p.1)), some (.d (tupP p.2)), none, none, none, none], by simp, lpOk_of (S2 := [some (.d (intL ns)), some (.d (setD s)), some (.d (dlist D)), some (.d (.int (n : Int))), some (.d (.list (R.map encH))), some (.d (.list (O.map tupP))), some (.d (.list (W.map intL))), x7, x8, x9, some (.d (.int m)), some (.d (.int (j : Int))), some (.d (.list (FF.map tupP))), some (.d (intL (flatR FF))), x14, x15, some (.d (tupP p.1)), some (.d (tupP p.2)), none, none, none, none]) ?_ ⟨_, _, rfl⟩⟩
      have g0 : ∀ q : Int × Int, gIx (tupP q) (.int 0) = some (.d (.int q.1)) := fun _ => rfl
      have g1 : ∀ q : Int × Int, gIx (tupP q) (.int 1) = some (.d (.int q.2)) := fun _ => rfl
      have ge : ¬ (p.1.1 + p.1.2 ≥ p.2.1) := by omega
      have gg : gGe (.int (p.1.1 + p.1.2)) (.int p.2.1) = some (.d (.bool false)) := by simp [ge]
      simp [l3_law, g0, g1, gg])
    subst hS
    rw [← zd] at e
    refine ⟨x16, x17, ?_⟩
    obtain ⟨F1, hF1⟩ : ∃ x, x = FF.map tupP := ⟨_, rfl⟩
    obtain ⟨F2, hF2⟩ : ∃ x, x = (FF.drop 1).map tupP := ⟨_, rfl⟩
    rw [← hF1, ← hF2] at cu e
    rw [← hF1]
    simp [p15_law, cu]
    exact e
  obtain ⟨x16, x17, t15⟩ := t15
  obtain ⟨n2, hn2⟩ : ∃ k : Nat, (k : Int) = n + cell ns 4 % 40 := ⟨(n + cell ns 4 % 40).toNat, by omega⟩
  have nn2 : n ≤ n2 := by omega
  have n22 : n2 ≤ 120 := by omega
  have t16 : p16_law [some (.d (intL ns)), some (.d (setD s)), some (.d (dlist D)), some (.d (.int (n : Int))), some (.d (.list (R.map encH))), some (.d (.list (O.map tupP))), some (.d (.list (W.map intL))), x7, x8, x9, some (.d (.int m)), some (.d (.int (j : Int))), some (.d (.list (FF.map tupP))), some (.d (intL (flatR FF))), x14, x15, x16, x17, none, none, none, none] = .nx [some (.d (intL ns)), some (.d (setD s)), some (.d (dlist D)), some (.d (.int (n : Int))), some (.d (.list (R.map encH))), some (.d (.list (O.map tupP))), some (.d (.list (W.map intL))), x7, x8, x9, some (.d (.int m)), some (.d (.int (j : Int))), some (.d (.list (FF.map tupP))), some (.d (intL (flatR FF))), x14, x15, x16, x17, some (.d (.int (n2 : Int))), none, none, none] := by
    simp [p16_law, e_cell ns _ _ hl, ← hn2]
  have eh2 := e_heard s hs D gD lD (okD_dlist D) n2 (by omega) (by omega)
  have es2 := e_sounds s hs D gD lD (okD_dlist D) n2 (by omega) (by omega)
  rw [Int.toNat_natCast] at eh2 es2
  have t17 : p17_law [some (.d (intL ns)), some (.d (setD s)), some (.d (dlist D)), some (.d (.int (n : Int))), some (.d (.list (R.map encH))), some (.d (.list (O.map tupP))), some (.d (.list (W.map intL))), x7, x8, x9, some (.d (.int m)), some (.d (.int (j : Int))), some (.d (.list (FF.map tupP))), some (.d (intL (flatR FF))), x14, x15, x16, x17, some (.d (.int (n2 : Int))), none, none, none] = .nx [some (.d (intL ns)), some (.d (setD s)), some (.d (dlist D)), some (.d (.int (n : Int))), some (.d (.list (R.map encH))), some (.d (.list (O.map tupP))), some (.d (.list (W.map intL))), x7, x8, x9, some (.d (.int m)), some (.d (.int (j : Int))), some (.d (.list (FF.map tupP))), some (.d (intL (flatR FF))), x14, x15, x16, x17, some (.d (.int (n2 : Int))), none, none, none] := by
    have cu := cut_upto (enc := encH) (heardZ s D n2) R.length
    obtain ⟨rest, hr, _⟩ := heard_split s D n n2 nn2
    rw [← hR] at hr
    have e1 : (heardZ s D n2).take R.length = R := by rw [hr, List.take_left]
    rw [e1] at cu
    have nn := ne_heardL R
    obtain ⟨R2, hR2⟩ : ∃ x, x = (heardZ s D n2).map encH := ⟨_, rfl⟩
    rw [← hR2] at cu eh2
    have hlen : (R.map encH).length = R.length := List.length_map _
    obtain ⟨RR, hRR⟩ : ∃ x, x = R.map encH := ⟨_, rfl⟩
    rw [← hRR] at cu nn hlen ⊢
    simp [p17_law, eh2, hlen, cu, nn]
  have t18 : p18_law [some (.d (intL ns)), some (.d (setD s)), some (.d (dlist D)), some (.d (.int (n : Int))), some (.d (.list (R.map encH))), some (.d (.list (O.map tupP))), some (.d (.list (W.map intL))), x7, x8, x9, some (.d (.int m)), some (.d (.int (j : Int))), some (.d (.list (FF.map tupP))), some (.d (intL (flatR FF))), x14, x15, x16, x17, some (.d (.int (n2 : Int))), none, none, none] = .nx [some (.d (intL ns)), some (.d (setD s)), some (.d (dlist D)), some (.d (.int (n : Int))), some (.d (.list (R.map encH))), some (.d (.list (O.map tupP))), some (.d (.list (W.map intL))), x7, x8, x9, some (.d (.int m)), some (.d (.int (j : Int))), some (.d (.list (FF.map tupP))), some (.d (intL (flatR FF))), x14, x15, x16, x17, some (.d (.int (n2 : Int))), none, none, none] := by
    have cu := cut_upto (enc := intL) (soundsZ s D n2) n
    rw [sounds_take s D n n2 nn2, ← hW] at cu
    have nn := ne_rows W
    obtain ⟨R2, hR2⟩ : ∃ x, x = (soundsZ s D n2).map intL := ⟨_, rfl⟩
    rw [← hR2] at cu es2
    obtain ⟨RR, hRR⟩ : ∃ x, x = W.map intL := ⟨_, rfl⟩
    rw [← hRR] at cu nn ⊢
    simp [p18_law, es2, cu, nn]
  have ev := e_several [s] (fun x hx => by rw [List.mem_singleton.mp hx]; exact hs) (by simp) (by simp) D gD lD (okD_dlist D) n (by omega) (by omega) (svL R 0) (by
    rw [Int.toNat_natCast, List.map_singleton, ← hR]
    unfold sevL
    simp) (sv_sorted (by rw [hR]; exact heard_sorted s D n) 0)
  have t19 : p19_law [some (.d (intL ns)), some (.d (setD s)), some (.d (dlist D)), some (.d (.int (n : Int))), some (.d (.list (R.map encH))), some (.d (.list (O.map tupP))), some (.d (.list (W.map intL))), x7, x8, x9, some (.d (.int m)), some (.d (.int (j : Int))), some (.d (.list (FF.map tupP))), some (.d (intL (flatR FF))), x14, x15, x16, x17, some (.d (.int (n2 : Int))), none, none, none] = .nx [some (.d (intL ns)), some (.d (setD s)), some (.d (dlist D)), some (.d (.int (n : Int))), some (.d (.list (R.map encH))), some (.d (.list (O.map tupP))), some (.d (.list (W.map intL))), x7, x8, x9, some (.d (.int m)), some (.d (.int (j : Int))), some (.d (.list (FF.map tupP))), some (.d (intL (flatR FF))), x14, x15, x16, x17, some (.d (.int (n2 : Int))), none, none, none] := by
    have lc : lcL (tgT 3 (tgsC (tgN 20) (tgsC (tgN 21) (tgsC (tgN 7) (tgsN))))) myes ce5_law [some (.d (intL ns)), some (.d (setD s)), some (.d (dlist D)), some (.d (.int (n : Int))), some (.d (.list (R.map encH))), some (.d (.list (O.map tupP))), some (.d (.list (W.map intL))), none, x8, x9, some (.d (.int m)), some (.d (.int (j : Int))), some (.d (.list (FF.map tupP))), some (.d (intL (flatR FF))), x14, x15, x16, x17, some (.d (.int (n2 : Int))), none, none, none] (R.map encH) = some ((svL R 0).map encS4) := by
      have := lcL_enc (tg := tgT 3 (tgsC (tgN 20) (tgsC (tgN 21) (tgsC (tgN 7) (tgsN))))) (mt := myes) (me := ce5_law) (S := [some (.d (intL ns)), some (.d (setD s)), some (.d (dlist D)), some (.d (.int (n : Int))), some (.d (.list (R.map encH))), some (.d (.list (O.map tupP))), some (.d (.list (W.map intL))), none, x8, x9, some (.d (.int m)), some (.d (.int (j : Int))), some (.d (.list (FF.map tupP))), some (.d (intL (flatR FF))), x14, x15, x16, x17, some (.d (.int (n2 : Int))), none, none, none]) encH (fun _ => true) (fun r => PyData.tuple [.int r.1, .int 0, .str (if r.2.1 = true then "on" else "off"), .int r.2.2]) R fun r _ => ⟨[some (.d (intL ns)), some (.d (setD s)), some (.d (dlist D)), some (.d (.int (n : Int))), some (.d (.list (R.map encH))), some (.d (.list (O.map tupP))), some (.d (.list (W.map intL))), some (.d (.int r.2.2)), x8, x9, some (.d (.int m)), some (.d (.int (j : Int))), some (.d (.list (FF.map tupP))), some (.d (intL (flatR FF))), x14, x15, x16, x17, some (.d (.int (n2 : Int))), none, some (.d (.int r.1)), some (.d (.str (if r.2.1 = true then "on" else "off")))], by simp [encH], by simp [ce5_law]⟩
      rw [this, List.filter_eq_self.mpr (fun _ _ => rfl)]
      congr 1
      unfold svL
      rw [List.map_map]
      conv => lhs; rw [← List.zipIdx_map_fst 0 R, List.map_map]
      rfl
    have nn := ne_encS4 (svL R 0)
    rw [List.map_singleton] at ev
    obtain ⟨V, hV⟩ : ∃ x, x = (svL R 0).map encS4 := ⟨_, rfl⟩
    rw [← hV] at lc nn ev
    obtain ⟨RR, hRR⟩ : ∃ x, x = R.map encH := ⟨_, rfl⟩
    have qRR : RR.length < 16777216 := by rw [hRR, List.length_map]; exact qR
    rw [← hRR] at lc ⊢
    simp [p19_law, ev, lc, wipeS, qRR, nn]
  have t20 : p20_law [some (.d (intL ns)), some (.d (setD s)), some (.d (dlist D)), some (.d (.int (n : Int))), some (.d (.list (R.map encH))), some (.d (.list (O.map tupP))), some (.d (.list (W.map intL))), x7, x8, x9, some (.d (.int m)), some (.d (.int (j : Int))), some (.d (.list (FF.map tupP))), some (.d (intL (flatR FF))), x14, x15, x16, x17, some (.d (.int (n2 : Int))), none, none, none] = .rt (.d (.bool true)) [some (.d (intL ns)), some (.d (setD s)), some (.d (dlist D)), some (.d (.int (n : Int))), some (.d (.list (R.map encH))), some (.d (.list (O.map tupP))), some (.d (.list (W.map intL))), x7, x8, x9, some (.d (.int m)), some (.d (.int (j : Int))), some (.d (.list (FF.map tupP))), some (.d (intL (flatR FF))), x14, x15, x16, x17, some (.d (.int (n2 : Int))), none, none, none] := by
    simp [p20_law]
  unfold f_law
  rw [fnM_ap]
  show ∃ ts, finB 1 (b_law [some (.d (intL ns)), none, none, none, none, none, none, none, none, none, none, none, none, none, none, none, none, none, none, none, none, none]) = _
  unfold b_law
  rw [mseq_ap, t0, seq_nx, mseq_ap, t1, seq_nx, mseq_ap, t2, seq_nx, mseq_ap, t3, seq_nx, mseq_ap, t4, seq_nx, mseq_ap, t5, seq_nx, mseq_ap, t6, seq_nx, mseq_ap, t7, seq_nx, mseq_ap, t8, seq_nx, mseq_ap, t9, seq_nx, mseq_ap, t10, seq_nx, mseq_ap, t11, seq_nx, mseq_ap, t12, seq_nx, mseq_ap, t13, seq_nx, mseq_ap, t14, seq_nx, mseq_ap, t15, seq_nx, mseq_ap, t16, seq_nx, mseq_ap, t17, seq_nx, mseq_ap, t18, seq_nx, mseq_ap, t19, seq_nx, t20]
  exact ⟨_, rfl⟩
end K19

set_option maxHeartbeats 4000000
namespace K19
open PySem PySem.Spec PyProof.Rows L2 M
structure Tx (K : Frag) (mg : Str → Option Value) : Prop where
  c_MOST_DEEDS : ∃ t, mg "MOST_DEEDS" = some (.int 80 t)
  c_MOST_KEY : ∃ t, mg "MOST_KEY" = some (.int 35 t)
  c_MOST_TICK : ∃ t, mg "MOST_TICK" = some (.int 999 t)
  c_SPAN : ∃ t, mg "SPAN" = some (.int 12 t)
  cl_Player : Cls K (He.ga K "Player")
  gc_Player : mg "Player" = some (.ref (He.ga K "Player"))
  m_Player_grid : Meth K (He.ga K "Player") "grid" (He.fAd K ("Player", some "grid"))
  m_Player_leave : Meth K (He.ga K "Player") "leave" (He.fAd K ("Player", some "leave"))
  m_Player_press : Meth K (He.ga K "Player") "press" (He.fAd K ("Player", some "press"))
  m_Player_rest : Meth K (He.ga K "Player") "rest" (He.fAd K ("Player", some "rest"))
  m_Player_sounding : Meth K (He.ga K "Player") "sounding" (He.fAd K ("Player", some "sounding"))
  m_Player_step : Meth K (He.ga K "Player") "step" (He.fAd K ("Player", some "step"))
  m_Player_tick : Meth K (He.ga K "Player") "tick" (He.fAd K ("Player", some "tick"))
  mk_Player : L2.Mk K (He.ga K "Player") (He.fAd K ("Player", some "__init__"))
  n_Player_count : NoAttr K (He.ga K "Player") "count"
  n_Player_down : NoAttr K (He.ga K "Player") "down"
  n_Player_due : NoAttr K (He.ga K "Player") "due"
  n_Player_ends : NoAttr K (He.ga K "Player") "ends"
  n_Player_now : NoAttr K (He.ga K "Player") "now"
  n_Player_row : NoAttr K (He.ga K "Player") "row"
  n_Player_setting : NoAttr K (He.ga K "Player") "setting"
  n_Player_some : NoAttr K (He.ga K "Player") "some"
  g_ORDERS : mg "ORDERS" = some (.ref (He.ga K "ORDERS"))
  r_ORDERS : KT K (He.ga K "ORDERS") [.str ("up" : Str), .str ("down" : Str), .str ("both" : Str), .str ("bounce" : Str), .str ("in" : Str), .str ("thumb" : Str), .str ("played" : Str)]
  x_IsHeld : ExcF K mg "IsHeld"
  x_NoCount : ExcF K mg "NoCount"
  x_NoDeeds : ExcF K mg "NoDeeds"
  x_NoKey : ExcF K mg "NoKey"
  x_NoSetting : ExcF K mg "NoSetting"
  x_NotHeld : ExcF K mg "NotHeld"
  z_bool : mg "bool" = none
  z_dict : mg "dict" = none
  z_enumerate : mg "enumerate" = none
  z_int : mg "int" = none
  z_isinstance : mg "isinstance" = none
  z_len : mg "len" = none
  z_list : mg "list" = none
  z_max : mg "max" = none
  z_min : mg "min" = none
  z_range : mg "range" = none
  z_sorted : mg "sorted" = none
  z_str : mg "str" = none
  z_tuple : mg "tuple" = none
  z_zip : mg "zip" = none
  F_law_pick : ∃ fd, FunD K "_law_pick" "_law_pick" (defArgs s_law_pick) (defBody s_law_pick) (defScope s_law_pick) [] [] (He.fAd K ("_law_pick", none)) fd
  g_law_pick : mg "_law_pick" = some (.ref (He.fAd K ("_law_pick", none)))
  F_law_seed : ∃ fd, FunD K "_law_seed" "_law_seed" (defArgs s_law_seed) (defBody s_law_seed) (defScope s_law_seed) [] [] (He.fAd K ("_law_seed", none)) fd
  g_law_seed : mg "_law_seed" = some (.ref (He.fAd K ("_law_seed", none)))
  F_law_setting : ∃ fd, FunD K "_law_setting" "_law_setting" (defArgs s_law_setting) (defBody s_law_setting) (defScope s_law_setting) [] [] (He.fAd K ("_law_setting", none)) fd
  g_law_setting : mg "_law_setting" = some (.ref (He.fAd K ("_law_setting", none)))
  F_law_cell : ∃ fd, FunD K "_law_cell" "_law_cell" (defArgs s_law_cell) (defBody s_law_cell) (defScope s_law_cell) [] [] (He.fAd K ("_law_cell", none)) fd
  g_law_cell : mg "_law_cell" = some (.ref (He.fAd K ("_law_cell", none)))
  F_law_deeds : ∃ fd, FunD K "_law_deeds" "_law_deeds" (defArgs s_law_deeds) (defBody s_law_deeds) (defScope s_law_deeds) [] [] (He.fAd K ("_law_deeds", none)) fd
  g_law_deeds : mg "_law_deeds" = some (.ref (He.fAd K ("_law_deeds", none)))
  F_is_one : ∃ fd, FunD K "is_one" "is_one" (defArgs s_is_one) (defBody s_is_one) (defScope s_is_one) [] [] (He.fAd K ("is_one", none)) fd
  g_is_one : mg "is_one" = some (.ref (He.fAd K ("is_one", none)))
  F_is_within : ∃ fd, FunD K "is_within" "is_within" (defArgs s_is_within) (defBody s_is_within) (defScope s_is_within) [] [] (He.fAd K ("is_within", none)) fd
  g_is_within : mg "is_within" = some (.ref (He.fAd K ("is_within", none)))
  F_is_setting : ∃ fd, FunD K "is_setting" "is_setting" (defArgs s_is_setting) (defBody s_is_setting) (defScope s_is_setting) [] [] (He.fAd K ("is_setting", none)) fd
  g_is_setting : mg "is_setting" = some (.ref (He.fAd K ("is_setting", none)))
  F_look : ∃ fd, FunD K "look" "look" (defArgs s_look) (defBody s_look) (defScope s_look) [] [] (He.fAd K ("look", none)) fd
  g_look : mg "look" = some (.ref (He.fAd K ("look", none)))
  F_is_key : ∃ fd, FunD K "is_key" "is_key" (defArgs s_is_key) (defBody s_is_key) (defScope s_is_key) [] [] (He.fAd K ("is_key", none)) fd
  g_is_key : mg "is_key" = some (.ref (He.fAd K ("is_key", none)))
  F_is_deed : ∃ fd, FunD K "is_deed" "is_deed" (defArgs s_is_deed) (defBody s_is_deed) (defScope s_is_deed) [] [] (He.fAd K ("is_deed", none)) fd
  g_is_deed : mg "is_deed" = some (.ref (He.fAd K ("is_deed", none)))
  F_are_deeds : ∃ fd, FunD K "are_deeds" "are_deeds" (defArgs s_are_deeds) (defBody s_are_deeds) (defScope s_are_deeds) [] [] (He.fAd K ("are_deeds", none)) fd
  g_are_deeds : mg "are_deeds" = some (.ref (He.fAd K ("are_deeds", none)))
  F_look_deeds : ∃ fd, FunD K "look_deeds" "look_deeds" (defArgs s_look_deeds) (defBody s_look_deeds) (defScope s_look_deeds) [] [] (He.fAd K ("look_deeds", none)) fd
  g_look_deeds : mg "look_deeds" = some (.ref (He.fAd K ("look_deeds", none)))
  F_look_heard : ∃ fd, FunD K "look_heard" "look_heard" (defArgs s_look_heard) (defBody s_look_heard) (defScope s_look_heard) [] [] (He.fAd K ("look_heard", none)) fd
  g_look_heard : mg "look_heard" = some (.ref (He.fAd K ("look_heard", none)))
  F_Player_init : ∃ fd, FunD K "__init__" "Player.__init__" (defArgs s_Player_init) (defBody s_Player_init) (defScope s_Player_init) [] [] (He.fAd K ("Player", some "__init__")) fd
  F_Player_press : ∃ fd, FunD K "press" "Player.press" (defArgs s_Player_press) (defBody s_Player_press) (defScope s_Player_press) [] [] (He.fAd K ("Player", some "press")) fd
  F_Player_rest : ∃ fd, FunD K "rest" "Player.rest" (defArgs s_Player_rest) (defBody s_Player_rest) (defScope s_Player_rest) [] [] (He.fAd K ("Player", some "rest")) fd
  F_Player_leave : ∃ fd, FunD K "leave" "Player.leave" (defArgs s_Player_leave) (defBody s_Player_leave) (defScope s_Player_leave) [] [] (He.fAd K ("Player", some "leave")) fd
  F_do : ∃ fd, FunD K "do" "do" (defArgs s_do) (defBody s_do) (defScope s_do) [] [] (He.fAd K ("do", none)) fd
  g_do : mg "do" = some (.ref (He.fAd K ("do", none)))
  F_Player_sounding : ∃ fd, FunD K "sounding" "Player.sounding" (defArgs s_Player_sounding) (defBody s_Player_sounding) (defScope s_Player_sounding) [] [] (He.fAd K ("Player", some "sounding")) fd
  F_Player_grid : ∃ fd, FunD K "grid" "Player.grid" (defArgs s_Player_grid) (defBody s_Player_grid) (defScope s_Player_grid) [] [] (He.fAd K ("Player", some "grid")) fd
  F_inward : ∃ fd, FunD K "inward" "inward" (defArgs s_inward) (defBody s_inward) (defScope s_inward) [] [] (He.fAd K ("inward", none)) fd
  g_inward : mg "inward" = some (.ref (He.fAd K ("inward", none)))
  F_in_order : ∃ fd, FunD K "in_order" "in_order" (defArgs s_in_order) (defBody s_in_order) (defScope s_in_order) [] [] (He.fAd K ("in_order", none)) fd
  g_in_order : mg "in_order" = some (.ref (He.fAd K ("in_order", none)))
  F_round_told : ∃ fd, FunD K "round_told" "round_told" (defArgs s_round_told) (defBody s_round_told) (defScope s_round_told) [] [] (He.fAd K ("round_told", none)) fd
  g_round_told : mg "round_told" = some (.ref (He.fAd K ("round_told", none)))
  F_Player_step : ∃ fd, FunD K "step" "Player.step" (defArgs s_Player_step) (defBody s_Player_step) (defScope s_Player_step) [] [] (He.fAd K ("Player", some "step")) fd
  F_Player_tick : ∃ fd, FunD K "tick" "Player.tick" (defArgs s_Player_tick) (defBody s_Player_tick) (defScope s_Player_tick) [] [] (He.fAd K ("Player", some "tick")) fd
  F_heard : ∃ fd, FunD K "heard" "heard" (defArgs s_heard) (defBody s_heard) (defScope s_heard) [] [] (He.fAd K ("heard", none)) fd
  g_heard : mg "heard" = some (.ref (He.fAd K ("heard", none)))
  F_how_often : ∃ fd, FunD K "how_often" "how_often" (defArgs s_how_often) (defBody s_how_often) (defScope s_how_often) [] [] (He.fAd K ("how_often", none)) fd
  g_how_often : mg "how_often" = some (.ref (He.fAd K ("how_often", none)))
  F_sounds : ∃ fd, FunD K "sounds" "sounds" (defArgs s_sounds) (defBody s_sounds) (defScope s_sounds) [] [] (He.fAd K ("sounds", none)) fd
  g_sounds : mg "sounds" = some (.ref (He.fAd K ("sounds", none)))
  F_fullest : ∃ fd, FunD K "fullest" "fullest" (defArgs s_fullest) (defBody s_fullest) (defScope s_fullest) [] [] (He.fAd K ("fullest", none)) fd
  g_fullest : mg "fullest" = some (.ref (He.fAd K ("fullest", none)))
  F_silences : ∃ fd, FunD K "silences" "silences" (defArgs s_silences) (defBody s_silences) (defScope s_silences) [] [] (He.fAd K ("silences", none)) fd
  g_silences : mg "silences" = some (.ref (He.fAd K ("silences", none)))
  F_several : ∃ fd, FunD K "several" "several" (defArgs s_several) (defBody s_several) (defScope s_several) [] [] (He.fAd K ("several", none)) fd
  g_several : mg "several" = some (.ref (He.fAd K ("several", none)))
  F_law : ∃ fd, FunD K "law" "law" (defArgs s_law) (defBody s_law) (defScope s_law) [] [] (He.fAd K ("law", none)) fd
  g_law : mg "law" = some (.ref (He.fAd K ("law", none)))
section
variable {P : Program} {w : World} {K : Frag} {mg : Str → Option Value} {base : Heap}
theorem sc_law_pick : FnScope ["_law_seed_here", "_law_many"] ["_law_seed_here", "_law_many"] (defScope s_law_pick) := ⟨rfl, rfl, rfl, by decide +kernel, rfl, by decide +kernel, by decide +kernel⟩
theorem ok_law_pick (T : Tx K mg) : Gd P w K mg base ("_law_pick", none) ["_law_seed_here", "_law_many"] 2 1 f_law_pick := by
  obtain ⟨fd, F⟩ := T.F_law_pick
  refine ⟨fd, F.bindsN (ps := ["_law_seed_here", "_law_many"]) fun _ _ _ _ _ _ us hl => match us, hl with | [_, _], _ => rfl, ok_of F sc_law_pick rfl rfl fun cdv A outer s H E G hr tk hn => ?_, F.kp⟩
  have hu := hr.units
  have hu65 := units65 hr
  have hle : ∀ {i : Nat}, 2 ≤ i → Free G i := fun h => free_of hn h
  have po := passes_of (X := cxOf (L2.CX P w) P w K mg base ["_law_seed_here", "_law_many"] "_law_pick" (defScope s_law_pick) (He.fAd K ("_law_pick", none)) cdv A outer s H E) rfl
  have sc := sc_law_pick
  exact ss_one (st_ret (ev_bin op_mod og_mod.op (ev_bin op_fdiv og_fdiv.op (ev_var (pv 0)) (ev_int)) (ev_var (pv 1))))
theorem sc_law_seed : FnScope ["_law_seed_here", "_law_k"] ["_law_seed_here", "_law_k"] (defScope s_law_seed) := ⟨rfl, rfl, rfl, by decide +kernel, rfl, by decide +kernel, by decide +kernel⟩
theorem ok_law_seed (T : Tx K mg) : Gd P w K mg base ("_law_seed", none) ["_law_seed_here", "_law_k"] 2 1 f_law_seed := by
  obtain ⟨fd, F⟩ := T.F_law_seed
  refine ⟨fd, F.bindsN (ps := ["_law_seed_here", "_law_k"]) fun _ _ _ _ _ _ us hl => match us, hl with | [_, _], _ => rfl, ok_of F sc_law_seed rfl rfl fun cdv A outer s H E G hr tk hn => ?_, F.kp⟩
  have hu := hr.units
  have hu65 := units65 hr
  have hle : ∀ {i : Nat}, 2 ≤ i → Free G i := fun h => free_of hn h
  have po := passes_of (X := cxOf (L2.CX P w) P w K mg base ["_law_seed_here", "_law_k"] "_law_seed" (defScope s_law_seed) (He.fAd K ("_law_seed", none)) cdv A outer s H E) rfl
  have sc := sc_law_seed
  exact ss_one (st_ret (ev_bin op_mod og_mod.op (ev_bin op_pow og_pow.op (ev_bin op_mod og_mod.op (ev_bin op_addA og_add.op (ev_bin op_addA og_add.op (ev_bin op_mulA og_mul (ev_var (pv 0)) (ev_int)) (ev_bin op_mulA og_mul (ev_int) (ev_var (pv 1)))) (ev_int)) (ev_int)) (ev_int)) (ev_int)))
theorem sc_law_setting : FnScope ["_law_seed_here", "_law_order", "_law_start", "_law_step", "_law_gate", "_law_hold", "_law_wait"] ["_law_seed_here"] (defScope s_law_setting) := ⟨rfl, rfl, rfl, by decide +kernel, rfl, by decide +kernel, by decide +kernel⟩
theorem ok_law_setting (T : Tx K mg) : Gd P w K mg base ("_law_setting", none) ["_law_seed_here"] 1 2 f_law_setting := by
  obtain ⟨fd, F⟩ := T.F_law_setting
  obtain ⟨fd_law_pick, B_law_pick, G_law_pick, K_law_pick⟩ := ok_law_pick (P := P) (w := w) (base := base) T
  obtain ⟨fd_law_seed, B_law_seed, G_law_seed, K_law_seed⟩ := ok_law_seed (P := P) (w := w) (base := base) T
  refine ⟨fd, F.bindsN (ps := ["_law_seed_here"]) fun _ _ _ _ _ _ us hl => match us, hl with | [_], _ => rfl, ok_of F sc_law_setting rfl rfl fun cdv A outer s H E G hr tk hn => ?_, F.kp⟩
  have hu := hr.units
  have hu65 := units65 hr
  have hle : ∀ {i : Nat}, 1 ≤ i → Free G i := fun h => free_of hn h
  have po := passes_of (X := cxOf (L2.CX P w) P w K mg base ["_law_seed_here", "_law_order", "_law_start", "_law_step", "_law_gate", "_law_hold", "_law_wait"] "_law_setting" (defScope s_law_setting) (He.fAd K ("_law_setting", none)) cdv A outer s H E) rfl
  have sc := sc_law_setting
  exact ss_cons (st_setF (fun te h => ps_set (i := 1) sc.nd rfl (Or.inl rfl) h) (hle (by decide)) (ev_ix ix_seq og_ix.op (ev_lst (av_cons (ev_str) (av_cons (ev_str) (av_cons (ev_str) (av_cons (ev_str) (av_cons (ev_str) (av_cons (ev_str) (av_cons (ev_str) (av_nil))))))))) (ev_call G_law_pick (hr.mono (by decide)) T.g_law_pick K_law_pick B_law_pick (tk _) (av_cons (ev_call G_law_seed (hr.mono (by decide)) T.g_law_seed K_law_seed B_law_seed (tk _) (av_cons (ev_var (pv 0)) (av_cons (ev_int) (av_nil)))) (av_cons (ev_int) (av_nil))))))
    (ss_cons (st_setF (fun te h => ps_set (i := 2) sc.nd rfl (Or.inl rfl) h) (hle (by decide)) (ev_ix ix_seq og_ix.op (ev_lst (av_cons (ev_str) (av_cons (ev_str) (av_nil)))) (ev_call G_law_pick (hr.mono (by decide)) T.g_law_pick K_law_pick B_law_pick (tk _) (av_cons (ev_call G_law_seed (hr.mono (by decide)) T.g_law_seed K_law_seed B_law_seed (tk _) (av_cons (ev_var (pv 0)) (av_cons (ev_int) (av_nil)))) (av_cons (ev_int) (av_nil))))))
    (ss_cons (st_par2 (fun ta h => ps_par (i := 3) (j := 4) rfl sc.nd rfl rfl (by decide) rfl rfl h (by rfl)) (hle (by decide)) (hle (by decide)) (av_cons (ev_bin op_addA og_add.op (ev_int) (ev_call G_law_pick (hr.mono (by decide)) T.g_law_pick K_law_pick B_law_pick (tk _) (av_cons (ev_call G_law_seed (hr.mono (by decide)) T.g_law_seed K_law_seed B_law_seed (tk _) (av_cons (ev_var (pv 0)) (av_cons (ev_int) (av_nil)))) (av_cons (ev_ix ix_seq og_ix.op (ev_lst (av_cons (ev_int) (av_cons (ev_int) (av_nil)))) (ev_bin op_mod og_mod.op (ev_bin op_fdiv og_fdiv.op (ev_var (pv 0)) (ev_int)) (ev_int))) (av_nil))))) (av_cons (ev_bin op_addA og_add.op (ev_int) (ev_call G_law_pick (hr.mono (by decide)) T.g_law_pick K_law_pick B_law_pick (tk _) (av_cons (ev_call G_law_seed (hr.mono (by decide)) T.g_law_seed K_law_seed B_law_seed (tk _) (av_cons (ev_var (pv 0)) (av_cons (ev_int) (av_nil)))) (av_cons (ev_int) (av_nil))))) (av_nil))))
    (ss_cons (st_par2 (fun ta h => ps_par (i := 5) (j := 6) rfl sc.nd rfl rfl (by decide) rfl rfl h (by rfl)) (hle (by decide)) (hle (by decide)) (av_cons (ev_cmp (op_eqA hu) og_eq.op (ev_call G_law_pick (hr.mono (by decide)) T.g_law_pick K_law_pick B_law_pick (tk _) (av_cons (ev_call G_law_seed (hr.mono (by decide)) T.g_law_seed K_law_seed B_law_seed (tk _) (av_cons (ev_var (pv 0)) (av_cons (ev_int) (av_nil)))) (av_cons (ev_int) (av_nil)))) (ev_int)) (av_cons (ev_cmp (op_eqA hu) og_eq.op (ev_call G_law_pick (hr.mono (by decide)) T.g_law_pick K_law_pick B_law_pick (tk _) (av_cons (ev_call G_law_seed (hr.mono (by decide)) T.g_law_seed K_law_seed B_law_seed (tk _) (av_cons (ev_var (pv 0)) (av_cons (ev_int) (av_nil)))) (av_cons (ev_int) (av_nil)))) (ev_int)) (av_nil))))
    (ss_one (st_ret (ev_tup (av_cons (ev_var (pv 1)) (av_cons (ev_bin op_addA og_add.op (ev_int) (ev_bin op_mod og_mod.op (ev_bin op_fdiv og_fdiv.op (ev_var (pv 0)) (ev_int)) (ev_int))) (av_cons (ev_var (pv 3)) (av_cons (ev_var (pv 4)) (av_cons (ev_var (pv 5)) (av_cons (ev_var (pv 2)) (av_cons (ev_var (pv 6)) (av_nil))))))))))))))
theorem sc_law_cell : FnScope ["_law_script", "_law_k"] ["_law_script", "_law_k"] (defScope s_law_cell) := ⟨rfl, rfl, rfl, by decide +kernel, rfl, by decide +kernel, by decide +kernel⟩
theorem ok_law_cell (T : Tx K mg) : Gd P w K mg base ("_law_cell", none) ["_law_script", "_law_k"] 2 1 f_law_cell := by
  obtain ⟨fd, F⟩ := T.F_law_cell
  refine ⟨fd, F.bindsN (ps := ["_law_script", "_law_k"]) fun _ _ _ _ _ _ us hl => match us, hl with | [_, _], _ => rfl, ok_of F sc_law_cell rfl rfl fun cdv A outer s H E G hr tk hn => ?_, F.kp⟩
  have hu := hr.units
  have hu65 := units65 hr
  have hle : ∀ {i : Nat}, 2 ≤ i → Free G i := fun h => free_of hn h
  have po := passes_of (X := cxOf (L2.CX P w) P w K mg base ["_law_script", "_law_k"] "_law_cell" (defScope s_law_cell) (He.fAd K ("_law_cell", none)) cdv A outer s H E) rfl
  have sc := sc_law_cell
  exact ss_cons (st_if (tv_cmp op_lt og_cmp.op (ev_var (pv 1)) (ev_b1 call_len og_len T.z_len (ev_var (pv 0))))
    (ss_one (st_ret (ev_ix ix_seq og_ix.op (ev_var (pv 0)) (ev_var (pv 1)))))
    (ss_nil))
    (ss_one (st_ret (ev_int)))
theorem sc_law_deeds : FnScope ["_law_seed_here", "_law_many", "_law_found", "_law_held", "_law_tick", "_law_wide", "_law_k", "_law_one", "_law_key", "_law_other"] ["_law_seed_here", "_law_many"] (defScope s_law_deeds) := ⟨rfl, rfl, rfl, by decide +kernel, rfl, by decide +kernel, by decide +kernel⟩
theorem ok_law_deeds (T : Tx K mg) : Gd P w K mg base ("_law_deeds", none) ["_law_seed_here", "_law_many"] 2 2 f_law_deeds := by
  obtain ⟨fd, F⟩ := T.F_law_deeds
  obtain ⟨fd_law_pick, B_law_pick, G_law_pick, K_law_pick⟩ := ok_law_pick (P := P) (w := w) (base := base) T
  obtain ⟨fd_law_seed, B_law_seed, G_law_seed, K_law_seed⟩ := ok_law_seed (P := P) (w := w) (base := base) T
  refine ⟨fd, F.bindsN (ps := ["_law_seed_here", "_law_many"]) fun _ _ _ _ _ _ us hl => match us, hl with | [_, _], _ => rfl, ok_of F sc_law_deeds rfl rfl fun cdv A outer s H E G hr tk hn => ?_, F.kp⟩
  have hu := hr.units
  have hu65 := units65 hr
  have hle : ∀ {i : Nat}, 2 ≤ i → Free G i := fun h => free_of hn h
  have po := passes_of (X := cxOf (L2.CX P w) P w K mg base ["_law_seed_here", "_law_many", "_law_found", "_law_held", "_law_tick", "_law_wide", "_law_k", "_law_one", "_law_key", "_law_other"] "_law_deeds" (defScope s_law_deeds) (He.fAd K ("_law_deeds", none)) cdv A outer s H E) rfl
  have sc := sc_law_deeds
  exact ss_cons (st_par2O (o1 := true) (o2 := false) (fun ta h => ps_par (i := 2) (j := 3) rfl sc.nd rfl rfl (by decide) rfl rfl h (by rfl)) (hle (by decide)) (hle (by decide)) (ev_lst (av_nil)) (ev_lst (av_nil)))
    (ss_cons (st_setF (fun te h => ps_set (i := 4) sc.nd rfl (Or.inl rfl) h) (hle (by decide)) (ev_int))
    (ss_cons (st_setF (fun te h => ps_set (i := 5) sc.nd rfl (Or.inl rfl) h) (hle (by decide)) (ev_ix ix_seq og_ix.op (ev_lst (av_cons (ev_int) (av_cons (ev_int) (av_cons (ev_int) (av_nil))))) (ev_bin op_mod og_mod.op (ev_bin op_fdiv og_fdiv.op (ev_var (pv 0)) (ev_int)) (ev_int))))
    (ss_cons (st_for po (iv_range1 T.z_range (ev_var (pv 1))) (gv_name (pg_name (i := 6) sc.nd rfl (Or.inl rfl)) (hle (by decide)))
    (ss_cons (st_setF (fun te h => ps_set (i := 7) sc.nd rfl (Or.inl rfl) h) (hle (by decide)) (ev_call G_law_seed (hr.mono (by decide)) T.g_law_seed K_law_seed B_law_seed (tk _) (av_cons (ev_var (pv 0)) (av_cons (ev_var (pv 6)) (av_nil)))))
    (ss_cons (st_setF (fun te h => ps_set (i := 4) sc.nd rfl (Or.inl rfl) h) (hle (by decide)) (ev_min2 T.z_min (av_cons (ev_int) (av_cons (ev_bin op_addA og_add.op (ev_var (pv 4)) (ev_bin op_mod og_mod.op (ev_bin op_fdiv og_fdiv.op (ev_var (pv 7)) (ev_int)) (ev_var (pv 5)))) (av_nil)))))
    (ss_cons (st_setF (fun te h => ps_set (i := 8) sc.nd rfl (Or.inr rfl) h) (hle (by decide)) (ev_call G_law_pick (hr.mono (by decide)) T.g_law_pick K_law_pick B_law_pick (tk _) (av_cons (ev_call G_law_seed (hr.mono (by decide)) T.g_law_seed K_law_seed B_law_seed (tk _) (av_cons (ev_var (pv 7)) (av_cons (ev_int) (av_nil)))) (av_cons (ev_ix ix_seq og_ix.op (ev_lst (av_cons (ev_int) (av_cons (ev_int) (av_nil)))) (ev_bin op_mod og_mod.op (ev_bin op_fdiv og_fdiv.op (ev_var (pv 0)) (ev_int)) (ev_int))) (av_nil)))))
    (ss_one (st_if (TW.tv (tw_or (tv_cmp (op_inA hu65) og_in.op (ev_var (pv 8)) (ev_var (pv 3))) (tw_or1 (TW.tv (tw_and (tv_cmp (op_neA hu) og_ne.op (ev_var (pv 3)) (ev_lst (av_nil))) (tw_and1 (tv_cmp op_lt og_cmp.op (ev_bin op_mod og_mod.op (ev_bin op_fdiv og_fdiv.op (ev_var (pv 7)) (ev_int)) (ev_int)) (ev_int))))))))
    (ss_cons (st_setF (fun te h => ps_set (i := 8) sc.nd rfl (Or.inr rfl) h) (hle (by decide)) (ev_if (tv_cmp (op_inA hu65) og_in.op (ev_var (pv 8)) (ev_var (pv 3))) (ev_var (pv 8)) (ev_ix ix_seq og_ix.op (ev_var (pv 3)) (ev_bin op_mod og_mod.op (ev_bin op_fdiv og_fdiv.op (ev_var (pv 7)) (ev_int)) (ev_b1 call_len og_len T.z_len (ev_var (pv 3)))))))
    (ss_cons (st_setLc (own' := false) (i := 3) (own := [("_law_other", 9)]) (iv_list (bl := true) (ev_var (pv 3))) (fun _ _ _ _ _ => gv_name (pg_name (i := 9) sc.nd rfl (Or.inl rfl)) (free0)) (fun _ _ _ _ _ => tvs_one (tv_cmp (op_neA hu) og_ne.op (ev_var (pv 9)) (ev_var (pv 8)))) (fun _ _ _ _ _ => ev_var (pv 9)) (hle (by decide)) sc.nd (blkOk_by (own := [("_law_other", 9)]) (N := ["_law_seed_here", "_law_many", "_law_found", "_law_held", "_law_tick", "_law_wide", "_law_k", "_law_one", "_law_key", "_law_other"]) (sc := defScope s_law_deeds) (by decide +kernel)) (by decide))
    (ss_one (st_expr (ev_lmV (i := 2) lm_append (fun to te h1 h2 => pe_bm PySem.F.plainAttrs_list PySem.F.slot_list_append PySem.F.type_list_append mt_append h1 (pa_cons h2 pa_nil)) (pv 2) (ev_tup (av_cons (ev_var (pv 4)) (av_cons (ev_str) (av_cons (ev_var (pv 8)) (av_nil))))))))))
    (ss_cons (st_setF (fun te h => ps_set (i := 3) sc.nd rfl (Or.inl rfl) h) (hle (by decide)) (ev_bin op_addA og_add.op (ev_var (pv 3)) (ev_lst (av_cons (ev_var (pv 8)) (av_nil)))))
    (ss_one (st_expr (ev_lmV (i := 2) lm_append (fun to te h1 h2 => pe_bm PySem.F.plainAttrs_list PySem.F.slot_list_append PySem.F.type_list_append mt_append h1 (pa_cons h2 pa_nil)) (pv 2) (ev_tup (av_cons (ev_var (pv 4)) (av_cons (ev_str) (av_cons (ev_var (pv 8)) (av_nil)))))))))))))))
    (ss_one (st_retV (pv 2) (hle (by decide)))))))
theorem sc_is_one : FnScope ["thing", "words"] ["thing", "words"] (defScope s_is_one) := ⟨rfl, rfl, rfl, by decide +kernel, rfl, by decide +kernel, by decide +kernel⟩
theorem ok_is_one (T : Tx K mg) : Gd P w K mg base ("is_one", none) ["thing", "words"] 2 1 f_is_one := by
  obtain ⟨fd, F⟩ := T.F_is_one
  refine ⟨fd, F.bindsN (ps := ["thing", "words"]) fun _ _ _ _ _ _ us hl => match us, hl with | [_, _], _ => rfl, ok_of F sc_is_one rfl rfl fun cdv A outer s H E G hr tk hn => ?_, F.kp⟩
  have hu := hr.units
  have hu65 := units65 hr
  have hle : ∀ {i : Nat}, 2 ≤ i → Free G i := fun h => free_of hn h
  have po := passes_of (X := cxOf (L2.CX P w) P w K mg base ["thing", "words"] "is_one" (defScope s_is_one) (He.fAd K ("is_one", none)) cdv A outer s H E) rfl
  have sc := sc_is_one
  exact ss_one (st_ret (ev_and (ev_isi (T := "str") T.z_isinstance T.z_str (ev_var (pv 0))) (ev_one (ev_cmp (op_inA hu65) og_in.op (ev_var (pv 0)) (ev_var (pv 1))))))
theorem sc_is_within : FnScope ["thing", "low", "high"] ["thing", "low", "high"] (defScope s_is_within) := ⟨rfl, rfl, rfl, by decide +kernel, rfl, by decide +kernel, by decide +kernel⟩
theorem ok_is_within (T : Tx K mg) : Gd P w K mg base ("is_within", none) ["thing", "low", "high"] 3 1 f_is_within := by
  obtain ⟨fd, F⟩ := T.F_is_within
  refine ⟨fd, F.bindsN (ps := ["thing", "low", "high"]) fun _ _ _ _ _ _ us hl => match us, hl with | [_, _, _], _ => rfl, ok_of F sc_is_within rfl rfl fun cdv A outer s H E G hr tk hn => ?_, F.kp⟩
  have hu := hr.units
  have hu65 := units65 hr
  have hle : ∀ {i : Nat}, 3 ≤ i → Free G i := fun h => free_of hn h
  have po := passes_of (X := cxOf (L2.CX P w) P w K mg base ["thing", "low", "high"] "is_within" (defScope s_is_within) (He.fAd K ("is_within", none)) cdv A outer s H E) rfl
  have sc := sc_is_within
  exact ss_one (st_ret (ev_and (ev_isi (T := "int") T.z_isinstance T.z_int (ev_var (pv 0))) (ev_and (ev_not (ev_isi (T := "bool") T.z_isinstance T.z_bool (ev_var (pv 0)))) (ev_one (ev_chain op_le og_cmp.op op_le og_cmp.op (ev_var (pv 1)) (ev_var (pv 0)) (ev_var (pv 2)))))))
theorem sc_is_setting : FnScope ["thing"] ["thing"] (defScope s_is_setting) := ⟨rfl, rfl, rfl, by decide +kernel, rfl, by decide +kernel, by decide +kernel⟩
theorem ok_is_setting (T : Tx K mg) : Gd P w K mg base ("is_setting", none) ["thing"] 1 2 f_is_setting := by
  obtain ⟨fd, F⟩ := T.F_is_setting
  obtain ⟨fd_is_one, B_is_one, G_is_one, K_is_one⟩ := ok_is_one (P := P) (w := w) (base := base) T
  obtain ⟨fd_is_within, B_is_within, G_is_within, K_is_within⟩ := ok_is_within (P := P) (w := w) (base := base) T
  refine ⟨fd, F.bindsN (ps := ["thing"]) fun _ _ _ _ _ _ us hl => match us, hl with | [_], _ => rfl, ok_of F sc_is_setting rfl rfl fun cdv A outer s H E G hr tk hn => ?_, F.kp⟩
  have hu := hr.units
  have hu65 := units65 hr
  have hle : ∀ {i : Nat}, 1 ≤ i → Free G i := fun h => free_of hn h
  have po := passes_of (X := cxOf (L2.CX P w) P w K mg base ["thing"] "is_setting" (defScope s_is_setting) (He.fAd K ("is_setting", none)) cdv A outer s H E) rfl
  have sc := sc_is_setting
  exact ss_cons (st_if (TW.tv (tw_or (tv_not (tv_truth (ev_isi (T := "tuple") T.z_isinstance T.z_tuple (ev_var (pv 0))))) (tw_or (tv_cmp (op_neA hu) og_ne.op (ev_b1 call_len og_len T.z_len (ev_var (pv 0))) (ev_int)) (tw_or1 (tv_not (tv_truth (ev_call G_is_one (hr.mono (by decide)) T.g_is_one K_is_one B_is_one (tk _) (av_cons (ev_ix ix_seq og_ix.op (ev_var (pv 0)) (ev_int)) (av_cons (ev_gtup (xs := [("up" : Str), ("down" : Str), ("both" : Str), ("bounce" : Str), ("in" : Str), ("thumb" : Str), ("played" : Str)]) T.g_ORDERS T.r_ORDERS) (av_nil))))))))))
    (ss_one (st_ret (ev_bl)))
    (ss_nil))
    (ss_cons (st_if (TW.tv (tw_or (tv_not (tv_truth (ev_call G_is_within (hr.mono (by decide)) T.g_is_within K_is_within B_is_within (tk _) (av_cons (ev_ix ix_seq og_ix.op (ev_var (pv 0)) (ev_int)) (av_cons (ev_int) (av_cons (ev_int) (av_nil))))))) (tw_or (tv_not (tv_truth (ev_call G_is_within (hr.mono (by decide)) T.g_is_within K_is_within B_is_within (tk _) (av_cons (ev_ix ix_seq og_ix.op (ev_var (pv 0)) (ev_int)) (av_cons (ev_int) (av_cons (ev_int) (av_nil))))))) (tw_or1 (tv_not (tv_truth (ev_call G_is_within (hr.mono (by decide)) T.g_is_within K_is_within B_is_within (tk _) (av_cons (ev_ix ix_seq og_ix.op (ev_var (pv 0)) (ev_int)) (av_cons (ev_int) (av_cons (ev_int) (av_nil)))))))))))
    (ss_one (st_ret (ev_bl)))
    (ss_nil))
    (ss_one (st_ret (ev_and (ev_isi (T := "bool") T.z_isinstance T.z_bool (ev_ix ix_seq og_ix.op (ev_var (pv 0)) (ev_int))) (ev_and (ev_call G_is_one (hr.mono (by decide)) T.g_is_one K_is_one B_is_one (tk _) (av_cons (ev_ix ix_seq og_ix.op (ev_var (pv 0)) (ev_int)) (av_cons (ev_tup (av_cons (ev_str) (av_cons (ev_str) (av_nil)))) (av_nil)))) (ev_one (ev_isi (T := "bool") T.z_isinstance T.z_bool (ev_ix ix_seq og_ix.op (ev_var (pv 0)) (ev_int)))))))))
theorem sc_look : FnScope ["setting"] ["setting"] (defScope s_look) := ⟨rfl, rfl, rfl, by decide +kernel, rfl, by decide +kernel, by decide +kernel⟩
theorem ok_look (T : Tx K mg) : Gd P w K mg base ("look", none) ["setting"] 1 3 f_look := by
  obtain ⟨fd, F⟩ := T.F_look
  obtain ⟨fd_is_setting, B_is_setting, G_is_setting, K_is_setting⟩ := ok_is_setting (P := P) (w := w) (base := base) T
  refine ⟨fd, F.bindsN (ps := ["setting"]) fun _ _ _ _ _ _ us hl => match us, hl with | [_], _ => rfl, ok_of F sc_look rfl rfl fun cdv A outer s H E G hr tk hn => ?_, F.kp⟩
  have hu := hr.units
  have hu65 := units65 hr
  have hle : ∀ {i : Nat}, 1 ≤ i → Free G i := fun h => free_of hn h
  have po := passes_of (X := cxOf (L2.CX P w) P w K mg base ["setting"] "look" (defScope s_look) (He.fAd K ("look", none)) cdv A outer s H E) rfl
  have sc := sc_look
  exact ss_one (st_if (tv_not (tv_truth (ev_call G_is_setting (hr.mono (by decide)) T.g_is_setting K_is_setting B_is_setting (tk _) (av_cons (ev_var (pv 0)) (av_nil)))))
    (ss_one (st_raise (tk _) (pm_own T.x_NoSetting)))
    (ss_nil))
theorem sc_is_key : FnScope ["thing"] ["thing"] (defScope s_is_key) := ⟨rfl, rfl, rfl, by decide +kernel, rfl, by decide +kernel, by decide +kernel⟩
theorem ok_is_key (T : Tx K mg) : Gd P w K mg base ("is_key", none) ["thing"] 1 2 f_is_key := by
  obtain ⟨fd, F⟩ := T.F_is_key
  obtain ⟨fd_is_within, B_is_within, G_is_within, K_is_within⟩ := ok_is_within (P := P) (w := w) (base := base) T
  refine ⟨fd, F.bindsN (ps := ["thing"]) fun _ _ _ _ _ _ us hl => match us, hl with | [_], _ => rfl, ok_of F sc_is_key rfl rfl fun cdv A outer s H E G hr tk hn => ?_, F.kp⟩
  have hu := hr.units
  have hu65 := units65 hr
  have hle : ∀ {i : Nat}, 1 ≤ i → Free G i := fun h => free_of hn h
  have po := passes_of (X := cxOf (L2.CX P w) P w K mg base ["thing"] "is_key" (defScope s_is_key) (He.fAd K ("is_key", none)) cdv A outer s H E) rfl
  have sc := sc_is_key
  exact ss_one (st_ret (ev_call G_is_within (hr.mono (by decide)) T.g_is_within K_is_within B_is_within (tk _) (av_cons (ev_var (pv 0)) (av_cons (ev_int) (av_cons (ev_gint T.c_MOST_KEY) (av_nil))))))
theorem sc_is_deed : FnScope ["thing"] ["thing"] (defScope s_is_deed) := ⟨rfl, rfl, rfl, by decide +kernel, rfl, by decide +kernel, by decide +kernel⟩
theorem ok_is_deed (T : Tx K mg) : Gd P w K mg base ("is_deed", none) ["thing"] 1 3 f_is_deed := by
  obtain ⟨fd, F⟩ := T.F_is_deed
  obtain ⟨fd_is_key, B_is_key, G_is_key, K_is_key⟩ := ok_is_key (P := P) (w := w) (base := base) T
  obtain ⟨fd_is_one, B_is_one, G_is_one, K_is_one⟩ := ok_is_one (P := P) (w := w) (base := base) T
  obtain ⟨fd_is_within, B_is_within, G_is_within, K_is_within⟩ := ok_is_within (P := P) (w := w) (base := base) T
  refine ⟨fd, F.bindsN (ps := ["thing"]) fun _ _ _ _ _ _ us hl => match us, hl with | [_], _ => rfl, ok_of F sc_is_deed rfl rfl fun cdv A outer s H E G hr tk hn => ?_, F.kp⟩
  have hu := hr.units
  have hu65 := units65 hr
  have hle : ∀ {i : Nat}, 1 ≤ i → Free G i := fun h => free_of hn h
  have po := passes_of (X := cxOf (L2.CX P w) P w K mg base ["thing"] "is_deed" (defScope s_is_deed) (He.fAd K ("is_deed", none)) cdv A outer s H E) rfl
  have sc := sc_is_deed
  exact ss_cons (st_if (TW.tv (tw_or (tv_not (tv_truth (ev_isi (T := "tuple") T.z_isinstance T.z_tuple (ev_var (pv 0))))) (tw_or (tv_cmp (op_neA hu) og_ne.op (ev_b1 call_len og_len T.z_len (ev_var (pv 0))) (ev_int)) (tw_or1 (tv_not (tv_truth (ev_call G_is_within (hr.mono (by decide)) T.g_is_within K_is_within B_is_within (tk _) (av_cons (ev_ix ix_seq og_ix.op (ev_var (pv 0)) (ev_int)) (av_cons (ev_int) (av_cons (ev_gint T.c_MOST_TICK) (av_nil)))))))))))
    (ss_one (st_ret (ev_bl)))
    (ss_nil))
    (ss_one (st_ret (ev_and (ev_call G_is_one (hr.mono (by decide)) T.g_is_one K_is_one B_is_one (tk _) (av_cons (ev_ix ix_seq og_ix.op (ev_var (pv 0)) (ev_int)) (av_cons (ev_tup (av_cons (ev_str) (av_cons (ev_str) (av_nil)))) (av_nil)))) (ev_one (ev_call G_is_key (hr.mono (by decide)) T.g_is_key K_is_key B_is_key (tk _) (av_cons (ev_ix ix_seq og_ix.op (ev_var (pv 0)) (ev_int)) (av_nil)))))))
theorem sc_are_deeds : FnScope ["thing", "down", "last", "tick", "word", "key", "deed", "one"] ["thing"] (defScope s_are_deeds) := ⟨rfl, rfl, rfl, by decide +kernel, rfl, by decide +kernel, by decide +kernel⟩
theorem ok_are_deeds (T : Tx K mg) : Gd P w K mg base ("are_deeds", none) ["thing"] 1 4 f_are_deeds := by
  obtain ⟨fd, F⟩ := T.F_are_deeds
  obtain ⟨fd_is_deed, B_is_deed, G_is_deed, K_is_deed⟩ := ok_is_deed (P := P) (w := w) (base := base) T
  refine ⟨fd, F.bindsN (ps := ["thing"]) fun _ _ _ _ _ _ us hl => match us, hl with | [_], _ => rfl, ok_of F sc_are_deeds rfl rfl fun cdv A outer s H E G hr tk hn => ?_, F.kp⟩
  have hu := hr.units
  have hu65 := units65 hr
  have hle : ∀ {i : Nat}, 1 ≤ i → Free G i := fun h => free_of hn h
  have po := passes_of (X := cxOf (L2.CX P w) P w K mg base ["thing", "down", "last", "tick", "word", "key", "deed", "one"] "are_deeds" (defScope s_are_deeds) (He.fAd K ("are_deeds", none)) cdv A outer s H E) rfl
  have sc := sc_are_deeds
  exact ss_cons (st_if (TW.tv (tw_or (tv_not (tv_truth (ev_isi (T := "list") T.z_isinstance T.z_list (ev_var (pv 0))))) (tw_or (tv_cmp op_gt og_cmp.op (ev_b1 call_len og_len T.z_len (ev_var (pv 0))) (ev_gint T.c_MOST_DEEDS)) (tw_or1 (tv_truth (ev_lc (own := [("deed", 6)]) (iv_list (bl := true) (ev_var (pv 0))) (fun _ _ _ _ _ => gv_name (pg_name (i := 6) sc.nd rfl (Or.inl rfl)) (free0)) (fun _ _ _ _ _ => tvs_one (tv_not (tv_truth (ev_call G_is_deed (hr.mono (by decide)) T.g_is_deed K_is_deed B_is_deed takes0 (av_cons (ev_var (pv 6)) (av_nil)))))) (fun _ _ _ _ _ => ev_var (pv 6)) sc.nd (blkOk_by (own := [("deed", 6)]) (N := ["thing", "down", "last", "tick", "word", "key", "deed", "one"]) (sc := defScope s_are_deeds) (by decide +kernel)) (by decide)))))))
    (ss_one (st_ret (ev_bl)))
    (ss_nil))
    (ss_cons (st_setF (fun te h => ps_set (i := 1) sc.nd rfl (Or.inl rfl) h) (hle (by decide)) (ev_lst (av_nil)))
    (ss_cons (st_setF (fun te h => ps_set (i := 2) sc.nd rfl (Or.inl rfl) h) (hle (by decide)) (ev_int))
    (ss_cons (st_for po (iv_list (bl := false) (ev_var (pv 0))) (gv_tup (gvs_cons (gv_name (pg_name (i := 3) sc.nd rfl (Or.inl rfl)) (hle (by decide))) (gvs_cons (gv_name (pg_name (i := 4) sc.nd rfl (Or.inl rfl)) (hle (by decide))) (gvs_cons (gv_name (pg_name (i := 5) sc.nd rfl (Or.inr rfl)) (hle (by decide))) (gvs_nil)))))
    (ss_cons (st_if (TW.tv (tw_or (tv_cmp op_lt og_cmp.op (ev_var (pv 3)) (ev_var (pv 2))) (tw_or1 (tv_cmp (op_neA hu) og_ne.op (ev_cmp (op_inA hu65) og_in.op (ev_var (pv 5)) (ev_var (pv 1))) (ev_cmp (op_eqA hu) og_eq.op (ev_var (pv 4)) (ev_str))))))
    (ss_one (st_ret (ev_bl)))
    (ss_nil))
    (ss_cons (st_setF (fun te h => ps_set (i := 1) sc.nd rfl (Or.inl rfl) h) (hle (by decide)) (ev_if (tv_cmp (op_eqA hu) og_eq.op (ev_var (pv 4)) (ev_str)) (ev_bin op_addA og_add.op (ev_var (pv 1)) (ev_lst (av_cons (ev_var (pv 5)) (av_nil)))) (ev_lc (own := [("one", 7)]) (iv_list (bl := true) (ev_var (pv 1))) (fun _ _ _ _ _ => gv_name (pg_name (i := 7) sc.nd rfl (Or.inl rfl)) (free0)) (fun _ _ _ _ _ => tvs_one (tv_cmp (op_neA hu) og_ne.op (ev_var (pv 7)) (ev_var (pv 5)))) (fun _ _ _ _ _ => ev_var (pv 7)) sc.nd (blkOk_by (own := [("one", 7)]) (N := ["thing", "down", "last", "tick", "word", "key", "deed", "one"]) (sc := defScope s_are_deeds) (by decide +kernel)) (by decide))))
    (ss_one (st_setF (fun te h => ps_set (i := 2) sc.nd rfl (Or.inl rfl) h) (hle (by decide)) (ev_var (pv 3)))))))
    (ss_one (st_ret (ev_bl))))))
theorem sc_look_deeds : FnScope ["deeds"] ["deeds"] (defScope s_look_deeds) := ⟨rfl, rfl, rfl, by decide +kernel, rfl, by decide +kernel, by decide +kernel⟩
theorem ok_look_deeds (T : Tx K mg) : Gd P w K mg base ("look_deeds", none) ["deeds"] 1 5 f_look_deeds := by
  obtain ⟨fd, F⟩ := T.F_look_deeds
  obtain ⟨fd_are_deeds, B_are_deeds, G_are_deeds, K_are_deeds⟩ := ok_are_deeds (P := P) (w := w) (base := base) T
  refine ⟨fd, F.bindsN (ps := ["deeds"]) fun _ _ _ _ _ _ us hl => match us, hl with | [_], _ => rfl, ok_of F sc_look_deeds rfl rfl fun cdv A outer s H E G hr tk hn => ?_, F.kp⟩
  have hu := hr.units
  have hu65 := units65 hr
  have hle : ∀ {i : Nat}, 1 ≤ i → Free G i := fun h => free_of hn h
  have po := passes_of (X := cxOf (L2.CX P w) P w K mg base ["deeds"] "look_deeds" (defScope s_look_deeds) (He.fAd K ("look_deeds", none)) cdv A outer s H E) rfl
  have sc := sc_look_deeds
  exact ss_one (st_if (tv_not (tv_truth (ev_call G_are_deeds (hr.mono (by decide)) T.g_are_deeds K_are_deeds B_are_deeds (tk _) (av_cons (ev_var (pv 0)) (av_nil)))))
    (ss_one (st_raise (tk _) (pm_own T.x_NoDeeds)))
    (ss_nil))
theorem sc_look_heard : FnScope ["setting", "deeds", "ticks"] ["setting", "deeds", "ticks"] (defScope s_look_heard) := ⟨rfl, rfl, rfl, by decide +kernel, rfl, by decide +kernel, by decide +kernel⟩
theorem ok_look_heard (T : Tx K mg) : Gd P w K mg base ("look_heard", none) ["setting", "deeds", "ticks"] 3 6 f_look_heard := by
  obtain ⟨fd, F⟩ := T.F_look_heard
  obtain ⟨fd_is_within, B_is_within, G_is_within, K_is_within⟩ := ok_is_within (P := P) (w := w) (base := base) T
  obtain ⟨fd_look, B_look, G_look, K_look⟩ := ok_look (P := P) (w := w) (base := base) T
  obtain ⟨fd_look_deeds, B_look_deeds, G_look_deeds, K_look_deeds⟩ := ok_look_deeds (P := P) (w := w) (base := base) T
  refine ⟨fd, F.bindsN (ps := ["setting", "deeds", "ticks"]) fun _ _ _ _ _ _ us hl => match us, hl with | [_, _, _], _ => rfl, ok_of F sc_look_heard rfl rfl fun cdv A outer s H E G hr tk hn => ?_, F.kp⟩
  have hu := hr.units
  have hu65 := units65 hr
  have hle : ∀ {i : Nat}, 3 ≤ i → Free G i := fun h => free_of hn h
  have po := passes_of (X := cxOf (L2.CX P w) P w K mg base ["setting", "deeds", "ticks"] "look_heard" (defScope s_look_heard) (He.fAd K ("look_heard", none)) cdv A outer s H E) rfl
  have sc := sc_look_heard
  exact ss_cons (st_expr (ev_call G_look (hr.mono (by decide)) T.g_look K_look B_look (tk _) (av_cons (ev_var (pv 0)) (av_nil))))
    (ss_cons (st_expr (ev_call G_look_deeds (hr.mono (by decide)) T.g_look_deeds K_look_deeds B_look_deeds (tk _) (av_cons (ev_var (pv 1)) (av_nil))))
    (ss_one (st_if (tv_not (tv_truth (ev_call G_is_within (hr.mono (by decide)) T.g_is_within K_is_within B_is_within (tk _) (av_cons (ev_var (pv 2)) (av_cons (ev_int) (av_cons (ev_bin op_addA og_add.op (ev_gint T.c_MOST_TICK) (ev_int)) (av_nil)))))))
    (ss_one (st_raise (tk _) (pm_own T.x_NoCount)))
    (ss_nil))))
theorem sc_Player_init : FnScope ["self", "setting"] ["self", "setting"] (defScope s_Player_init) := ⟨rfl, rfl, rfl, by decide +kernel, rfl, by decide +kernel, by decide +kernel⟩
theorem ok_Player_init (T : Tx K mg) : Gd P w K mg base ("Player", some "__init__") ["self", "setting"] 2 4 f_Player_init := by
  obtain ⟨fd, F⟩ := T.F_Player_init
  obtain ⟨fd_look, B_look, G_look, K_look⟩ := ok_look (P := P) (w := w) (base := base) T
  refine ⟨fd, F.bindsN (ps := ["self", "setting"]) fun _ _ _ _ _ _ us hl => match us, hl with | [_, _], _ => rfl, ok_of F sc_Player_init rfl rfl fun cdv A outer s H E G hr tk hn => ?_, F.kp⟩
  have hu := hr.units
  have hu65 := units65 hr
  have hle : ∀ {i : Nat}, 2 ≤ i → Free G i := fun h => free_of hn h
  have po := passes_of (X := cxOf (L2.CX P w) P w K mg base ["self", "setting"] "Player.__init__" (defScope s_Player_init) (He.fAd K ("Player", some "__init__")) cdv A outer s H E) rfl
  have sc := sc_Player_init
  exact ss_cons (st_expr (ev_call G_look (hr.mono (by decide)) T.g_look K_look B_look (tk _) (av_cons (ev_var (pv 1)) (av_nil))))
    (ss_cons (st_fld (own := false) (c := "Player") T.cl_Player T.n_Player_setting (pv 0) (ev_var (pv 1)))
    (ss_cons (st_fld (own := true) (c := "Player") T.cl_Player T.n_Player_down (pv 0) (ev_lst (av_nil)))
    (ss_cons (st_fld (own := true) (c := "Player") T.cl_Player T.n_Player_some (pv 0) (ev_lst (av_nil)))
    (ss_cons (st_fld (own := false) (c := "Player") T.cl_Player T.n_Player_now (pv 0) (ev_int))
    (ss_cons (st_fld (own := false) (c := "Player") T.cl_Player T.n_Player_due (pv 0) (ev_non))
    (ss_cons (st_fld (own := false) (c := "Player") T.cl_Player T.n_Player_count (pv 0) (ev_int))
    (ss_cons (st_fld (own := false) (c := "Player") T.cl_Player T.n_Player_row (pv 0) (ev_lst (av_nil)))
    (ss_one (st_fld (own := true) (c := "Player") T.cl_Player T.n_Player_ends (pv 0) (ev_dict0))))))))))
theorem sc_Player_press : FnScope ["self", "key"] ["self", "key"] (defScope s_Player_press) := ⟨rfl, rfl, rfl, by decide +kernel, rfl, by decide +kernel, by decide +kernel⟩
theorem ok_Player_press (T : Tx K mg) : Gd P w K mg base ("Player", some "press") ["self", "key"] 2 3 f_Player_press := by
  obtain ⟨fd, F⟩ := T.F_Player_press
  obtain ⟨fd_is_key, B_is_key, G_is_key, K_is_key⟩ := ok_is_key (P := P) (w := w) (base := base) T
  refine ⟨fd, F.bindsN (ps := ["self", "key"]) fun _ _ _ _ _ _ us hl => match us, hl with | [_, _], _ => rfl, ok_of F sc_Player_press rfl rfl fun cdv A outer s H E G hr tk hn => ?_, F.kp⟩
  have hu := hr.units
  have hu65 := units65 hr
  have hle : ∀ {i : Nat}, 2 ≤ i → Free G i := fun h => free_of hn h
  have po := passes_of (X := cxOf (L2.CX P w) P w K mg base ["self", "key"] "Player.press" (defScope s_Player_press) (He.fAd K ("Player", some "press")) cdv A outer s H E) rfl
  have sc := sc_Player_press
  exact ss_cons (st_if (tv_not (tv_truth (ev_call G_is_key (hr.mono (by decide)) T.g_is_key K_is_key B_is_key (tk _) (av_cons (ev_var (pv 1)) (av_nil)))))
    (ss_one (st_raise (tk _) (pm_own T.x_NoKey)))
    (ss_nil))
    (ss_cons (st_if (tv_cmp (op_inA hu65) og_in.op (ev_var (pv 1)) (ev_fld (c := "Player") T.cl_Player T.n_Player_down (ev_var (pv 0))))
    (ss_one (st_raise (tk _) (pm_own T.x_IsHeld)))
    (ss_nil))
    (ss_cons (st_if (TW.tv (tw_and (tv_truth (ev_ix ix_seq og_ix.op (ev_fld (c := "Player") T.cl_Player T.n_Player_setting (ev_var (pv 0))) (ev_int))) (tw_and1 (tv_not (tv_truth (ev_fld (c := "Player") T.cl_Player T.n_Player_down (ev_var (pv 0))))))))
    (ss_cons (st_fld (own := true) (c := "Player") T.cl_Player T.n_Player_some (pv 0) (ev_lst (av_nil)))
    (ss_one (st_fld (own := false) (c := "Player") T.cl_Player T.n_Player_count (pv 0) (ev_int))))
    (ss_nil))
    (ss_cons (st_expr (ev_lmI lm_append (fun to te h1 h2 => pe_bm PySem.F.plainAttrs_list PySem.F.slot_list_append PySem.F.type_list_append mt_append h1 (pa_cons h2 pa_nil)) (ev_fld (c := "Player") T.cl_Player T.n_Player_down (ev_var (pv 0))) (ev_var (pv 1))))
    (ss_one (st_if (tv_cmp (op_notInA hu65) og_notin.op (ev_var (pv 1)) (ev_fld (c := "Player") T.cl_Player T.n_Player_some (ev_var (pv 0))))
    (ss_one (st_expr (ev_lmI lm_append (fun to te h1 h2 => pe_bm PySem.F.plainAttrs_list PySem.F.slot_list_append PySem.F.type_list_append mt_append h1 (pa_cons h2 pa_nil)) (ev_fld (c := "Player") T.cl_Player T.n_Player_some (ev_var (pv 0))) (ev_var (pv 1)))))
    (ss_nil))))))
theorem sc_Player_rest : FnScope ["self"] ["self"] (defScope s_Player_rest) := ⟨rfl, rfl, rfl, by decide +kernel, rfl, by decide +kernel, by decide +kernel⟩
theorem ok_Player_rest (T : Tx K mg) : Gd P w K mg base ("Player", some "rest") ["self"] 1 1 f_Player_rest := by
  obtain ⟨fd, F⟩ := T.F_Player_rest
  refine ⟨fd, F.bindsN (ps := ["self"]) fun _ _ _ _ _ _ us hl => match us, hl with | [_], _ => rfl, ok_of F sc_Player_rest rfl rfl fun cdv A outer s H E G hr tk hn => ?_, F.kp⟩
  have hu := hr.units
  have hu65 := units65 hr
  have hle : ∀ {i : Nat}, 1 ≤ i → Free G i := fun h => free_of hn h
  have po := passes_of (X := cxOf (L2.CX P w) P w K mg base ["self"] "Player.rest" (defScope s_Player_rest) (He.fAd K ("Player", some "rest")) cdv A outer s H E) rfl
  have sc := sc_Player_rest
  exact ss_one (st_if (tv_not (tv_truth (ev_fld (c := "Player") T.cl_Player T.n_Player_some (ev_var (pv 0)))))
    (ss_cons (st_fld (own := false) (c := "Player") T.cl_Player T.n_Player_due (pv 0) (ev_non))
    (ss_one (st_fld (own := false) (c := "Player") T.cl_Player T.n_Player_count (pv 0) (ev_int))))
    (ss_nil))
theorem sc_Player_leave : FnScope ["self", "key", "one"] ["self", "key"] (defScope s_Player_leave) := ⟨rfl, rfl, rfl, by decide +kernel, rfl, by decide +kernel, by decide +kernel⟩
theorem ok_Player_leave (T : Tx K mg) : Gd P w K mg base ("Player", some "leave") ["self", "key"] 2 3 f_Player_leave := by
  obtain ⟨fd, F⟩ := T.F_Player_leave
  obtain ⟨fd_Player_rest, B_Player_rest, G_Player_rest, K_Player_rest⟩ := ok_Player_rest (P := P) (w := w) (base := base) T
  obtain ⟨fd_is_key, B_is_key, G_is_key, K_is_key⟩ := ok_is_key (P := P) (w := w) (base := base) T
  refine ⟨fd, F.bindsN (ps := ["self", "key"]) fun _ _ _ _ _ _ us hl => match us, hl with | [_, _], _ => rfl, ok_of F sc_Player_leave rfl rfl fun cdv A outer s H E G hr tk hn => ?_, F.kp⟩
  have hu := hr.units
  have hu65 := units65 hr
  have hle : ∀ {i : Nat}, 2 ≤ i → Free G i := fun h => free_of hn h
  have po := passes_of (X := cxOf (L2.CX P w) P w K mg base ["self", "key", "one"] "Player.leave" (defScope s_Player_leave) (He.fAd K ("Player", some "leave")) cdv A outer s H E) rfl
  have sc := sc_Player_leave
  exact ss_cons (st_if (tv_not (tv_truth (ev_call G_is_key (hr.mono (by decide)) T.g_is_key K_is_key B_is_key (tk _) (av_cons (ev_var (pv 1)) (av_nil)))))
    (ss_one (st_raise (tk _) (pm_own T.x_NoKey)))
    (ss_nil))
    (ss_cons (st_if (tv_cmp (op_notInA hu65) og_notin.op (ev_var (pv 1)) (ev_fld (c := "Player") T.cl_Player T.n_Player_down (ev_var (pv 0))))
    (ss_one (st_raise (tk _) (pm_own T.x_NotHeld)))
    (ss_nil))
    (ss_cons (st_expr (ev_lmI lm_remove (fun to te h1 h2 => pe_bm PySem.F.plainAttrs_list PySem.F.slot_list_remove PySem.F.type_list_remove mt_remove h1 (pa_cons h2 pa_nil)) (ev_fld (c := "Player") T.cl_Player T.n_Player_down (ev_var (pv 0))) (ev_var (pv 1))))
    (ss_cons (st_if (tv_not (tv_truth (ev_ix ix_seq og_ix.op (ev_fld (c := "Player") T.cl_Player T.n_Player_setting (ev_var (pv 0))) (ev_int))))
    (ss_one (st_fld (own := true) (c := "Player") T.cl_Player T.n_Player_some (pv 0) (ev_lc (own := [("one", 2)]) (iv_list (bl := true) (ev_fld (c := "Player") T.cl_Player T.n_Player_some (ev_var (pv 0)))) (fun _ _ _ _ _ => gv_name (pg_name (i := 2) sc.nd rfl (Or.inl rfl)) (free0)) (fun _ _ _ _ _ => tvs_one (tv_cmp (op_neA hu) og_ne.op (ev_var (pv 2)) (ev_var (pv 1)))) (fun _ _ _ _ _ => ev_var (pv 2)) sc.nd (blkOk_by (own := [("one", 2)]) (N := ["self", "key", "one"]) (sc := defScope s_Player_leave) (by decide +kernel)) (by decide))))
    (ss_nil))
    (ss_one (st_expr (ev_meth0 (c := "Player") (pv 0) T.cl_Player T.m_Player_rest G_Player_rest (hr.mono (by decide)) B_Player_rest (tk _)))))))
theorem sc_do : FnScope ["player", "deed"] ["player", "deed"] (defScope s_do) := ⟨rfl, rfl, rfl, by decide +kernel, rfl, by decide +kernel, by decide +kernel⟩
theorem ok_do (T : Tx K mg) : Gd P w K mg base ("do", none) ["player", "deed"] 2 4 f_do := by
  obtain ⟨fd, F⟩ := T.F_do
  obtain ⟨fd_Player_leave, B_Player_leave, G_Player_leave, K_Player_leave⟩ := ok_Player_leave (P := P) (w := w) (base := base) T
  obtain ⟨fd_Player_press, B_Player_press, G_Player_press, K_Player_press⟩ := ok_Player_press (P := P) (w := w) (base := base) T
  refine ⟨fd, F.bindsN (ps := ["player", "deed"]) fun _ _ _ _ _ _ us hl => match us, hl with | [_, _], _ => rfl, ok_of F sc_do rfl rfl fun cdv A outer s H E G hr tk hn => ?_, F.kp⟩
  have hu := hr.units
  have hu65 := units65 hr
  have hle : ∀ {i : Nat}, 2 ≤ i → Free G i := fun h => free_of hn h
  have po := passes_of (X := cxOf (L2.CX P w) P w K mg base ["player", "deed"] "do" (defScope s_do) (He.fAd K ("do", none)) cdv A outer s H E) rfl
  have sc := sc_do
  exact ss_one (st_if (tv_cmp (op_eqA hu) og_eq.op (ev_ix ix_seq og_ix.op (ev_var (pv 1)) (ev_int)) (ev_str))
    (ss_one (st_expr (ev_meth (c := "Player") (pv 0) T.cl_Player T.m_Player_press G_Player_press (hr.mono (by decide)) B_Player_press (tk _) (av_cons (ev_ix ix_seq og_ix.op (ev_var (pv 1)) (ev_int)) (av_nil)))))
    (ss_one (st_expr (ev_meth (c := "Player") (pv 0) T.cl_Player T.m_Player_leave G_Player_leave (hr.mono (by decide)) B_Player_leave (tk _) (av_cons (ev_ix ix_seq og_ix.op (ev_var (pv 1)) (ev_int)) (av_nil))))))
theorem sc_Player_sounding : FnScope ["self"] ["self"] (defScope s_Player_sounding) := ⟨rfl, rfl, rfl, by decide +kernel, rfl, by decide +kernel, by decide +kernel⟩
theorem ok_Player_sounding (T : Tx K mg) : Gd P w K mg base ("Player", some "sounding") ["self"] 1 1 f_Player_sounding := by
  obtain ⟨fd, F⟩ := T.F_Player_sounding
  refine ⟨fd, F.bindsN (ps := ["self"]) fun _ _ _ _ _ _ us hl => match us, hl with | [_], _ => rfl, ok_of F sc_Player_sounding rfl rfl fun cdv A outer s H E G hr tk hn => ?_, F.kp⟩
  have hu := hr.units
  have hu65 := units65 hr
  have hle : ∀ {i : Nat}, 1 ≤ i → Free G i := fun h => free_of hn h
  have po := passes_of (X := cxOf (L2.CX P w) P w K mg base ["self"] "Player.sounding" (defScope s_Player_sounding) (He.fAd K ("Player", some "sounding")) cdv A outer s H E) rfl
  have sc := sc_Player_sounding
  exact ss_one (st_ret (ev_b1 (cr_sortedA rfl) og_sorted T.z_sorted (ev_fld (c := "Player") T.cl_Player T.n_Player_ends (ev_var (pv 0)))))
theorem sc_Player_grid : FnScope ["self"] ["self"] (defScope s_Player_grid) := ⟨rfl, rfl, rfl, by decide +kernel, rfl, by decide +kernel, by decide +kernel⟩
theorem ok_Player_grid (T : Tx K mg) : Gd P w K mg base ("Player", some "grid") ["self"] 1 1 f_Player_grid := by
  obtain ⟨fd, F⟩ := T.F_Player_grid
  refine ⟨fd, F.bindsN (ps := ["self"]) fun _ _ _ _ _ _ us hl => match us, hl with | [_], _ => rfl, ok_of F sc_Player_grid rfl rfl fun cdv A outer s H E G hr tk hn => ?_, F.kp⟩
  have hu := hr.units
  have hu65 := units65 hr
  have hle : ∀ {i : Nat}, 1 ≤ i → Free G i := fun h => free_of hn h
  have po := passes_of (X := cxOf (L2.CX P w) P w K mg base ["self"] "Player.grid" (defScope s_Player_grid) (He.fAd K ("Player", some "grid")) cdv A outer s H E) rfl
  have sc := sc_Player_grid
  exact ss_one (st_ret (ev_bin op_mulA og_mul (ev_bin op_fdiv og_fdiv.op (ev_bin op_sub og_sub.op (ev_bin op_addA og_add.op (ev_fld (c := "Player") T.cl_Player T.n_Player_now (ev_var (pv 0))) (ev_ix ix_seq og_ix.op (ev_fld (c := "Player") T.cl_Player T.n_Player_setting (ev_var (pv 0))) (ev_int))) (ev_int)) (ev_ix ix_seq og_ix.op (ev_fld (c := "Player") T.cl_Player T.n_Player_setting (ev_var (pv 0))) (ev_int))) (ev_ix ix_seq og_ix.op (ev_fld (c := "Player") T.cl_Player T.n_Player_setting (ev_var (pv 0))) (ev_int))))
theorem sc_inward : FnScope ["keys", "found", "left"] ["keys"] (defScope s_inward) := ⟨rfl, rfl, rfl, by decide +kernel, rfl, by decide +kernel, by decide +kernel⟩
theorem ok_inward (T : Tx K mg) : Gd P w K mg base ("inward", none) ["keys"] 1 1 f_inward := by
  obtain ⟨fd, F⟩ := T.F_inward
  refine ⟨fd, F.bindsN (ps := ["keys"]) fun _ _ _ _ _ _ us hl => match us, hl with | [_], _ => rfl, ok_of F sc_inward rfl rfl fun cdv A outer s H E G hr tk hn => ?_, F.kp⟩
  have hu := hr.units
  have hu65 := units65 hr
  have hle : ∀ {i : Nat}, 1 ≤ i → Free G i := fun h => free_of hn h
  have po := passes_of (X := cxOf (L2.CX P w) P w K mg base ["keys", "found", "left"] "inward" (defScope s_inward) (He.fAd K ("inward", none)) cdv A outer s H E) rfl
  have sc := sc_inward
  exact ss_cons (st_set (fun te h => ps_set (i := 1) sc.nd rfl (Or.inl rfl) h) (hle (by decide)) (ev_lst (av_nil)))
    (ss_cons (st_set (fun te h => ps_set (i := 2) sc.nd rfl (Or.inl rfl) h) (hle (by decide)) (ev_t1 call_list_of og_list.op T.z_list (ev_var (pv 0))))
    (ss_cons (st_while po (tv_truth (ev_var (pv 2)))
    (ss_cons (st_expr (ev_lmV (i := 1) lm_append (fun to te h1 h2 => pe_bm PySem.F.plainAttrs_list PySem.F.slot_list_append PySem.F.type_list_append mt_append h1 (pa_cons h2 pa_nil)) (pv 1) (ev_lmV (i := 2) lm_popAt (fun to te h1 h2 => pe_bm PySem.F.plainAttrs_list PySem.F.slot_list_pop PySem.F.type_list_pop mt_popAt h1 (pa_cons h2 pa_nil)) (pv 2) (ev_int))))
    (ss_one (st_if (tv_truth (ev_var (pv 2)))
    (ss_one (st_expr (ev_lmV (i := 1) lm_append (fun to te h1 h2 => pe_bm PySem.F.plainAttrs_list PySem.F.slot_list_append PySem.F.type_list_append mt_append h1 (pa_cons h2 pa_nil)) (pv 1) (ev_lm0 lm_pop (fun to h1 => pe_bm0 PySem.F.plainAttrs_list PySem.F.slot_list_pop PySem.F.type_list_pop mt_pop h1) (ev_var (pv 2))))))
    (ss_nil)))))
    (ss_one (st_retV (pv 1) (hle (by decide))))))
theorem sc_in_order : FnScope ["order", "keys", "rising", "found", "key"] ["order", "keys"] (defScope s_in_order) := ⟨rfl, rfl, rfl, by decide +kernel, rfl, by decide +kernel, by decide +kernel⟩
theorem ok_in_order (T : Tx K mg) : Gd P w K mg base ("in_order", none) ["order", "keys"] 2 2 f_in_order := by
  obtain ⟨fd, F⟩ := T.F_in_order
  obtain ⟨fd_inward, B_inward, G_inward, K_inward⟩ := ok_inward (P := P) (w := w) (base := base) T
  refine ⟨fd, F.bindsN (ps := ["order", "keys"]) fun _ _ _ _ _ _ us hl => match us, hl with | [_, _], _ => rfl, ok_of F sc_in_order rfl rfl fun cdv A outer s H E G hr tk hn => ?_, F.kp⟩
  have hu := hr.units
  have hu65 := units65 hr
  have hle : ∀ {i : Nat}, 2 ≤ i → Free G i := fun h => free_of hn h
  have po := passes_of (X := cxOf (L2.CX P w) P w K mg base ["order", "keys", "rising", "found", "key"] "in_order" (defScope s_in_order) (He.fAd K ("in_order", none)) cdv A outer s H E) rfl
  have sc := sc_in_order
  exact ss_cons (st_if (tv_cmp (op_eqA hu) og_eq.op (ev_var (pv 0)) (ev_str))
    (ss_one (st_ret (ev_t1 call_list_of og_list.op T.z_list (ev_var (pv 1)))))
    (ss_nil))
    (ss_cons (st_setF (fun te h => ps_set (i := 2) sc.nd rfl (Or.inl rfl) h) (hle (by decide)) (ev_b1 (cr_sortedA rfl) og_sorted T.z_sorted (ev_var (pv 1))))
    (ss_cons (st_if (tv_cmp (op_eqA hu) og_eq.op (ev_var (pv 0)) (ev_str))
    (ss_one (st_ret (ev_call G_inward (hr.mono (by decide)) T.g_inward K_inward B_inward (tk _) (av_cons (ev_var (pv 2)) (av_nil)))))
    (ss_nil))
    (ss_cons (st_if (TW.tv (tw_and (tv_cmp (op_eqA hu) og_eq.op (ev_var (pv 0)) (ev_str)) (tw_and1 (tv_cmp op_gt og_cmp.op (ev_b1 call_len og_len T.z_len (ev_var (pv 2))) (ev_int)))))
    (ss_cons (st_set (fun te h => ps_set (i := 3) sc.nd rfl (Or.inl rfl) h) (hle (by decide)) (ev_lst (av_nil)))
    (ss_cons (st_for po (iv_list (bl := false) (ev_sl (ev_var (pv 2)) (ov_some (ev_int)) (ov_none))) (gv_name (pg_name (i := 4) sc.nd rfl (Or.inl rfl)) (hle (by decide)))
    (ss_one (st_expr (ev_lmV (i := 3) lm_extend (fun to te h1 h2 => pe_bm PySem.F.plainAttrs_list PySem.F.slot_list_extend PySem.F.type_list_extend mt_extendR h1 (pa_cons h2 pa_nil)) (pv 3) (ev_lst (av_cons (ev_ix ix_seq og_ix.op (ev_var (pv 2)) (ev_int)) (av_cons (ev_var (pv 4)) (av_nil))))))))
    (ss_one (st_retV (pv 3) (hle (by decide))))))
    (ss_nil))
    (ss_one (st_ret (ev_var (pv 2)))))))
theorem sc_round_told : FnScope ["order", "spans", "keys", "one", "found", "span", "key"] ["order", "spans", "keys"] (defScope s_round_told) := ⟨rfl, rfl, rfl, by decide +kernel, rfl, by decide +kernel, by decide +kernel⟩
theorem ok_round_told (T : Tx K mg) : Gd P w K mg base ("round_told", none) ["order", "spans", "keys"] 3 3 f_round_told := by
  obtain ⟨fd, F⟩ := T.F_round_told
  obtain ⟨fd_in_order, B_in_order, G_in_order, K_in_order⟩ := ok_in_order (P := P) (w := w) (base := base) T
  refine ⟨fd, F.bindsN (ps := ["order", "spans", "keys"]) fun _ _ _ _ _ _ us hl => match us, hl with | [_, _, _], _ => rfl, ok_of F sc_round_told rfl rfl fun cdv A outer s H E G hr tk hn => ?_, F.kp⟩
  have hu := hr.units
  have hu65 := units65 hr
  have hle : ∀ {i : Nat}, 3 ≤ i → Free G i := fun h => free_of hn h
  have po := passes_of (X := cxOf (L2.CX P w) P w K mg base ["order", "spans", "keys", "one", "found", "span", "key"] "round_told" (defScope s_round_told) (He.fAd K ("round_told", none)) cdv A outer s H E) rfl
  have sc := sc_round_told
  exact ss_cons (st_setF (fun te h => ps_set (i := 3) sc.nd rfl (Or.inl rfl) h) (hle (by decide)) (ev_call G_in_order (hr.mono (by decide)) T.g_in_order K_in_order B_in_order (tk _) (av_cons (ev_var (pv 0)) (av_cons (ev_var (pv 2)) (av_nil)))))
    (ss_cons (st_set (fun te h => ps_set (i := 4) sc.nd rfl (Or.inl rfl) h) (hle (by decide)) (ev_lst (av_nil)))
    (ss_cons (st_for po (iv_range1 T.z_range (ev_var (pv 1))) (gv_name (pg_name (i := 5) sc.nd rfl (Or.inr rfl)) (hle (by decide)))
    (ss_one (st_expr (ev_lmV (i := 4) lm_extend (fun to te h1 h2 => pe_bm PySem.F.plainAttrs_list PySem.F.slot_list_extend PySem.F.type_list_extend mt_extendR h1 (pa_cons h2 pa_nil)) (pv 4) (ev_lc (own := [("key", 6)]) (iv_list (bl := true) (ev_var (pv 3))) (fun _ _ _ _ _ => gv_name (pg_name (i := 6) sc.nd rfl (Or.inl rfl)) (free0)) (fun _ _ _ _ _ => tvs_nil) (fun _ _ _ _ _ => ev_bin op_addA og_add.op (ev_var (pv 6)) (ev_bin op_mulA og_mul (ev_gint T.c_SPAN) (ev_var (pv 5)))) sc.nd (blkOk_by (own := [("key", 6)]) (N := ["order", "spans", "keys", "one", "found", "span", "key"]) (sc := defScope s_round_told) (by decide +kernel)) (by decide))))))
    (ss_cons (st_if (tv_cmp (op_eqA hu) og_eq.op (ev_var (pv 0)) (ev_str))
    (ss_one (st_ret (ev_rev (ev_var (pv 4)))))
    (ss_nil))
    (ss_cons (st_if (TW.tv (tw_and (tv_cmp (op_eqA hu) og_eq.op (ev_var (pv 0)) (ev_str)) (tw_and1 (tv_cmp op_gt og_cmp.op (ev_b1 call_len og_len T.z_len (ev_var (pv 4))) (ev_int)))))
    (ss_one (st_ret (ev_bin op_addA og_add.op (ev_var (pv 4)) (ev_rev (ev_sl (ev_var (pv 4)) (ov_some (ev_int)) (ov_some (ev_un un_neg og_neg.op (ev_int))))))))
    (ss_nil))
    (ss_one (st_ret (ev_if (tv_cmp (op_eqA hu) og_eq.op (ev_var (pv 0)) (ev_str)) (EV.up (ev_bin op_addA og_add.op (ev_var (pv 4)) (ev_rev (ev_var (pv 4))))) (ev_mvV (pv 4) (hle (by decide))))))))))
theorem sc_Player_step : FnScope ["self", "at", "tone", "found"] ["self"] (defScope s_Player_step) := ⟨rfl, rfl, rfl, by decide +kernel, rfl, by decide +kernel, by decide +kernel⟩
theorem ok_Player_step (T : Tx K mg) : Gd P w K mg base ("Player", some "step") ["self"] 1 4 f_Player_step := by
  obtain ⟨fd, F⟩ := T.F_Player_step
  obtain ⟨fd_round_told, B_round_told, G_round_told, K_round_told⟩ := ok_round_told (P := P) (w := w) (base := base) T
  refine ⟨fd, F.bindsN (ps := ["self"]) fun _ _ _ _ _ _ us hl => match us, hl with | [_], _ => rfl, ok_of F sc_Player_step rfl rfl fun cdv A outer s H E G hr tk hn => ?_, F.kp⟩
  have hu := hr.units
  have hu65 := units65 hr
  have hle : ∀ {i : Nat}, 1 ≤ i → Free G i := fun h => free_of hn h
  have po := passes_of (X := cxOf (L2.CX P w) P w K mg base ["self", "at", "tone", "found"] "Player.step" (defScope s_Player_step) (He.fAd K ("Player", some "step")) cdv A outer s H E) rfl
  have sc := sc_Player_step
  exact ss_cons (st_if (TW.tv (tw_or (tv_cmp (op_eqA hu) og_eq.op (ev_fld (c := "Player") T.cl_Player T.n_Player_count (ev_var (pv 0))) (ev_int)) (tw_or1 (tv_not (tv_truth (ev_ix ix_seq og_ix.op (ev_fld (c := "Player") T.cl_Player T.n_Player_setting (ev_var (pv 0))) (ev_int)))))))
    (ss_one (st_fld (own := false) (c := "Player") T.cl_Player T.n_Player_row (pv 0) (ev_borrow (pl := .fld 0 ("some" : Str)) (ev_call G_round_told (hr.mono (by decide)) T.g_round_told K_round_told B_round_told (tk _) (av_cons (ev_ix ix_seq og_ix.op (ev_fld (c := "Player") T.cl_Player T.n_Player_setting (ev_var (pv 0))) (ev_int)) (av_cons (ev_ix ix_seq og_ix.op (ev_fld (c := "Player") T.cl_Player T.n_Player_setting (ev_var (pv 0))) (ev_int)) (av_cons (ev_fld (c := "Player") T.cl_Player T.n_Player_some (ev_var (pv 0))) (av_nil))))))))
    (ss_nil))
    (ss_cons (st_setF (fun te h => ps_set (i := 1) sc.nd rfl (Or.inl rfl) h) (hle (by decide)) (ev_bin op_mod og_mod.op (ev_fld (c := "Player") T.cl_Player T.n_Player_count (ev_var (pv 0))) (ev_b1 call_len og_len T.z_len (ev_fld (c := "Player") T.cl_Player T.n_Player_row (ev_var (pv 0))))))
    (ss_cons (st_fld (own := false) (c := "Player") T.cl_Player T.n_Player_count (pv 0) (ev_bin op_mod og_mod.op (ev_bin op_addA og_add.op (ev_var (pv 1)) (ev_int)) (ev_b1 call_len og_len T.z_len (ev_fld (c := "Player") T.cl_Player T.n_Player_row (ev_var (pv 0))))))
    (ss_cons (st_fld (own := false) (c := "Player") T.cl_Player T.n_Player_due (pv 0) (ev_bin op_addA og_add.op (ev_fld (c := "Player") T.cl_Player T.n_Player_now (ev_var (pv 0))) (ev_ix ix_seq og_ix.op (ev_fld (c := "Player") T.cl_Player T.n_Player_setting (ev_var (pv 0))) (ev_int))))
    (ss_cons (st_setF (fun te h => ps_set (i := 2) sc.nd rfl (Or.inl rfl) h) (hle (by decide)) (ev_ix ix_seq og_ix.op (ev_fld (c := "Player") T.cl_Player T.n_Player_row (ev_var (pv 0))) (ev_var (pv 1))))
    (ss_cons (st_setF (fun te h => ps_set (i := 3) sc.nd rfl (Or.inl rfl) h) (hle (by decide)) (ev_if (tv_din hu (ev_var (pv 2)) (ev_fld (c := "Player") T.cl_Player T.n_Player_ends (ev_var (pv 0)))) (ev_lst (av_cons (ev_tup (av_cons (ev_str) (av_cons (ev_var (pv 2)) (av_nil)))) (av_cons (ev_tup (av_cons (ev_str) (av_cons (ev_var (pv 2)) (av_nil)))) (av_nil)))) (ev_lst (av_cons (ev_tup (av_cons (ev_str) (av_cons (ev_var (pv 2)) (av_nil)))) (av_nil)))))
    (ss_cons (st_dput hu (ev_fld (c := "Player") T.cl_Player T.n_Player_ends (ev_var (pv 0))) (ev_var (pv 2)) (ev_bin op_addA og_add.op (ev_fld (c := "Player") T.cl_Player T.n_Player_now (ev_var (pv 0))) (ev_ix ix_seq og_ix.op (ev_fld (c := "Player") T.cl_Player T.n_Player_setting (ev_var (pv 0))) (ev_int))))
    (ss_one (st_ret (ev_var (pv 3))))))))))
theorem sc_Player_tick : FnScope ["self", "found", "tone"] ["self"] (defScope s_Player_tick) := ⟨rfl, rfl, rfl, by decide +kernel, rfl, by decide +kernel, by decide +kernel⟩
theorem ok_Player_tick (T : Tx K mg) : Gd P w K mg base ("Player", some "tick") ["self"] 1 5 f_Player_tick := by
  obtain ⟨fd, F⟩ := T.F_Player_tick
  obtain ⟨fd_Player_grid, B_Player_grid, G_Player_grid, K_Player_grid⟩ := ok_Player_grid (P := P) (w := w) (base := base) T
  obtain ⟨fd_Player_sounding, B_Player_sounding, G_Player_sounding, K_Player_sounding⟩ := ok_Player_sounding (P := P) (w := w) (base := base) T
  obtain ⟨fd_Player_step, B_Player_step, G_Player_step, K_Player_step⟩ := ok_Player_step (P := P) (w := w) (base := base) T
  refine ⟨fd, F.bindsN (ps := ["self"]) fun _ _ _ _ _ _ us hl => match us, hl with | [_], _ => rfl, ok_of F sc_Player_tick rfl rfl fun cdv A outer s H E G hr tk hn => ?_, F.kp⟩
  have hu := hr.units
  have hu65 := units65 hr
  have hle : ∀ {i : Nat}, 1 ≤ i → Free G i := fun h => free_of hn h
  have po := passes_of (X := cxOf (L2.CX P w) P w K mg base ["self", "found", "tone"] "Player.tick" (defScope s_Player_tick) (He.fAd K ("Player", some "tick")) cdv A outer s H E) rfl
  have sc := sc_Player_tick
  exact ss_cons (st_setLc (own' := true) (i := 1) (own := [("tone", 2)]) (iv_list (bl := true) (ev_meth0 (c := "Player") (pv 0) T.cl_Player T.m_Player_sounding G_Player_sounding (hr.mono (by decide)) B_Player_sounding (tk _))) (fun _ _ _ _ _ => gv_name (pg_name (i := 2) sc.nd rfl (Or.inl rfl)) (free0)) (fun _ _ _ _ _ => tvs_one (tv_cmp (op_eqA hu) og_eq.op (ev_dget hu (ev_fld (c := "Player") T.cl_Player T.n_Player_ends (ev_var (pv 0))) (ev_var (pv 2))) (ev_fld (c := "Player") T.cl_Player T.n_Player_now (ev_var (pv 0))))) (fun _ _ _ _ _ => ev_tup (av_cons (ev_str) (av_cons (ev_var (pv 2)) (av_nil)))) (hle (by decide)) sc.nd (blkOk_by (own := [("tone", 2)]) (N := ["self", "found", "tone"]) (sc := defScope s_Player_tick) (by decide +kernel)) (by decide))
    (ss_cons (st_fld (own := true) (c := "Player") T.cl_Player T.n_Player_ends (pv 0) (ev_t1 (call_dictP rfl) og_dictP.op T.z_dict (ev_lock (pl := .fld 0 ("ends" : Str)) (ev_lc (own := [("tone", 2)]) (iv_keys (ev_fld (c := "Player") T.cl_Player T.n_Player_ends (ev_var (pv 0)))) (fun _ _ _ _ _ => gv_name (pg_name (i := 2) sc.nd rfl (Or.inl rfl)) (free0)) (fun _ _ _ _ _ => tvs_one (tv_cmp op_gt og_cmp.op (ev_dget hu (ev_fld (c := "Player") T.cl_Player T.n_Player_ends (ev_var (pv 0))) (ev_var (pv 2))) (ev_fld (c := "Player") T.cl_Player T.n_Player_now (ev_var (pv 0))))) (fun _ _ _ _ _ => ev_tup (av_cons (ev_var (pv 2)) (av_cons (ev_dget hu (ev_fld (c := "Player") T.cl_Player T.n_Player_ends (ev_var (pv 0))) (ev_var (pv 2))) (av_nil)))) sc.nd (blkOk_by (own := [("tone", 2)]) (N := ["self", "found", "tone"]) (sc := defScope s_Player_tick) (by decide +kernel)) (by decide)))))
    (ss_cons (st_if (TW.tv (tw_and (tv_truth (ev_fld (c := "Player") T.cl_Player T.n_Player_some (ev_var (pv 0)))) (tw_and1 (tv_cmp op_isA og_is.op (ev_fld (c := "Player") T.cl_Player T.n_Player_due (ev_var (pv 0))) (ev_non)))))
    (ss_one (st_fld (own := false) (c := "Player") T.cl_Player T.n_Player_due (pv 0) (ev_if (tv_cmp (op_eqA hu) og_eq.op (ev_ix ix_seq og_ix.op (ev_fld (c := "Player") T.cl_Player T.n_Player_setting (ev_var (pv 0))) (ev_int)) (ev_str)) (EV.up (ev_fld (c := "Player") T.cl_Player T.n_Player_now (ev_var (pv 0)))) (ev_meth0 (c := "Player") (pv 0) T.cl_Player T.m_Player_grid G_Player_grid (hr.mono (by decide)) B_Player_grid (tk _)))))
    (ss_nil))
    (ss_cons (st_if (tv_cmp (op_eqA hu) og_eq.op (ev_fld (c := "Player") T.cl_Player T.n_Player_due (ev_var (pv 0))) (ev_fld (c := "Player") T.cl_Player T.n_Player_now (ev_var (pv 0))))
    (ss_one (st_expr (ev_lmV (i := 1) lm_extend (fun to te h1 h2 => pe_bm PySem.F.plainAttrs_list PySem.F.slot_list_extend PySem.F.type_list_extend mt_extendR h1 (pa_cons h2 pa_nil)) (pv 1) (ev_meth0 (c := "Player") (pv 0) T.cl_Player T.m_Player_step G_Player_step (hr.mono (by decide)) B_Player_step (tk _)))))
    (ss_nil))
    (ss_cons (st_afld (g := fun i j => i + j) in_add rd_add (c := "Player") T.cl_Player T.n_Player_now (pv 0) (ev_int))
    (ss_one (st_retV (pv 1) (hle (by decide))))))))
theorem sc_heard : FnScope ["setting", "deeds", "ticks", "player", "found", "now", "deed", "told"] ["setting", "deeds", "ticks"] (defScope s_heard) := ⟨rfl, rfl, rfl, by decide +kernel, rfl, by decide +kernel, by decide +kernel⟩
theorem ok_heard (T : Tx K mg) : Gd P w K mg base ("heard", none) ["setting", "deeds", "ticks"] 3 7 f_heard := by
  obtain ⟨fd, F⟩ := T.F_heard
  obtain ⟨fd_Player_init, B_Player_init, G_Player_init, K_Player_init⟩ := ok_Player_init (P := P) (w := w) (base := base) T
  obtain ⟨fd_Player_tick, B_Player_tick, G_Player_tick, K_Player_tick⟩ := ok_Player_tick (P := P) (w := w) (base := base) T
  obtain ⟨fd_do, B_do, G_do, K_do⟩ := ok_do (P := P) (w := w) (base := base) T
  obtain ⟨fd_look_heard, B_look_heard, G_look_heard, K_look_heard⟩ := ok_look_heard (P := P) (w := w) (base := base) T
  refine ⟨fd, F.bindsN (ps := ["setting", "deeds", "ticks"]) fun _ _ _ _ _ _ us hl => match us, hl with | [_, _, _], _ => rfl, ok_of F sc_heard rfl rfl fun cdv A outer s H E G hr tk hn => ?_, F.kp⟩
  have hu := hr.units
  have hu65 := units65 hr
  have hle : ∀ {i : Nat}, 3 ≤ i → Free G i := fun h => free_of hn h
  have po := passes_of (X := cxOf (L2.CX P w) P w K mg base ["setting", "deeds", "ticks", "player", "found", "now", "deed", "told"] "heard" (defScope s_heard) (He.fAd K ("heard", none)) cdv A outer s H E) rfl
  have sc := sc_heard
  exact ss_cons (st_expr (ev_call G_look_heard (hr.mono (by decide)) T.g_look_heard K_look_heard B_look_heard (tk _) (av_cons (ev_var (pv 0)) (av_cons (ev_var (pv 1)) (av_cons (ev_var (pv 2)) (av_nil))))))
    (ss_cons (st_setF (fun te h => ps_set (i := 3) sc.nd rfl (Or.inl rfl) h) (hle (by decide)) (ev_make T.mk_Player G_Player_init (hr.mono (by decide)) T.gc_Player B_Player_init (tk _) (av_cons (ev_var (pv 0)) (av_nil))))
    (ss_cons (st_set (fun te h => ps_set (i := 4) sc.nd rfl (Or.inl rfl) h) (hle (by decide)) (ev_lst (av_nil)))
    (ss_cons (st_for po (iv_range1 T.z_range (ev_var (pv 2))) (gv_name (pg_name (i := 5) sc.nd rfl (Or.inr rfl)) (hle (by decide)))
    (ss_cons (st_for po (iv_list (bl := false) (ev_var (pv 1))) (gv_name (pg_name (i := 6) sc.nd rfl (Or.inl rfl)) (hle (by decide)))
    (ss_one (st_if (tv_cmp (op_eqA hu) og_eq.op (ev_ix ix_seq og_ix.op (ev_var (pv 6)) (ev_int)) (ev_var (pv 5)))
    (ss_one (st_expr (ev_call G_do (hr.mono (by decide)) T.g_do K_do B_do (tk _) (AV.up (av_cons (ev_var (pv 3)) (av_cons (ev_var (pv 6)) (av_nil)))))))
    (ss_nil))))
    (ss_one (st_expr (ev_lmV (i := 4) lm_extend (fun to te h1 h2 => pe_bm PySem.F.plainAttrs_list PySem.F.slot_list_extend PySem.F.type_list_extend mt_extendR h1 (pa_cons h2 pa_nil)) (pv 4) (ev_lc (own := [("told", 7)]) (iv_list (bl := true) (ev_meth0 (c := "Player") (pv 3) T.cl_Player T.m_Player_tick G_Player_tick (hr.mono (by decide)) B_Player_tick (tk _))) (fun _ _ _ _ _ => gv_name (pg_name (i := 7) sc.nd rfl (Or.inl rfl)) (free0)) (fun _ _ _ _ _ => tvs_nil) (fun _ _ _ _ _ => ev_bin op_addA og_add.op (ev_tup (av_cons (ev_var (pv 5)) (av_nil))) (ev_var (pv 7))) sc.nd (blkOk_by (own := [("told", 7)]) (N := ["setting", "deeds", "ticks", "player", "found", "now", "deed", "told"]) (sc := defScope s_heard) (by decide +kernel)) (by decide)))))))
    (ss_one (st_retV (pv 4) (hle (by decide)))))))
theorem sc_how_often : FnScope ["setting", "deeds", "ticks", "found", "tick", "word", "tone"] ["setting", "deeds", "ticks"] (defScope s_how_often) := ⟨rfl, rfl, rfl, by decide +kernel, rfl, by decide +kernel, by decide +kernel⟩
theorem ok_how_often (T : Tx K mg) : Gd P w K mg base ("how_often", none) ["setting", "deeds", "ticks"] 3 8 f_how_often := by
  obtain ⟨fd, F⟩ := T.F_how_often
  obtain ⟨fd_heard, B_heard, G_heard, K_heard⟩ := ok_heard (P := P) (w := w) (base := base) T
  refine ⟨fd, F.bindsN (ps := ["setting", "deeds", "ticks"]) fun _ _ _ _ _ _ us hl => match us, hl with | [_, _, _], _ => rfl, ok_of F sc_how_often rfl rfl fun cdv A outer s H E G hr tk hn => ?_, F.kp⟩
  have hu := hr.units
  have hu65 := units65 hr
  have hle : ∀ {i : Nat}, 3 ≤ i → Free G i := fun h => free_of hn h
  have po := passes_of (X := cxOf (L2.CX P w) P w K mg base ["setting", "deeds", "ticks", "found", "tick", "word", "tone"] "how_often" (defScope s_how_often) (He.fAd K ("how_often", none)) cdv A outer s H E) rfl
  have sc := sc_how_often
  exact ss_cons (st_set (fun te h => ps_set (i := 3) sc.nd rfl (Or.inl rfl) h) (hle (by decide)) (ev_dict0))
    (ss_cons (st_for po (iv_list (bl := false) (ev_call G_heard (hr.mono (by decide)) T.g_heard K_heard B_heard (tk _) (av_cons (ev_var (pv 0)) (av_cons (ev_var (pv 1)) (av_cons (ev_var (pv 2)) (av_nil)))))) (gv_tup (gvs_cons (gv_name (pg_name (i := 4) sc.nd rfl (Or.inl rfl)) (hle (by decide))) (gvs_cons (gv_name (pg_name (i := 5) sc.nd rfl (Or.inl rfl)) (hle (by decide))) (gvs_cons (gv_name (pg_name (i := 6) sc.nd rfl (Or.inl rfl)) (hle (by decide))) (gvs_nil)))))
    (ss_one (st_if (tv_cmp (op_eqA hu) og_eq.op (ev_var (pv 5)) (ev_str))
    (ss_one (st_dput hu (ev_var (pv 3)) (ev_var (pv 6)) (ev_bin op_addA og_add.op (ev_dgetD hu (ev_var (pv 3)) (ev_var (pv 6)) (ev_int)) (ev_int))))
    (ss_nil))))
    (ss_one (st_ret (ev_sortI T.z_sorted (ev_var (pv 3))))))
theorem sc_sounds : FnScope ["setting", "deeds", "ticks", "rows", "found", "here", "at", "now"] ["setting", "deeds", "ticks"] (defScope s_sounds) := ⟨rfl, rfl, rfl, by decide +kernel, rfl, by decide +kernel, by decide +kernel⟩
theorem ok_sounds (T : Tx K mg) : Gd P w K mg base ("sounds", none) ["setting", "deeds", "ticks"] 3 8 f_sounds := by
  obtain ⟨fd, F⟩ := T.F_sounds
  obtain ⟨fd_heard, B_heard, G_heard, K_heard⟩ := ok_heard (P := P) (w := w) (base := base) T
  refine ⟨fd, F.bindsN (ps := ["setting", "deeds", "ticks"]) fun _ _ _ _ _ _ us hl => match us, hl with | [_, _, _], _ => rfl, ok_of F sc_sounds rfl rfl fun cdv A outer s H E G hr tk hn => ?_, F.kp⟩
  have hu := hr.units
  have hu65 := units65 hr
  have hle : ∀ {i : Nat}, 3 ≤ i → Free G i := fun h => free_of hn h
  have po := passes_of (X := cxOf (L2.CX P w) P w K mg base ["setting", "deeds", "ticks", "rows", "found", "here", "at", "now"] "sounds" (defScope s_sounds) (He.fAd K ("sounds", none)) cdv A outer s H E) rfl
  have sc := sc_sounds
  exact ss_cons (st_setF (fun te h => ps_set (i := 3) sc.nd rfl (Or.inl rfl) h) (hle (by decide)) (ev_call G_heard (hr.mono (by decide)) T.g_heard K_heard B_heard (tk _) (av_cons (ev_var (pv 0)) (av_cons (ev_var (pv 1)) (av_cons (ev_var (pv 2)) (av_nil))))))
    (ss_cons (st_set (fun te h => ps_set (i := 4) sc.nd rfl (Or.inl rfl) h) (hle (by decide)) (ev_lst (av_nil)))
    (ss_cons (st_set (fun te h => ps_set (i := 5) sc.nd rfl (Or.inl rfl) h) (hle (by decide)) (ev_dict0))
    (ss_cons (st_setF (fun te h => ps_set (i := 6) sc.nd rfl (Or.inl rfl) h) (hle (by decide)) (ev_int))
    (ss_cons (st_for po (iv_range1 T.z_range (ev_var (pv 2))) (gv_name (pg_name (i := 7) sc.nd rfl (Or.inl rfl)) (hle (by decide)))
    (ss_cons (st_while po (TW.tv (tw_and (tv_cmp op_lt og_cmp.op (ev_var (pv 6)) (ev_b1 call_len og_len T.z_len (ev_var (pv 3)))) (tw_and1 (tv_cmp (op_eqA hu) og_eq.op (ev_ix ix_seq og_ix.op (ev_ix ix_seq og_ix.op (ev_var (pv 3)) (ev_var (pv 6))) (ev_int)) (ev_var (pv 7))))))
    (ss_cons (st_if (tv_cmp (op_eqA hu) og_eq.op (ev_ix ix_seq og_ix.op (ev_ix ix_seq og_ix.op (ev_var (pv 3)) (ev_var (pv 6))) (ev_int)) (ev_str))
    (ss_one (st_dput hu (ev_var (pv 5)) (ev_ix ix_seq og_ix.op (ev_ix ix_seq og_ix.op (ev_var (pv 3)) (ev_var (pv 6))) (ev_int)) (ev_bl)))
    (ss_one (st_expr (ev_dpop (ev_var (pv 5)) (ev_ix ix_seq og_ix.op (ev_ix ix_seq og_ix.op (ev_var (pv 3)) (ev_var (pv 6))) (ev_int))))))
    (ss_one (st_aug (f := (fun i j => i + j)) (fun te h => ps_aug (i := 6) sc.nd rfl (Or.inl rfl) h ip_add) (hle (by decide)) (ev_int)))))
    (ss_one (st_expr (ev_lmV (i := 4) lm_append (fun to te h1 h2 => pe_bm PySem.F.plainAttrs_list PySem.F.slot_list_append PySem.F.type_list_append mt_append h1 (pa_cons h2 pa_nil)) (pv 4) (ev_b1 (cr_sortedA rfl) og_sorted T.z_sorted (ev_var (pv 5))))))))
    (ss_one (st_retV (pv 4) (hle (by decide))))))))
theorem sc_fullest : FnScope ["setting", "deeds", "ticks", "rows", "most", "row"] ["setting", "deeds", "ticks"] (defScope s_fullest) := ⟨rfl, rfl, rfl, by decide +kernel, rfl, by decide +kernel, by decide +kernel⟩
theorem ok_fullest (T : Tx K mg) : Gd P w K mg base ("fullest", none) ["setting", "deeds", "ticks"] 3 9 f_fullest := by
  obtain ⟨fd, F⟩ := T.F_fullest
  obtain ⟨fd_sounds, B_sounds, G_sounds, K_sounds⟩ := ok_sounds (P := P) (w := w) (base := base) T
  refine ⟨fd, F.bindsN (ps := ["setting", "deeds", "ticks"]) fun _ _ _ _ _ _ us hl => match us, hl with | [_, _, _], _ => rfl, ok_of F sc_fullest rfl rfl fun cdv A outer s H E G hr tk hn => ?_, F.kp⟩
  have hu := hr.units
  have hu65 := units65 hr
  have hle : ∀ {i : Nat}, 3 ≤ i → Free G i := fun h => free_of hn h
  have po := passes_of (X := cxOf (L2.CX P w) P w K mg base ["setting", "deeds", "ticks", "rows", "most", "row"] "fullest" (defScope s_fullest) (He.fAd K ("fullest", none)) cdv A outer s H E) rfl
  have sc := sc_fullest
  exact ss_cons (st_setF (fun te h => ps_set (i := 3) sc.nd rfl (Or.inl rfl) h) (hle (by decide)) (ev_call G_sounds (hr.mono (by decide)) T.g_sounds K_sounds B_sounds (tk _) (av_cons (ev_var (pv 0)) (av_cons (ev_var (pv 1)) (av_cons (ev_var (pv 2)) (av_nil))))))
    (ss_cons (st_if (tv_not (tv_truth (ev_var (pv 3))))
    (ss_one (st_ret (ev_non)))
    (ss_nil))
    (ss_cons (st_setF (fun te h => ps_set (i := 4) sc.nd rfl (Or.inl rfl) h) (hle (by decide)) (ev_b1 (cr_max rfl) og_max.op T.z_max (ev_lc (own := [("row", 5)]) (iv_list (bl := true) (ev_var (pv 3))) (fun _ _ _ _ _ => gv_name (pg_name (i := 5) sc.nd rfl (Or.inl rfl)) (free0)) (fun _ _ _ _ _ => tvs_nil) (fun _ _ _ _ _ => ev_b1 call_len og_len T.z_len (ev_var (pv 5))) sc.nd (blkOk_by (own := [("row", 5)]) (N := ["setting", "deeds", "ticks", "rows", "most", "row"]) (sc := defScope s_fullest) (by decide +kernel)) (by decide))))
    (ss_one (st_ret (ev_tup (av_cons (ev_var (pv 4)) (av_cons (ev_mt (T := "list") (fun to te h1 h2 => pe_bm PySem.F.plainAttrs_list PySem.F.slot_list_index PySem.F.type_list_index mt_index h1 (pa_cons h2 pa_nil)) og_index (ev_lc (own := [("row", 5)]) (iv_list (bl := true) (ev_var (pv 3))) (fun _ _ _ _ _ => gv_name (pg_name (i := 5) sc.nd rfl (Or.inl rfl)) (free0)) (fun _ _ _ _ _ => tvs_nil) (fun _ _ _ _ _ => ev_b1 call_len og_len T.z_len (ev_var (pv 5))) sc.nd (blkOk_by (own := [("row", 5)]) (N := ["setting", "deeds", "ticks", "rows", "most", "row"]) (sc := defScope s_fullest) (by decide +kernel)) (by decide)) (ev_var (pv 4))) (av_nil))))))))
theorem sc_silences : FnScope ["setting", "deeds", "ticks", "found", "tick", "row"] ["setting", "deeds", "ticks"] (defScope s_silences) := ⟨rfl, rfl, rfl, by decide +kernel, rfl, by decide +kernel, by decide +kernel⟩
theorem ok_silences (T : Tx K mg) : Gd P w K mg base ("silences", none) ["setting", "deeds", "ticks"] 3 9 f_silences := by
  obtain ⟨fd, F⟩ := T.F_silences
  obtain ⟨fd_sounds, B_sounds, G_sounds, K_sounds⟩ := ok_sounds (P := P) (w := w) (base := base) T
  refine ⟨fd, F.bindsN (ps := ["setting", "deeds", "ticks"]) fun _ _ _ _ _ _ us hl => match us, hl with | [_, _, _], _ => rfl, ok_of F sc_silences rfl rfl fun cdv A outer s H E G hr tk hn => ?_, F.kp⟩
  have hu := hr.units
  have hu65 := units65 hr
  have hle : ∀ {i : Nat}, 3 ≤ i → Free G i := fun h => free_of hn h
  have po := passes_of (X := cxOf (L2.CX P w) P w K mg base ["setting", "deeds", "ticks", "found", "tick", "row"] "silences" (defScope s_silences) (He.fAd K ("silences", none)) cdv A outer s H E) rfl
  have sc := sc_silences
  exact ss_cons (st_set (fun te h => ps_set (i := 3) sc.nd rfl (Or.inl rfl) h) (hle (by decide)) (ev_lst (av_nil)))
    (ss_cons (st_for po (iv_enum (bl := false) T.z_enumerate (ev_call G_sounds (hr.mono (by decide)) T.g_sounds K_sounds B_sounds (tk _) (av_cons (ev_var (pv 0)) (av_cons (ev_var (pv 1)) (av_cons (ev_var (pv 2)) (av_nil)))))) (gv_tup (gvs_cons (gv_name (pg_name (i := 4) sc.nd rfl (Or.inl rfl)) (hle (by decide))) (gvs_cons (gv_name (pg_name (i := 5) sc.nd rfl (Or.inl rfl)) (hle (by decide))) (gvs_nil))))
    (ss_cons (st_if (tv_truth (ev_var (pv 5)))
    (ss_one (st_continue))
    (ss_nil))
    (ss_one (st_if (TW.tv (tw_and (tv_truth (ev_var (pv 3))) (tw_and1 (tv_cmp (op_eqA hu) og_eq.op (ev_bin op_addA og_add.op (ev_ix ix_seq og_ix.op (ev_ix ix_seq og_ix.op (ev_var (pv 3)) (ev_un un_neg og_neg.op (ev_int))) (ev_int)) (ev_ix ix_seq og_ix.op (ev_ix ix_seq og_ix.op (ev_var (pv 3)) (ev_un un_neg og_neg.op (ev_int))) (ev_int))) (ev_var (pv 4))))))
    (ss_one (st_lput (ev_var (pv 3)) (ev_un un_neg og_neg.op (ev_int)) (ev_tup (av_cons (ev_ix ix_seq og_ix.op (ev_ix ix_seq og_ix.op (ev_var (pv 3)) (ev_un un_neg og_neg.op (ev_int))) (ev_int)) (av_cons (ev_bin op_addA og_add.op (ev_ix ix_seq og_ix.op (ev_ix ix_seq og_ix.op (ev_var (pv 3)) (ev_un un_neg og_neg.op (ev_int))) (ev_int)) (ev_int)) (av_nil))))))
    (ss_one (st_expr (ev_lmV (i := 3) lm_append (fun to te h1 h2 => pe_bm PySem.F.plainAttrs_list PySem.F.slot_list_append PySem.F.type_list_append mt_append h1 (pa_cons h2 pa_nil)) (pv 3) (ev_tup (av_cons (ev_var (pv 4)) (av_cons (ev_int) (av_nil)))))))))))
    (ss_one (st_retV (pv 3) (hle (by decide)))))
theorem sc_several : FnScope ["settings", "deeds", "ticks", "rows", "place", "setting", "told", "one", "tick", "at", "word", "tone", "row"] ["settings", "deeds", "ticks"] (defScope s_several) := ⟨rfl, rfl, rfl, by decide +kernel, rfl, by decide +kernel, by decide +kernel⟩
theorem ok_several (T : Tx K mg) : Gd P w K mg base ("several", none) ["settings", "deeds", "ticks"] 3 8 f_several := by
  obtain ⟨fd, F⟩ := T.F_several
  obtain ⟨fd_heard, B_heard, G_heard, K_heard⟩ := ok_heard (P := P) (w := w) (base := base) T
  obtain ⟨fd_is_setting, B_is_setting, G_is_setting, K_is_setting⟩ := ok_is_setting (P := P) (w := w) (base := base) T
  refine ⟨fd, F.bindsN (ps := ["settings", "deeds", "ticks"]) fun _ _ _ _ _ _ us hl => match us, hl with | [_, _, _], _ => rfl, ok_of F sc_several rfl rfl fun cdv A outer s H E G hr tk hn => ?_, F.kp⟩
  have hu := hr.units
  have hu65 := units65 hr
  have hle : ∀ {i : Nat}, 3 ≤ i → Free G i := fun h => free_of hn h
  have po := passes_of (X := cxOf (L2.CX P w) P w K mg base ["settings", "deeds", "ticks", "rows", "place", "setting", "told", "one", "tick", "at", "word", "tone", "row"] "several" (defScope s_several) (He.fAd K ("several", none)) cdv A outer s H E) rfl
  have sc := sc_several
  exact ss_cons (st_if (TW.tv (tw_or (tv_not (tv_truth (ev_isi (T := "list") T.z_isinstance T.z_list (ev_var (pv 0))))) (tw_or1 (tv_not (tv_chain op_le og_cmp.op op_le og_cmp.op (ev_int) (ev_b1 call_len og_len T.z_len (ev_var (pv 0))) (ev_int))))))
    (ss_one (st_raise (tk _) (pm_own T.x_NoSetting)))
    (ss_nil))
    (ss_cons (st_if (tv_truth (ev_lc (own := [("one", 7)]) (iv_list (bl := true) (ev_var (pv 0))) (fun _ _ _ _ _ => gv_name (pg_name (i := 7) sc.nd rfl (Or.inl rfl)) (free0)) (fun _ _ _ _ _ => tvs_one (tv_not (tv_truth (ev_call G_is_setting (hr.mono (by decide)) T.g_is_setting K_is_setting B_is_setting takes0 (av_cons (ev_var (pv 7)) (av_nil)))))) (fun _ _ _ _ _ => ev_var (pv 7)) sc.nd (blkOk_by (own := [("one", 7)]) (N := ["settings", "deeds", "ticks", "rows", "place", "setting", "told", "one", "tick", "at", "word", "tone", "row"]) (sc := defScope s_several) (by decide +kernel)) (by decide)))
    (ss_one (st_raise (tk _) (pm_own T.x_NoSetting)))
    (ss_nil))
    (ss_cons (st_set (fun te h => ps_set (i := 3) sc.nd rfl (Or.inl rfl) h) (hle (by decide)) (ev_lst (av_nil)))
    (ss_cons (st_for po (iv_enum (bl := false) T.z_enumerate (ev_var (pv 0))) (gv_tup (gvs_cons (gv_name (pg_name (i := 4) sc.nd rfl (Or.inr rfl)) (hle (by decide))) (gvs_cons (gv_name (pg_name (i := 5) sc.nd rfl (Or.inl rfl)) (hle (by decide))) (gvs_nil))))
    (ss_cons (st_setF (fun te h => ps_set (i := 6) sc.nd rfl (Or.inl rfl) h) (hle (by decide)) (ev_call G_heard (hr.mono (by decide)) T.g_heard K_heard B_heard (tk _) (av_cons (ev_var (pv 5)) (av_cons (ev_var (pv 1)) (av_cons (ev_var (pv 2)) (av_nil))))))
    (ss_one (st_expr (ev_lmV (i := 3) lm_extend (fun to te h1 h2 => pe_bm PySem.F.plainAttrs_list PySem.F.slot_list_extend PySem.F.type_list_extend mt_extendR h1 (pa_cons h2 pa_nil)) (pv 3) (ev_lc (own := [("at", 9), ("row", 12)]) (iv_enum (bl := true) T.z_enumerate (ev_var (pv 6))) (fun _ _ _ _ _ => gv_tup (gvs_cons (gv_name (pg_name (i := 9) sc.nd rfl (Or.inl rfl)) (free0)) (gvs_cons (gv_name (pg_name (i := 12) sc.nd rfl (Or.inl rfl)) (free0)) (gvs_nil)))) (fun _ _ _ _ _ => tvs_nil) (fun _ _ _ _ _ => ev_tup (av_cons (ev_ix ix_seq og_ix.op (ev_var (pv 12)) (ev_int)) (av_cons (ev_var (pv 4)) (av_cons (ev_var (pv 9)) (av_cons (ev_ix ix_seq og_ix.op (ev_var (pv 12)) (ev_int)) (av_cons (ev_ix ix_seq og_ix.op (ev_var (pv 12)) (ev_int)) (av_nil))))))) sc.nd (blkOk_by (own := [("at", 9), ("row", 12)]) (N := ["settings", "deeds", "ticks", "rows", "place", "setting", "told", "one", "tick", "at", "word", "tone", "row"]) (sc := defScope s_several) (by decide +kernel)) (by decide)))))))
    (ss_one (st_ret (ev_lc (own := [("tick", 8), ("place", 4), ("at", 9), ("word", 10), ("tone", 11)]) (iv_list (bl := true) (ev_b1 cr_sortedTup (og_sortedT 3).op T.z_sorted (ev_var (pv 3)))) (fun _ _ _ _ _ => gv_tup (gvs_cons (gv_name (pg_name (i := 8) sc.nd rfl (Or.inl rfl)) (free0)) (gvs_cons (gv_name (pg_name (i := 4) sc.nd rfl (Or.inl rfl)) (free0)) (gvs_cons (gv_name (pg_name (i := 9) sc.nd rfl (Or.inl rfl)) (free0)) (gvs_cons (gv_name (pg_name (i := 10) sc.nd rfl (Or.inl rfl)) (free0)) (gvs_cons (gv_name (pg_name (i := 11) sc.nd rfl (Or.inl rfl)) (free0)) (gvs_nil))))))) (fun _ _ _ _ _ => tvs_nil) (fun _ _ _ _ _ => ev_tup (av_cons (ev_var (pv 8)) (av_cons (ev_var (pv 4)) (av_cons (ev_var (pv 10)) (av_cons (ev_var (pv 11)) (av_nil)))))) sc.nd (blkOk_by (own := [("tick", 8), ("place", 4), ("at", 9), ("word", 10), ("tone", 11)]) (N := ["settings", "deeds", "ticks", "rows", "place", "setting", "told", "one", "tick", "at", "word", "tone", "row"]) (sc := defScope s_several) (by decide +kernel)) (by decide)))))))
theorem sc_law : FnScope ["_law_script", "_law_setting_here", "_law_deeds_here", "_law_ticks", "_law_told", "_law_often", "_law_rows", "_law_tone", "_law_many", "_law_offs", "_law_most", "_law_first", "_law_gaps", "_law_quiet", "_law_begin", "_law_long", "_law_one", "_law_other", "_law_more", "_law_row", "_law_tick", "_law_word"] ["_law_script"] (defScope s_law) := ⟨rfl, rfl, rfl, by decide +kernel, rfl, by decide +kernel, by decide +kernel⟩
theorem ok_law (T : Tx K mg) {fd : FuncData} (F : FunD K "law" "law" (defArgs s_law) (defBody s_law) (defScope s_law) [] [] (He.fAd K ("law", none)) fd) : FnOk P w K mg base (L2.CX P w) 10 (He.fAd K ("law", none)) fd ["_law_script"] (spM K 1 f_law) := by
  obtain ⟨fd_law_cell, B_law_cell, G_law_cell, K_law_cell⟩ := ok_law_cell (P := P) (w := w) (base := base) T
  obtain ⟨fd_law_deeds, B_law_deeds, G_law_deeds, K_law_deeds⟩ := ok_law_deeds (P := P) (w := w) (base := base) T
  obtain ⟨fd_law_seed, B_law_seed, G_law_seed, K_law_seed⟩ := ok_law_seed (P := P) (w := w) (base := base) T
  obtain ⟨fd_law_setting, B_law_setting, G_law_setting, K_law_setting⟩ := ok_law_setting (P := P) (w := w) (base := base) T
  obtain ⟨fd_fullest, B_fullest, G_fullest, K_fullest⟩ := ok_fullest (P := P) (w := w) (base := base) T
  obtain ⟨fd_heard, B_heard, G_heard, K_heard⟩ := ok_heard (P := P) (w := w) (base := base) T
  obtain ⟨fd_how_often, B_how_often, G_how_often, K_how_often⟩ := ok_how_often (P := P) (w := w) (base := base) T
  obtain ⟨fd_several, B_several, G_several, K_several⟩ := ok_several (P := P) (w := w) (base := base) T
  obtain ⟨fd_silences, B_silences, G_silences, K_silences⟩ := ok_silences (P := P) (w := w) (base := base) T
  obtain ⟨fd_sounds, B_sounds, G_sounds, K_sounds⟩ := ok_sounds (P := P) (w := w) (base := base) T
  refine ok_of F sc_law rfl rfl fun cdv A outer s H E G hr tk hn => ?_
  have hu := hr.units
  have hu65 := units65 hr
  have hle : ∀ {i : Nat}, 1 ≤ i → Free G i := fun h => free_of hn h
  have po := passes_of (X := cxOf (L2.CX P w) P w K mg base ["_law_script", "_law_setting_here", "_law_deeds_here", "_law_ticks", "_law_told", "_law_often", "_law_rows", "_law_tone", "_law_many", "_law_offs", "_law_most", "_law_first", "_law_gaps", "_law_quiet", "_law_begin", "_law_long", "_law_one", "_law_other", "_law_more", "_law_row", "_law_tick", "_law_word"] "law" (defScope s_law) (He.fAd K ("law", none)) cdv A outer s H E) rfl
  have sc := sc_law
  exact ss_cons (st_setF (fun te h => ps_set (i := 1) sc.nd rfl (Or.inl rfl) h) (hle (by decide)) (ev_call G_law_setting (hr.mono (by decide)) T.g_law_setting K_law_setting B_law_setting (tk _) (av_cons (ev_call G_law_seed (hr.mono (by decide)) T.g_law_seed K_law_seed B_law_seed (tk _) (av_cons (ev_call G_law_cell (hr.mono (by decide)) T.g_law_cell K_law_cell B_law_cell (tk _) (av_cons (ev_var (pv 0)) (av_cons (ev_int) (av_nil)))) (av_cons (ev_int) (av_nil)))) (av_nil))))
    (ss_cons (st_setF (fun te h => ps_set (i := 2) sc.nd rfl (Or.inl rfl) h) (hle (by decide)) (ev_call G_law_deeds (hr.mono (by decide)) T.g_law_deeds K_law_deeds B_law_deeds (tk _) (av_cons (ev_call G_law_seed (hr.mono (by decide)) T.g_law_seed K_law_seed B_law_seed (tk _) (av_cons (ev_call G_law_cell (hr.mono (by decide)) T.g_law_cell K_law_cell B_law_cell (tk _) (av_cons (ev_var (pv 0)) (av_cons (ev_int) (av_nil)))) (av_cons (ev_int) (av_nil)))) (av_cons (ev_bin op_mod og_mod.op (ev_call G_law_cell (hr.mono (by decide)) T.g_law_cell K_law_cell B_law_cell (tk _) (av_cons (ev_var (pv 0)) (av_cons (ev_int) (av_nil)))) (ev_int)) (av_nil)))))
    (ss_cons (st_setF (fun te h => ps_set (i := 3) sc.nd rfl (Or.inl rfl) h) (hle (by decide)) (ev_bin op_addA og_add.op (ev_int) (ev_bin op_mod og_mod.op (ev_call G_law_cell (hr.mono (by decide)) T.g_law_cell K_law_cell B_law_cell (tk _) (av_cons (ev_var (pv 0)) (av_cons (ev_int) (av_nil)))) (ev_int))))
    (ss_cons (st_setF (fun te h => ps_set (i := 4) sc.nd rfl (Or.inl rfl) h) (hle (by decide)) (ev_call G_heard (hr.mono (by decide)) T.g_heard K_heard B_heard (tk _) (av_cons (ev_var (pv 1)) (av_cons (ev_t1 call_list_of og_list.op T.z_list (ev_var (pv 2))) (av_cons (ev_var (pv 3)) (av_nil))))))
    (ss_cons (st_setF (fun te h => ps_set (i := 5) sc.nd rfl (Or.inl rfl) h) (hle (by decide)) (ev_call G_how_often (hr.mono (by decide)) T.g_how_often K_how_often B_how_often (tk _) (av_cons (ev_var (pv 1)) (av_cons (ev_t1 call_list_of og_list.op T.z_list (ev_var (pv 2))) (av_cons (ev_var (pv 3)) (av_nil))))))
    (ss_cons (st_setF (fun te h => ps_set (i := 6) sc.nd rfl (Or.inl rfl) h) (hle (by decide)) (ev_call G_sounds (hr.mono (by decide)) T.g_sounds K_sounds B_sounds (tk _) (av_cons (ev_var (pv 1)) (av_cons (ev_t1 call_list_of og_list.op T.z_list (ev_var (pv 2))) (av_cons (ev_var (pv 3)) (av_nil))))))
    (ss_cons (st_for po (iv_list (bl := false) (ev_var (pv 5))) (gv_tup (gvs_cons (gv_name (pg_name (i := 7) sc.nd rfl (Or.inr rfl)) (hle (by decide))) (gvs_cons (gv_name (pg_name (i := 8) sc.nd rfl (Or.inl rfl)) (hle (by decide))) (gvs_nil))))
    (ss_cons (st_setF (fun te h => ps_set (i := 9) sc.nd rfl (Or.inl rfl) h) (hle (by decide)) (ev_b1 call_len og_len T.z_len (ev_lc (own := [("_law_row", 19)]) (iv_list (bl := true) (ev_var (pv 4))) (fun _ _ _ _ _ => gv_name (pg_name (i := 19) sc.nd rfl (Or.inl rfl)) (free0)) (fun _ _ _ _ _ => tvs_one (tv_cmp (op_eqA hu) og_eq.op (ev_sl (ev_var (pv 19)) (ov_some (ev_int)) (ov_none)) (ev_tup (av_cons (ev_str) (av_cons (ev_var (pv 7)) (av_nil)))))) (fun _ _ _ _ _ => ev_var (pv 19)) sc.nd (blkOk_by (own := [("_law_row", 19)]) (N := ["_law_script", "_law_setting_here", "_law_deeds_here", "_law_ticks", "_law_told", "_law_often", "_law_rows", "_law_tone", "_law_many", "_law_offs", "_law_most", "_law_first", "_law_gaps", "_law_quiet", "_law_begin", "_law_long", "_law_one", "_law_other", "_law_more", "_law_row", "_law_tick", "_law_word"]) (sc := defScope s_law) (by decide +kernel)) (by decide))))
    (ss_one (st_if (TW.tv (tw_or (tv_cmp (op_neA hu) og_ne.op (ev_bin op_sub og_sub.op (ev_var (pv 8)) (ev_var (pv 9))) (ev_t1 call_int1 og_int.op T.z_int (ev_cmp (op_inA hu65) og_in.op (ev_var (pv 7)) (ev_ix ix_seq og_ix.op (ev_var (pv 6)) (ev_un un_neg og_neg.op (ev_int)))))) (tw_or1 (tv_cmp op_lt og_cmp.op (ev_var (pv 8)) (ev_int)))))
    (ss_one (st_ret (ev_bl)))
    (ss_nil)))))
    (ss_cons (st_asgT (fun te g h1 h2 => ps_asg h1 h2) (gv_tup (gvs_cons (gv_name (pg_name (i := 10) sc.nd rfl (Or.inr rfl)) (hle (by decide))) (gvs_cons (gv_name (pg_name (i := 11) sc.nd rfl (Or.inl rfl)) (hle (by decide))) (gvs_nil)))) (ev_call G_fullest (hr.mono (by decide)) T.g_fullest K_fullest B_fullest (tk _) (av_cons (ev_var (pv 1)) (av_cons (ev_t1 call_list_of og_list.op T.z_list (ev_var (pv 2))) (av_cons (ev_var (pv 3)) (av_nil))))))
    (ss_cons (st_if (TW.tv (tw_or (tv_cmp (op_neA hu) og_ne.op (ev_b1 call_len og_len T.z_len (ev_ix ix_seq og_ix.op (ev_var (pv 6)) (ev_var (pv 11)))) (ev_var (pv 10))) (tw_or1 (tv_cmp (op_neA hu) og_ne.op (ev_lc (own := [("_law_row", 19)]) (iv_list (bl := true) (ev_sl (ev_var (pv 6)) (ov_none) (ov_some (ev_var (pv 11))))) (fun _ _ _ _ _ => gv_name (pg_name (i := 19) sc.nd rfl (Or.inl rfl)) (free0)) (fun _ _ _ _ _ => tvs_one (tv_cmp op_ge og_cmp.op (ev_b1 call_len og_len T.z_len (ev_var (pv 19))) (ev_var (pv 10)))) (fun _ _ _ _ _ => ev_var (pv 19)) sc.nd (blkOk_by (own := [("_law_row", 19)]) (N := ["_law_script", "_law_setting_here", "_law_deeds_here", "_law_ticks", "_law_told", "_law_often", "_law_rows", "_law_tone", "_law_many", "_law_offs", "_law_most", "_law_first", "_law_gaps", "_law_quiet", "_law_begin", "_law_long", "_law_one", "_law_other", "_law_more", "_law_row", "_law_tick", "_law_word"]) (sc := defScope s_law) (by decide +kernel)) (by decide)) (ev_lst (av_nil))))))
    (ss_one (st_ret (ev_bl)))
    (ss_nil))
    (ss_cons (st_if (tv_cmp (op_neA hu) og_ne.op (ev_lc (own := [("_law_row", 19)]) (iv_list (bl := true) (ev_var (pv 6))) (fun _ _ _ _ _ => gv_name (pg_name (i := 19) sc.nd rfl (Or.inl rfl)) (free0)) (fun _ _ _ _ _ => tvs_one (tv_cmp op_gt og_cmp.op (ev_b1 call_len og_len T.z_len (ev_var (pv 19))) (ev_var (pv 10)))) (fun _ _ _ _ _ => ev_var (pv 19)) sc.nd (blkOk_by (own := [("_law_row", 19)]) (N := ["_law_script", "_law_setting_here", "_law_deeds_here", "_law_ticks", "_law_told", "_law_often", "_law_rows", "_law_tone", "_law_many", "_law_offs", "_law_most", "_law_first", "_law_gaps", "_law_quiet", "_law_begin", "_law_long", "_law_one", "_law_other", "_law_more", "_law_row", "_law_tick", "_law_word"]) (sc := defScope s_law) (by decide +kernel)) (by decide)) (ev_lst (av_nil)))
    (ss_one (st_ret (ev_bl)))
    (ss_nil))
    (ss_cons (st_if (tv_cmp op_gt og_cmp.op (ev_var (pv 10)) (ev_b1 call_len og_len T.z_len (ev_var (pv 5))))
    (ss_one (st_ret (ev_bl)))
    (ss_nil))
    (ss_cons (st_setF (fun te h => ps_set (i := 12) sc.nd rfl (Or.inl rfl) h) (hle (by decide)) (ev_call G_silences (hr.mono (by decide)) T.g_silences K_silences B_silences (tk _) (av_cons (ev_var (pv 1)) (av_cons (ev_t1 call_list_of og_list.op T.z_list (ev_var (pv 2))) (av_cons (ev_var (pv 3)) (av_nil))))))
    (ss_cons (st_setF (fun te h => ps_set (i := 13) sc.nd rfl (Or.inl rfl) h) (hle (by decide)) (ev_lst (av_nil)))
    (ss_cons (st_for po (iv_list (bl := false) (ev_var (pv 12))) (gv_tup (gvs_cons (gv_name (pg_name (i := 14) sc.nd rfl (Or.inl rfl)) (hle (by decide))) (gvs_cons (gv_name (pg_name (i := 15) sc.nd rfl (Or.inl rfl)) (hle (by decide))) (gvs_nil))))
    (ss_one (st_setF (fun te h => ps_set (i := 13) sc.nd rfl (Or.inl rfl) h) (hle (by decide)) (ev_bin op_addA og_add.op (ev_var (pv 13)) (ev_listRg2 T.z_list T.z_range (ev_var (pv 14)) (ev_bin op_addA og_add.op (ev_var (pv 14)) (ev_var (pv 15))))))))
    (ss_cons (st_if (tv_cmp (op_neA hu) og_ne.op (ev_var (pv 13)) (ev_lc (own := [("_law_tick", 20), ("_law_row", 19)]) (iv_enum (bl := true) T.z_enumerate (ev_var (pv 6))) (fun _ _ _ _ _ => gv_tup (gvs_cons (gv_name (pg_name (i := 20) sc.nd rfl (Or.inl rfl)) (free0)) (gvs_cons (gv_name (pg_name (i := 19) sc.nd rfl (Or.inl rfl)) (free0)) (gvs_nil)))) (fun _ _ _ _ _ => tvs_one (tv_cmp (op_eqA hu) og_eq.op (ev_var (pv 19)) (ev_lst (av_nil)))) (fun _ _ _ _ _ => ev_var (pv 20)) sc.nd (blkOk_by (own := [("_law_tick", 20), ("_law_row", 19)]) (N := ["_law_script", "_law_setting_here", "_law_deeds_here", "_law_ticks", "_law_told", "_law_often", "_law_rows", "_law_tone", "_law_many", "_law_offs", "_law_most", "_law_first", "_law_gaps", "_law_quiet", "_law_begin", "_law_long", "_law_one", "_law_other", "_law_more", "_law_row", "_law_tick", "_law_word"]) (sc := defScope s_law) (by decide +kernel)) (by decide)))
    (ss_one (st_ret (ev_bl)))
    (ss_nil))
    (ss_cons (st_for po (iv_zip (bl := false) T.z_zip (ev_var (pv 12)) (ev_sl (ev_var (pv 12)) (ov_some (ev_int)) (ov_none))) (gv_tup (gvs_cons (gv_name (pg_name (i := 16) sc.nd rfl (Or.inl rfl)) (hle (by decide))) (gvs_cons (gv_name (pg_name (i := 17) sc.nd rfl (Or.inl rfl)) (hle (by decide))) (gvs_nil))))
    (ss_one (st_if (tv_cmp op_ge og_cmp.op (ev_bin op_addA og_add.op (ev_ix ix_seq og_ix.op (ev_var (pv 16)) (ev_int)) (ev_ix ix_seq og_ix.op (ev_var (pv 16)) (ev_int))) (ev_ix ix_seq og_ix.op (ev_var (pv 17)) (ev_int)))
    (ss_one (st_ret (ev_bl)))
    (ss_nil))))
    (ss_cons (st_setF (fun te h => ps_set (i := 18) sc.nd rfl (Or.inl rfl) h) (hle (by decide)) (ev_bin op_addA og_add.op (ev_var (pv 3)) (ev_bin op_mod og_mod.op (ev_call G_law_cell (hr.mono (by decide)) T.g_law_cell K_law_cell B_law_cell (tk _) (av_cons (ev_var (pv 0)) (av_cons (ev_int) (av_nil)))) (ev_int))))
    (ss_cons (st_if (tv_cmp (op_neA hu) og_ne.op (ev_sl (ev_call G_heard (hr.mono (by decide)) T.g_heard K_heard B_heard (tk _) (av_cons (ev_var (pv 1)) (av_cons (ev_t1 call_list_of og_list.op T.z_list (ev_var (pv 2))) (av_cons (ev_var (pv 18)) (av_nil))))) (ov_none) (ov_some (ev_b1 call_len og_len T.z_len (ev_var (pv 4))))) (ev_var (pv 4)))
    (ss_one (st_ret (ev_bl)))
    (ss_nil))
    (ss_cons (st_if (tv_cmp (op_neA hu) og_ne.op (ev_sl (ev_call G_sounds (hr.mono (by decide)) T.g_sounds K_sounds B_sounds (tk _) (av_cons (ev_var (pv 1)) (av_cons (ev_t1 call_list_of og_list.op T.z_list (ev_var (pv 2))) (av_cons (ev_var (pv 18)) (av_nil))))) (ov_none) (ov_some (ev_var (pv 3)))) (ev_var (pv 6)))
    (ss_one (st_ret (ev_bl)))
    (ss_nil))
    (ss_cons (st_if (tv_cmp (op_neA hu) og_ne.op (ev_call G_several (hr.mono (by decide)) T.g_several K_several B_several (tk _) (av_cons (ev_lst (av_cons (ev_var (pv 1)) (av_nil))) (av_cons (ev_t1 call_list_of og_list.op T.z_list (ev_var (pv 2))) (av_cons (ev_var (pv 3)) (av_nil))))) (ev_lc (own := [("_law_tick", 20), ("_law_word", 21), ("_law_tone", 7)]) (iv_list (bl := true) (ev_var (pv 4))) (fun _ _ _ _ _ => gv_tup (gvs_cons (gv_name (pg_name (i := 20) sc.nd rfl (Or.inl rfl)) (free0)) (gvs_cons (gv_name (pg_name (i := 21) sc.nd rfl (Or.inl rfl)) (free0)) (gvs_cons (gv_name (pg_name (i := 7) sc.nd rfl (Or.inl rfl)) (free0)) (gvs_nil))))) (fun _ _ _ _ _ => tvs_nil) (fun _ _ _ _ _ => ev_tup (av_cons (ev_var (pv 20)) (av_cons (ev_int) (av_cons (ev_var (pv 21)) (av_cons (ev_var (pv 7)) (av_nil)))))) sc.nd (blkOk_by (own := [("_law_tick", 20), ("_law_word", 21), ("_law_tone", 7)]) (N := ["_law_script", "_law_setting_here", "_law_deeds_here", "_law_ticks", "_law_told", "_law_often", "_law_rows", "_law_tone", "_law_many", "_law_offs", "_law_most", "_law_first", "_law_gaps", "_law_quiet", "_law_begin", "_law_long", "_law_one", "_law_other", "_law_more", "_law_row", "_law_tick", "_law_word"]) (sc := defScope s_law) (by decide +kernel)) (by decide)))
    (ss_one (st_ret (ev_bl)))
    (ss_nil))
    (ss_one (st_ret (ev_bl))))))))))))))))))))))
end
end K19

set_option maxHeartbeats 0
namespace K19
open PySem PySem.Spec PyProof.Rows L2 M
/-! ### the head -/
def fa_0 : List He.Fa := [.int "MOST_DEEDS" 80, .int "MOST_KEY" 35, .int "MOST_TICK" 999, .int "SPAN" 12, .cls "Player", .glo "Player", .meth "Player" "grid", .meth "Player" "leave", .meth "Player" "press", .meth "Player" "rest", .meth "Player" "sounding", .meth "Player" "step", .meth "Player" "tick", .mkr "Player", .noat "Player" "count", .noat "Player" "down", .noat "Player" "due", .noat "Player" "ends", .noat "Player" "now", .noat "Player" "row", .noat "Player" "setting", .noat "Player" "some", .glo "ORDERS", .exc "IsHeld", .glo "IsHeld", .exc "NoCount", .glo "NoCount", .exc "NoDeeds", .glo "NoDeeds", .exc "NoKey"]
def fa_1 : List He.Fa := [.glo "NoKey", .exc "NoSetting", .glo "NoSetting", .exc "NotHeld", .glo "NotHeld", .free "bool", .free "dict", .free "enumerate", .free "int", .free "isinstance", .free "len", .free "list", .free "max", .free "min", .free "range", .free "sorted", .free "str", .free "tuple", .free "zip", .glo "_law_pick", .glo "_law_seed", .glo "_law_setting", .glo "_law_cell", .glo "_law_deeds", .glo "is_one", .glo "is_within", .glo "is_setting", .glo "look", .glo "is_key", .glo "is_deed"]
def fa_2 : List He.Fa := [.glo "are_deeds", .glo "look_deeds", .glo "look_heard", .glo "do", .glo "inward", .glo "in_order", .glo "round_told", .glo "heard", .glo "how_often", .glo "sounds", .glo "fullest", .glo "silences", .glo "several", .glo "law"]
def fa : List He.Fa := fa_0 ++ fa_1 ++ fa_2
def fn_0 : List He.DefD := [⟨("_law_pick", none), "_law_pick", "_law_pick", defArgs s_law_pick, defBody s_law_pick, defScope s_law_pick, [], []⟩, ⟨("_law_seed", none), "_law_seed", "_law_seed", defArgs s_law_seed, defBody s_law_seed, defScope s_law_seed, [], []⟩, ⟨("_law_setting", none), "_law_setting", "_law_setting", defArgs s_law_setting, defBody s_law_setting, defScope s_law_setting, [], []⟩, ⟨("_law_cell", none), "_law_cell", "_law_cell", defArgs s_law_cell, defBody s_law_cell, defScope s_law_cell, [], []⟩, ⟨("_law_deeds", none), "_law_deeds", "_law_deeds", defArgs s_law_deeds, defBody s_law_deeds, defScope s_law_deeds, [], []⟩, ⟨("is_one", none), "is_one", "is_one", defArgs s_is_one, defBody s_is_one, defScope s_is_one, [], []⟩, ⟨("is_within", none), "is_within", "is_within", defArgs s_is_within, defBody s_is_within, defScope s_is_within, [], []⟩, ⟨("is_setting", none), "is_setting", "is_setting", defArgs s_is_setting, defBody s_is_setting, defScope s_is_setting, [], []⟩, ⟨("look", none), "look", "look", defArgs s_look, defBody s_look, defScope s_look, [], []⟩, ⟨("is_key", none), "is_key", "is_key", defArgs s_is_key, defBody s_is_key, defScope s_is_key, [], []⟩, ⟨("is_deed", none), "is_deed", "is_deed", defArgs s_is_deed, defBody s_is_deed, defScope s_is_deed, [], []⟩, ⟨("are_deeds", none), "are_deeds", "are_deeds", defArgs s_are_deeds, defBody s_are_deeds, defScope s_are_deeds, [], []⟩, ⟨("look_deeds", none), "look_deeds", "look_deeds", defArgs s_look_deeds, defBody s_look_deeds, defScope s_look_deeds, [], []⟩, ⟨("look_heard", none), "look_heard", "look_heard", defArgs s_look_heard, defBody s_look_heard, defScope s_look_heard, [], []⟩, ⟨("Player", some "__init__"), "__init__", "Player.__init__", defArgs s_Player_init, defBody s_Player_init, defScope s_Player_init, [], []⟩, ⟨("Player", some "press"), "press", "Player.press", defArgs s_Player_press, defBody s_Player_press, defScope s_Player_press, [], []⟩, ⟨("Player", some "rest"), "rest", "Player.rest", defArgs s_Player_rest, defBody s_Player_rest, defScope s_Player_rest, [], []⟩, ⟨("Player", some "leave"), "leave", "Player.leave", defArgs s_Player_leave, defBody s_Player_leave, defScope s_Player_leave, [], []⟩, ⟨("do", none), "do", "do", defArgs s_do, defBody s_do, defScope s_do, [], []⟩, ⟨("Player", some "sounding"), "sounding", "Player.sounding", defArgs s_Player_sounding, defBody s_Player_sounding, defScope s_Player_sounding, [], []⟩, ⟨("Player", some "grid"), "grid", "Player.grid", defArgs s_Player_grid, defBody s_Player_grid, defScope s_Player_grid, [], []⟩, ⟨("inward", none), "inward", "inward", defArgs s_inward, defBody s_inward, defScope s_inward, [], []⟩, ⟨("in_order", none), "in_order", "in_order", defArgs s_in_order, defBody s_in_order, defScope s_in_order, [], []⟩, ⟨("round_told", none), "round_told", "round_told", defArgs s_round_told, defBody s_round_told, defScope s_round_told, [], []⟩, ⟨("Player", some "step"), "step", "Player.step", defArgs s_Player_step, defBody s_Player_step, defScope s_Player_step, [], []⟩, ⟨("Player", some "tick"), "tick", "Player.tick", defArgs s_Player_tick, defBody s_Player_tick, defScope s_Player_tick, [], []⟩, ⟨("heard", none), "heard", "heard", defArgs s_heard, defBody s_heard, defScope s_heard, [], []⟩, ⟨("how_often", none), "how_often", "how_often", defArgs s_how_often, defBody s_how_often, defScope s_how_often, [], []⟩, ⟨("sounds", none), "sounds", "sounds", defArgs s_sounds, defBody s_sounds, defScope s_sounds, [], []⟩, ⟨("fullest", none), "fullest", "fullest", defArgs s_fullest, defBody s_fullest, defScope s_fullest, [], []⟩]
def fn_1 : List He.DefD := [⟨("silences", none), "silences", "silences", defArgs s_silences, defBody s_silences, defScope s_silences, [], []⟩, ⟨("several", none), "several", "several", defArgs s_several, defBody s_several, defScope s_several, [], []⟩, ⟨("law", none), "law", "law", defArgs s_law, defBody s_law, defScope s_law, [], []⟩]
def fn : List He.DefD := fn_0 ++ fn_1
def exs (K : Frag) : List Bool := [He.tupB K "ORDERS" [.str ("up" : Str), .str ("down" : Str), .str ("both" : Str), .str ("bounce" : Str), .str ("in" : Str), .str ("thumb" : Str), .str ("played" : Str)],
  K.all noLst]
def ex (K : Frag) : Bool := (exs K).all id
abbrev Ro : PySem.W.OpenRow := PySem.W.OpenLaw.row PySem.Challenge.rw_heldturns_k19_whole_how_many
abbrev hk : PySem.W.Hook := He.hookX 4 fa fn [] [] ex
def ob (s : PySem.W.SharedT) : He.AlX := He.obsX 4 fa fn [] [] ex (HandSHeadRun.getT s)
theorem ob_eq (s : PySem.W.SharedT) : ob s = hk.obs s.abs := He.obsX_eq (HandSHeadRun.getT_eq s)
def loose_0 : List Str := ["_wall", "TurnsError", "NoSetting", "NoKey", "IsHeld", "NotHeld", "NoDeeds", "NoCount", "ORDERS", "MOST_KEY", "SPAN", "is_within", "is_one", "is_setting", "look", "is_key", "inward", "in_order", "round_told", "Player", "MOST_TICK", "MOST_DEEDS", "is_deed", "are_deeds", "look_deeds", "do", "look_heard", "heard", "sounds", "how_often"]
def loose_1 : List Str := ["fullest", "silences", "several", "_law_cell", "_law_seed", "_law_pick", "_law_setting", "_law_deeds"]
def loose : List Str := loose_0 ++ loose_1
theorem run (w : World) : HandSHeadRun.RunEq Ro (PySem.W.view Ro.prog [44]) hk ob 20000 loose w := by
  intro os
  kernel_rfl
theorem tx_of {w : World} {K : Frag} {h : Heap} {mg : Str → Option Value} (X : K.In h) (G : h.Ns mainGlobals mg) (c : He.SaysX fa fn [] [] ex w h K) : Tx K mg := by
  have d := c.t.d
  have hex : ∀ (i : Nat) {b : Bool}, (exs K)[i]? = some b → b = true := fun i {b} e => List.all_eq_true.mp c.more b (List.mem_of_getElem? e)
  exact {
    c_MOST_DEEDS := He.int_ok X G (d.fact 0 (f := .int "MOST_DEEDS" 80) rfl)
    c_MOST_KEY := He.int_ok X G (d.fact 1 (f := .int "MOST_KEY" 35) rfl)
    c_MOST_TICK := He.int_ok X G (d.fact 2 (f := .int "MOST_TICK" 999) rfl)
    c_SPAN := He.int_ok X G (d.fact 3 (f := .int "SPAN" 12) rfl)
    cl_Player := He.cls_ok (d.fact 4 (f := .cls "Player") rfl)
    gc_Player := He.glo_ok X G (d.fact 5 (f := .glo "Player") rfl)
    m_Player_grid := He.meth_ok (d.fact 6 (f := .meth "Player" "grid") rfl)
    m_Player_leave := He.meth_ok (d.fact 7 (f := .meth "Player" "leave") rfl)
    m_Player_press := He.meth_ok (d.fact 8 (f := .meth "Player" "press") rfl)
    m_Player_rest := He.meth_ok (d.fact 9 (f := .meth "Player" "rest") rfl)
    m_Player_sounding := He.meth_ok (d.fact 10 (f := .meth "Player" "sounding") rfl)
    m_Player_step := He.meth_ok (d.fact 11 (f := .meth "Player" "step") rfl)
    m_Player_tick := He.meth_ok (d.fact 12 (f := .meth "Player" "tick") rfl)
    mk_Player := He.mkr_ok (d.fact 13 (f := .mkr "Player") rfl)
    n_Player_count := He.noat_ok (d.fact 14 (f := .noat "Player" "count") rfl)
    n_Player_down := He.noat_ok (d.fact 15 (f := .noat "Player" "down") rfl)
    n_Player_due := He.noat_ok (d.fact 16 (f := .noat "Player" "due") rfl)
    n_Player_ends := He.noat_ok (d.fact 17 (f := .noat "Player" "ends") rfl)
    n_Player_now := He.noat_ok (d.fact 18 (f := .noat "Player" "now") rfl)
    n_Player_row := He.noat_ok (d.fact 19 (f := .noat "Player" "row") rfl)
    n_Player_setting := He.noat_ok (d.fact 20 (f := .noat "Player" "setting") rfl)
    n_Player_some := He.noat_ok (d.fact 21 (f := .noat "Player" "some") rfl)
    g_ORDERS := He.glo_ok X G (d.fact 22 (f := .glo "ORDERS") rfl)
    r_ORDERS := kt_of (hex 0 rfl)
    x_IsHeld := ⟨(He.exc_ok (d.fact 23 (f := .exc "IsHeld") rfl)).1, (He.exc_ok (d.fact 23 (f := .exc "IsHeld") rfl)).2.1, (He.exc_ok (d.fact 23 (f := .exc "IsHeld") rfl)).2.2.1, (He.exc_ok (d.fact 23 (f := .exc "IsHeld") rfl)).2.2.2, He.glo_ok X G (d.fact 24 (f := .glo "IsHeld") rfl)⟩
    x_NoCount := ⟨(He.exc_ok (d.fact 25 (f := .exc "NoCount") rfl)).1, (He.exc_ok (d.fact 25 (f := .exc "NoCount") rfl)).2.1, (He.exc_ok (d.fact 25 (f := .exc "NoCount") rfl)).2.2.1, (He.exc_ok (d.fact 25 (f := .exc "NoCount") rfl)).2.2.2, He.glo_ok X G (d.fact 26 (f := .glo "NoCount") rfl)⟩
    x_NoDeeds := ⟨(He.exc_ok (d.fact 27 (f := .exc "NoDeeds") rfl)).1, (He.exc_ok (d.fact 27 (f := .exc "NoDeeds") rfl)).2.1, (He.exc_ok (d.fact 27 (f := .exc "NoDeeds") rfl)).2.2.1, (He.exc_ok (d.fact 27 (f := .exc "NoDeeds") rfl)).2.2.2, He.glo_ok X G (d.fact 28 (f := .glo "NoDeeds") rfl)⟩
    x_NoKey := ⟨(He.exc_ok (d.fact 29 (f := .exc "NoKey") rfl)).1, (He.exc_ok (d.fact 29 (f := .exc "NoKey") rfl)).2.1, (He.exc_ok (d.fact 29 (f := .exc "NoKey") rfl)).2.2.1, (He.exc_ok (d.fact 29 (f := .exc "NoKey") rfl)).2.2.2, He.glo_ok X G (d.fact 30 (f := .glo "NoKey") rfl)⟩
    x_NoSetting := ⟨(He.exc_ok (d.fact 31 (f := .exc "NoSetting") rfl)).1, (He.exc_ok (d.fact 31 (f := .exc "NoSetting") rfl)).2.1, (He.exc_ok (d.fact 31 (f := .exc "NoSetting") rfl)).2.2.1, (He.exc_ok (d.fact 31 (f := .exc "NoSetting") rfl)).2.2.2, He.glo_ok X G (d.fact 32 (f := .glo "NoSetting") rfl)⟩
    x_NotHeld := ⟨(He.exc_ok (d.fact 33 (f := .exc "NotHeld") rfl)).1, (He.exc_ok (d.fact 33 (f := .exc "NotHeld") rfl)).2.1, (He.exc_ok (d.fact 33 (f := .exc "NotHeld") rfl)).2.2.1, (He.exc_ok (d.fact 33 (f := .exc "NotHeld") rfl)).2.2.2, He.glo_ok X G (d.fact 34 (f := .glo "NotHeld") rfl)⟩
    z_bool := He.free_ok X G (d.fact 35 (f := .free "bool") rfl)
    z_dict := He.free_ok X G (d.fact 36 (f := .free "dict") rfl)
    z_enumerate := He.free_ok X G (d.fact 37 (f := .free "enumerate") rfl)
    z_int := He.free_ok X G (d.fact 38 (f := .free "int") rfl)
    z_isinstance := He.free_ok X G (d.fact 39 (f := .free "isinstance") rfl)
    z_len := He.free_ok X G (d.fact 40 (f := .free "len") rfl)
    z_list := He.free_ok X G (d.fact 41 (f := .free "list") rfl)
    z_max := He.free_ok X G (d.fact 42 (f := .free "max") rfl)
    z_min := He.free_ok X G (d.fact 43 (f := .free "min") rfl)
    z_range := He.free_ok X G (d.fact 44 (f := .free "range") rfl)
    z_sorted := He.free_ok X G (d.fact 45 (f := .free "sorted") rfl)
    z_str := He.free_ok X G (d.fact 46 (f := .free "str") rfl)
    z_tuple := He.free_ok X G (d.fact 47 (f := .free "tuple") rfl)
    z_zip := He.free_ok X G (d.fact 48 (f := .free "zip") rfl)
    F_law_pick := d.def_ 0 rfl
    g_law_pick := He.glo_ok X G (d.fact 49 (f := .glo "_law_pick") rfl)
    F_law_seed := d.def_ 1 rfl
    g_law_seed := He.glo_ok X G (d.fact 50 (f := .glo "_law_seed") rfl)
    F_law_setting := d.def_ 2 rfl
    g_law_setting := He.glo_ok X G (d.fact 51 (f := .glo "_law_setting") rfl)
    F_law_cell := d.def_ 3 rfl
    g_law_cell := He.glo_ok X G (d.fact 52 (f := .glo "_law_cell") rfl)
    F_law_deeds := d.def_ 4 rfl
    g_law_deeds := He.glo_ok X G (d.fact 53 (f := .glo "_law_deeds") rfl)
    F_is_one := d.def_ 5 rfl
    g_is_one := He.glo_ok X G (d.fact 54 (f := .glo "is_one") rfl)
    F_is_within := d.def_ 6 rfl
    g_is_within := He.glo_ok X G (d.fact 55 (f := .glo "is_within") rfl)
    F_is_setting := d.def_ 7 rfl
    g_is_setting := He.glo_ok X G (d.fact 56 (f := .glo "is_setting") rfl)
    F_look := d.def_ 8 rfl
    g_look := He.glo_ok X G (d.fact 57 (f := .glo "look") rfl)
    F_is_key := d.def_ 9 rfl
    g_is_key := He.glo_ok X G (d.fact 58 (f := .glo "is_key") rfl)
    F_is_deed := d.def_ 10 rfl
    g_is_deed := He.glo_ok X G (d.fact 59 (f := .glo "is_deed") rfl)
    F_are_deeds := d.def_ 11 rfl
    g_are_deeds := He.glo_ok X G (d.fact 60 (f := .glo "are_deeds") rfl)
    F_look_deeds := d.def_ 12 rfl
    g_look_deeds := He.glo_ok X G (d.fact 61 (f := .glo "look_deeds") rfl)
    F_look_heard := d.def_ 13 rfl
    g_look_heard := He.glo_ok X G (d.fact 62 (f := .glo "look_heard") rfl)
    F_Player_init := d.def_ 14 rfl
    F_Player_press := d.def_ 15 rfl
    F_Player_rest := d.def_ 16 rfl
    F_Player_leave := d.def_ 17 rfl
    F_do := d.def_ 18 rfl
    g_do := He.glo_ok X G (d.fact 63 (f := .glo "do") rfl)
    F_Player_sounding := d.def_ 19 rfl
    F_Player_grid := d.def_ 20 rfl
    F_inward := d.def_ 21 rfl
    g_inward := He.glo_ok X G (d.fact 64 (f := .glo "inward") rfl)
    F_in_order := d.def_ 22 rfl
    g_in_order := He.glo_ok X G (d.fact 65 (f := .glo "in_order") rfl)
    F_round_told := d.def_ 23 rfl
    g_round_told := He.glo_ok X G (d.fact 66 (f := .glo "round_told") rfl)
    F_Player_step := d.def_ 24 rfl
    F_Player_tick := d.def_ 25 rfl
    F_heard := d.def_ 26 rfl
    g_heard := He.glo_ok X G (d.fact 67 (f := .glo "heard") rfl)
    F_how_often := d.def_ 27 rfl
    g_how_often := He.glo_ok X G (d.fact 68 (f := .glo "how_often") rfl)
    F_sounds := d.def_ 28 rfl
    g_sounds := He.glo_ok X G (d.fact 69 (f := .glo "sounds") rfl)
    F_fullest := d.def_ 29 rfl
    g_fullest := He.glo_ok X G (d.fact 70 (f := .glo "fullest") rfl)
    F_silences := d.def_ 30 rfl
    g_silences := He.glo_ok X G (d.fact 71 (f := .glo "silences") rfl)
    F_several := d.def_ 31 rfl
    g_several := He.glo_ok X G (d.fact 72 (f := .glo "several") rfl)
    F_law := d.def_ 32 rfl
    g_law := He.glo_ok X G (d.fact 73 (f := .glo "law") rfl)
  }
theorem nolist {w : World} {K : Frag} {h : Heap} (c : He.SaysX fa fn [] [] ex w h K) : K.all noLst = true := List.all_eq_true.mp c.more _ (List.mem_of_getElem? (i := 1) rfl)
theorem ends (law_true : ∀ ns : List Int, ns.length ≤ 63 → (∀ z ∈ ns, Builtin.Int.intBits z ≤ 1048576) → ∃ ts, f_law [.d (.list (ns.map PyData.int))] = .ok (.d (.bool true)) ts) : PySem.Challenge.rw_heldturns_k19_whole_how_many.Holds := by
  w_on; o_law
  refine HandSHeadRun.head_any (r := Ro) (q := PySem.W.view Ro.prog [44]) (H := hk) (ob := ob) (M := 20000) (loose := loose) (d := HandSHeadRun.topDef Ro.prog 44) (kwd := []) ob_eq
    (by kernel_rfl) (fun s => by kernel_rfl) run (by kernel_rfl) (by kernel_rfl) (by kernel_rfl) (by rfl) (by first | assumption | decide +kernel) (by decide +kernel) ⟨rfl, rfl, rfl, rfl, rfl, by decide +kernel⟩ ?hw ?hc
  case hw => w_witness2
  case hc =>
    refine M.walk_M (l := PySem.Challenge.rw_heldturns_k19_whole_how_many) (n := 63) (k := 10) (x := "_law_script") (f := f_law) rfl (by decide) (by kernel_rfl) ⟨rfl, by decide, by decide⟩ law_true ?F
    intro w mg fa h Y G hmg0
    obtain ⟨K, KX, c⟩ := Y
    have T := tx_of KX G c
    obtain ⟨fd, Fd⟩ := T.F_law
    have hmg : mg ("law" : PySem.Str) = some (.ref fa) := by
      have e : (HandSHeadRun.topDef Ro.prog 44).name = ("law" : PySem.Str) := by kernel_rfl
      rw [← e]
      exact hmg0
    have e := hmg.symm.trans T.g_law
    cases e
    exact ⟨K, fd, KX, nolist c, fun s v => (FunD.bindsA (ps := ["_law_script"]) Fd fun _ _ _ _ _ _ us hl => match us, hl with | [_], _ => rfl) s [v] rfl, fun base _ _ => ok_law T Fd⟩
end K19

open PySem PySem.W PySem.Calls PyProof.Rows
theorem PySem.Challenge.cw_heldturns_k19_whole_how_many_holds : PySem.Challenge.rw_heldturns_k19_whole_how_many.Holds := by
  exact K19.ends fun ns hl _ => K19.law_true ns hl
