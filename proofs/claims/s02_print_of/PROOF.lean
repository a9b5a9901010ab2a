import PyProof.Rows.All
import Wide.All
import OpenK.AllK
import Wide.FinOn
import Open.SpecLaws
import KE.OsGo
import HandS.ForSpec
import HandS.ForMost
import HandS.Flow
import HandS.Style
import HandS.Deep
import HandS.Wide
import HandS.ExcInit
import HandS.ExcInitHot
import HandS.RaiseFrom
import HandS.HotCalls
import HandS.ExcField
import HandS.SuiteRaise
import KE.KAsSuite
import SeamPoly
import KE.KIntText
import HandS.Codes
import HandS.StrMore
import PyProof.NeKinds
import HandS.TupSets
import SeamPattern
import KE.IntTextText
import PyWrdrft
import KE.KAssignIn
import PyProof.EnumMake
import PyProof.Draws
import KE.GoesRaise
import DraftsSpec
import SeamText
import WrdrftNeutral
import PySem.Challenge.RW_seamdrafts_s02_print_of
set_option exponentiation.threshold 256
set_option Elab.async false
set_option linter.all false
set_option maxRecDepth 100000
set_option maxHeartbeats 4000000
/-! # The layer of data: what values stand for, heap out of sight -/
namespace Sd
open PySem PySem.Spec PyProof.Rows L2
/-- what a value stands for -/
inductive D where
  | non | bl (b : Bool) | int (i : Int) | str (x : Str)
  | tup (ds : List D) | lst (ds : List D) | raw (ds : List D)
  | obj (C : Addr) (fs : List (Str × D))
  | dic (kvs : List (Key × D))
/-- a tuple of the written part -/
def WrT (K : PySem.W.Frag) (a : Addr) (xs : List V) : Prop :=
  ∃ (o : Obj) (its : Array Value) (n : Nat), K.lookup a = some o ∧ o.cls = .type "tuple" ∧ o.data = .seq its n ∧ its.size ≤ sizeLine ∧ Vals xs its.toList
/-- a list of the written part -/
def WrL (K : PySem.W.Frag) (a : Addr) (xs : List V) : Prop :=
  ∃ (o : Obj) (its : Array Value) (n : Nat), K.lookup a = some o ∧ o.cls = .type "list" ∧ o.dict = none ∧ o.data = .seq its n ∧ its.size ≤ sizeLine ∧ Vals xs its.toList
mutual
/-- v stands for d; nothing of it lies where W says -/
inductive Rp (K : PySem.W.Frag) (W : Addr → Prop) (H : Hp) : V → D → Prop
  | non : Rp K W H .non .non
  | bl (b : Bool) : Rp K W H (.bl b) (.bl b)
  | int (i : Int) : Rp K W H (.int i) (.int i)
  | str (x : Str) : Rp K W H (.str x) (.str x)
  | tup {a : Addr} {xs : List V} {ds : List D} : Rd H a (.tup xs) → ¬ W a → RpL K W H xs ds → Rp K W H (.ref a) (.tup ds)
  | tupK {a : Addr} {xs : List V} {ds : List D} : WrT K a xs → RpL K W H xs ds → Rp K W H (.ref a) (.tup ds)
  | lst {a : Addr} {xs : List V} {ds : List D} : H a = some (.lst xs) → ¬ W a → RpL K W H xs ds → Rp K W H (.ref a) (.lst ds)
  | raw {a : Addr} {o : Obj} {xs : List V} {ds : List D} : H a = some (.frz o (.lst xs)) → ¬ W a → RpL K W H xs ds → Rp K W H (.ref a) (.raw ds)
  | rawK {a : Addr} {xs : List V} {ds : List D} : WrL K a xs → RpL K W H xs ds → Rp K W H (.ref a) (.raw ds)
  | obj {a C dx : Addr} {fs : List (Str × V)} {gs : List (Str × D)} : H a = some (.ins C dx fs) → ¬ W a → RpF K W H fs gs → Rp K W H (.ref a) (.obj C gs)
  | dic {a : Addr} {ks : List (Key × V)} {gs : List (Key × D)} : H a = some (.dK ks) → ¬ W a → RpK K W H ks gs → Rp K W H (.ref a) (.dic gs)
inductive RpL (K : PySem.W.Frag) (W : Addr → Prop) (H : Hp) : List V → List D → Prop
  | nil : RpL K W H [] []
  | cons {v : V} {vs : List V} {d : D} {ds : List D} : Rp K W H v d → RpL K W H vs ds → RpL K W H (v :: vs) (d :: ds)
inductive RpF (K : PySem.W.Frag) (W : Addr → Prop) (H : Hp) : List (Str × V) → List (Str × D) → Prop
  | nil : RpF K W H [] []
  | cons {f : Str} {v : V} {vs : List (Str × V)} {d : D} {ds : List (Str × D)} : Rp K W H v d → RpF K W H vs ds → RpF K W H ((f, v) :: vs) ((f, d) :: ds)
inductive RpK (K : PySem.W.Frag) (W : Addr → Prop) (H : Hp) : List (Key × V) → List (Key × D) → Prop
  | nil : RpK K W H [] []
  | cons {f : Key} {v : V} {vs : List (Key × V)} {d : D} {ds : List (Key × D)} : Rp K W H v d → RpK K W H vs ds → RpK K W H ((f, v) :: vs) ((f, d) :: ds)
end
section
variable {K : PySem.W.Frag} {W W' : Addr → Prop} {H H' : Hp}
theorem rd_keep {a : Addr} {u : HO} (h : Rd H a u) (k : ∀ o, H a = some o → H' a = some o) : Rd H' a u := by
  rcases h with h | ⟨o, h⟩
  · exact .inl (k _ h)
  · exact .inr ⟨o, k _ h⟩
theorem rd_some {a : Addr} {u : HO} (h : Rd H a u) : H a ≠ none := by
  rcases h with h | ⟨o, h⟩ <;> rw [h] <;> exact fun z => nomatch z
/-- what is kept: all that W does not name; W' names more only where nothing stood -/
structure Kp (W W' : Addr → Prop) (H H' : Hp) : Prop where
  keep : ∀ b o, ¬ W b → H b = some o → H' b = some o
  more : ∀ a, W' a → W a ∨ H a = none
theorem Kp.out (k : Kp W W' H H') {a : Addr} (h : ¬ W a) (n : H a ≠ none) : ¬ W' a := fun z => (k.more a z).elim h n
mutual
theorem Rp.keep (k : Kp W W' H H') : ∀ {v : V} {d : D}, Rp K W H v d → Rp K W' H' v d
  | _, _, .non => .non
  | _, _, .bl b => .bl b
  | _, _, .int i => .int i
  | _, _, .str x => .str x
  | _, _, .tup h n r => .tup (rd_keep h fun o e => k.keep _ o n e) (k.out n (rd_some h)) (RpL.keep k r)
  | _, _, .tupK h r => .tupK h (RpL.keep k r)
  | _, _, .lst h n r => .lst (k.keep _ _ n h) (k.out n (by rw [h]; exact fun z => nomatch z)) (RpL.keep k r)
  | _, _, .raw h n r => .raw (k.keep _ _ n h) (k.out n (by rw [h]; exact fun z => nomatch z)) (RpL.keep k r)
  | _, _, .rawK h r => .rawK h (RpL.keep k r)
  | _, _, .obj h n r => .obj (k.keep _ _ n h) (k.out n (by rw [h]; exact fun z => nomatch z)) (RpF.keep k r)
  | _, _, .dic h n r => .dic (k.keep _ _ n h) (k.out n (by rw [h]; exact fun z => nomatch z)) (RpK.keep k r)
theorem RpL.keep (k : Kp W W' H H') : ∀ {vs : List V} {ds : List D}, RpL K W H vs ds → RpL K W' H' vs ds
  | _, _, .nil => .nil
  | _, _, .cons h r => .cons (Rp.keep k h) (RpL.keep k r)
theorem RpF.keep (k : Kp W W' H H') : ∀ {vs : List (Str × V)} {ds : List (Str × D)}, RpF K W H vs ds → RpF K W' H' vs ds
  | _, _, .nil => .nil
  | _, _, .cons h r => .cons (Rp.keep k h) (RpF.keep k r)
theorem RpK.keep (k : Kp W W' H H') : ∀ {vs : List (Key × V)} {ds : List (Key × D)}, RpK K W H vs ds → RpK K W' H' vs ds
  | _, _, .nil => .nil
  | _, _, .cons h r => .cons (Rp.keep k h) (RpK.keep k r)
end
theorem Kp.same (h : Same H H') : Kp W W H H' := ⟨fun b o _ e => h b o e, fun _ z => .inl z⟩
theorem RpL.length : ∀ {vs : List V} {ds : List D}, RpL K W H vs ds → vs.length = ds.length
  | _, _, .nil => rfl
  | _, _, .cons _ r => congrArg (· + 1) (RpL.length r)
theorem RpL.get : ∀ {vs : List V} {ds : List D} {i : Nat} {d : D}, RpL K W H vs ds → ds[i]? = some d → ∃ v, vs[i]? = some v ∧ Rp K W H v d
  | _, _, i, d, .nil, h => by simp at h
  | _, _, 0, d, .cons h _, e => by
    simp only [List.getElem?_cons_zero, Option.some.injEq] at e
    subst e
    exact ⟨_, rfl, h⟩
  | _, _, i + 1, d, .cons _ r, e => by
    simp only [List.getElem?_cons_succ] at e ⊢
    exact RpL.get r e
theorem RpL.getV : ∀ {vs : List V} {ds : List D} {i : Nat} {v : V}, RpL K W H vs ds → vs[i]? = some v → ∃ d, ds[i]? = some d ∧ Rp K W H v d
  | _, _, i, d, .nil, h => by simp at h
  | _, _, 0, d, .cons h _, e => by
    simp only [List.getElem?_cons_zero, Option.some.injEq] at e
    subst e
    exact ⟨_, rfl, h⟩
  | _, _, i + 1, d, .cons _ r, e => by
    simp only [List.getElem?_cons_succ] at e ⊢
    exact RpL.getV r e
theorem RpL.append : ∀ {vs ws : List V} {ds es : List D}, RpL K W H vs ds → RpL K W H ws es → RpL K W H (vs ++ ws) (ds ++ es)
  | _, _, _, _, .nil, s => s
  | _, _, _, _, .cons h r, s => .cons h (RpL.append r s)
theorem RpL.take : ∀ {vs : List V} {ds : List D} (n : Nat), RpL K W H vs ds → RpL K W H (vs.take n) (ds.take n)
  | _, _, 0, _ => .nil
  | _, _, n + 1, .nil => .nil
  | _, _, n + 1, .cons h r => .cons h (RpL.take n r)
theorem RpL.drop : ∀ {vs : List V} {ds : List D} (n : Nat), RpL K W H vs ds → RpL K W H (vs.drop n) (ds.drop n)
  | _, _, 0, r => r
  | _, _, n + 1, .nil => .nil
  | _, _, n + 1, .cons _ r => RpL.drop n r
theorem RpF.get : ∀ {fs : List (Str × V)} {gs : List (Str × D)} {f : Str} {d : D}, RpF K W H fs gs → gs.lookup f = some d → ∃ v, fs.lookup f = some v ∧ Rp K W H v d
  | _, _, f, d, .nil, h => by simp at h
  | (g, v) :: fs, (_, e) :: gs, f, d, .cons h r, q => by
    rw [List.lookup_cons] at q ⊢
    cases c : (f == g) with
    | true =>
      rw [c] at q
      cases q
      exact ⟨v, rfl, h⟩
    | false =>
      rw [c] at q
      exact RpF.get r q
theorem RpF.none : ∀ {fs : List (Str × V)} {gs : List (Str × D)} {f : Str}, RpF K W H fs gs → gs.lookup f = Option.none → fs.lookup f = Option.none
  | _, _, f, .nil, h => rfl
  | (g, v) :: fs, (_, e) :: gs, f, .cons h r, q => by
    rw [List.lookup_cons] at q ⊢
    cases c : (f == g) with
    | true =>
      rw [c] at q
      cases q
    | false =>
      rw [c] at q
      exact RpF.none r q
theorem RpF.length : ∀ {fs : List (Str × V)} {gs : List (Str × D)}, RpF K W H fs gs → fs.length = gs.length
  | _, _, .nil => rfl
  | _, _, .cons _ r => congrArg (· + 1) (RpF.length r)
end
/-- a field put -/
def putD (f : Str) (d : D) : List (Str × D) → List (Str × D)
  | [] => [(f, d)]
  | (g, x) :: r => if g = f then (g, d) :: r else (g, x) :: putD f d r
theorem RpF.put {K : PySem.W.Frag} {W : Addr → Prop} {H : Hp} {f : Str} {v : V} {d : D} (h : Rp K W H v d) : ∀ {fs : List (Str × V)} {gs : List (Str × D)}, RpF K W H fs gs → RpF K W H (putF f v fs) (putD f d gs)
  | _, _, .nil => .cons h .nil
  | (g, x) :: fs, (_, e) :: gs, .cons q r => by
    unfold putF putD
    split
    · exact .cons h r
    · exact .cons q (RpF.put h r)
theorem putD_length {f : Str} {d : D} : ∀ {gs : List (Str × D)}, (putD f d gs).length ≤ gs.length + 1
  | [] => Nat.le_refl _
  | (g, x) :: r => by
    unfold putD
    split
    · simp
    · simpa using putD_length (gs := r)

/-! ## Slots -/
/-- what a name holds: data; a list of its own (append goes); an object that may change -/
inductive Sl where
  | im (d : D) | ow (ds : List D) | mu (r C : Addr) (gs : List (Str × D)) | xc (a d : Addr) (gs : List (Str × D))
  | g (I : PySem.W.Frag → (Addr → Prop) → Hp → V → List Addr → Prop)
def Sl.own : Sl → Prop
  | .im _ => False
  | .xc _ _ _ => False
  | _ => True
/-- a value, an exception's dict, that stands meanwhile -/
inductive Tm where
  | v (v : V) (d : D) | x (a : Addr) (gs : List (Str × D)) | l (vs : List V) (ds : List D)
abbrev Env := List (Option Sl)
/-- of a def's entry: what its caller may change, the heap, what it itself may change of that -/
structure Frame where
  W0 : Addr → Prop
  H0 : Hp
  R : Addr → Prop
/-- what holds of a thing of one's own holds as long as its places stand and nothing else goes -/
def MonoG (I : PySem.W.Frag → (Addr → Prop) → Hp → V → List Addr → Prop) : Prop := ∀ (K : PySem.W.Frag) (W W' : Addr → Prop) (H H' : Hp) (v : V) (fp : List Addr), Kp W W' H H' → (∀ a ∈ fp, ∀ o, H a = some o → H' a = some o) → I K W H v fp → I K W' H' v fp
def SlOk (K : PySem.W.Frag) (F : Frame) (W : Addr → Prop) (H : Hp) (v : V) : Sl → Prop
  | .im d => Rp K W H v d
  | .ow ds => ∃ l xs, v = .ref l ∧ W l ∧ F.H0 l = none ∧ H l = some (.lst xs) ∧ RpL K W H xs ds
  | .mu r C gs => ∃ dx fs, v = .ref r ∧ W r ∧ (F.R r ∨ F.H0 r = none) ∧ H r = some (.ins C dx fs) ∧ RpF K W H fs gs
  | .xc a d gs => v = .ref a ∧ ∃ fs, H d = some (.xd fs) ∧ ¬ W d ∧ RpF K W H fs gs
  | .g I => MonoG I ∧ ∃ fp, I K W H v fp ∧ ∀ a ∈ fp, W a ∧ (F.R a ∨ F.H0 a = none)
def TmOk (K : PySem.W.Frag) (W : Addr → Prop) (H : Hp) : Tm → Prop
  | .v v d => Rp K W H v d
  | .x a gs => ∃ fs, H a = some (.xd fs) ∧ ¬ W a ∧ RpF K W H fs gs
  | .l vs ds => RpL K W H vs ds
structure Gd (K : PySem.W.Frag) (F : Frame) (W : Addr → Prop) (H : Hp) (σ : L2.St) (Γ : Env) (T : List Tm) : Prop where
  slot : ∀ (i : Nat) (s : Sl), Γ[i]? = some (some s) → ∃ v, σ[i]? = some (some v) ∧ SlOk K F W H v s
  sep : ∀ (i j : Nat) (si sj : Sl), Γ[i]? = some (some si) → Γ[j]? = some (some sj) → si.own → sj.own → i ≠ j → σ[i]? ≠ σ[j]?
  dom : ∀ a, W a → H a ≠ none
  sub : ∀ a, F.W0 a → W a
  dom0 : ∀ a, F.W0 a → F.H0 a ≠ none
  rsub : ∀ a, F.R a → F.W0 a
  keep : ∀ b o, ¬ F.R b → F.H0 b = some o → H b = some o
  tmp : ∀ p ∈ T, TmOk K W H p
  len : Γ.length = σ.length
  only : ∀ (i j : Nat) (I : PySem.W.Frag → (Addr → Prop) → Hp → V → List Addr → Prop) (sj : Sl), Γ[i]? = some (some (.g I)) → Γ[j]? = some (some sj) → sj.own → i = j
def Sta (K : PySem.W.Frag) (F : Frame) (H : Hp) (σ : L2.St) (Γ : Env) (T : List Tm) : Prop := ∃ W, Gd K F W H σ Γ T
section
variable {K : PySem.W.Frag} {F : Frame} {W W' : Addr → Prop} {H H' : Hp} {σ σ' : L2.St} {Γ Γ' : Env} {T T' : List Tm}
theorem SlOk.same (h : Same H H') {v : V} : ∀ {s : Sl}, SlOk K F W H v s → SlOk K F W H' v s
  | .im d, r => Rp.keep (Kp.same h) r
  | .ow ds, ⟨l, xs, e, w, n, q, r⟩ => ⟨l, xs, e, w, n, h _ _ q, RpL.keep (Kp.same h) r⟩
  | .mu _ C gs, ⟨dx, fs, e, w, n, q, r⟩ => ⟨dx, fs, e, w, n, h _ _ q, RpF.keep (Kp.same h) r⟩
  | .xc _ _ gs, ⟨e, fs, q, w, r⟩ => ⟨e, fs, h _ _ q, w, RpF.keep (Kp.same h) r⟩
  | .g I, ⟨m, fp, q, w⟩ => ⟨m, fp, m K W W H H' v fp (Kp.same h) (fun a _ o e => h a o e) q, w⟩
theorem TmOk.same (h : Same H H') : ∀ {p : Tm}, TmOk K W H p → TmOk K W H' p
  | .v _ d, r => Rp.keep (Kp.same h) r
  | .x a gs, ⟨fs, e, w, r⟩ => ⟨fs, h _ _ e, w, RpF.keep (Kp.same h) r⟩
  | .l vs ds, r => RpL.keep (Kp.same h) r
/-- the heap has grown; what stands meanwhile is another -/
theorem Sta.step (h : Sta K F H σ Γ T) (hs : Same H H') (ht : ∀ W, (∀ a, W a → H a ≠ none) → (∀ p ∈ T, TmOk K W H p) → ∀ p ∈ T', TmOk K W H' p) : Sta K F H' σ Γ T' := by
  obtain ⟨W, g⟩ := h
  have hd : ∀ a, W a → H' a ≠ none := fun a wa z => by
    cases q : H a with
    | none => exact g.dom a wa q
    | some o =>
      rw [hs a o q] at z
      cases z
  exact ⟨W, fun i s e => let ⟨v, e1, e2⟩ := g.slot i s e; ⟨v, e1, e2.same hs⟩, g.sep, hd, g.sub, g.dom0, g.rsub, fun b o nb e => hs b o (g.keep b o nb e), ht W g.dom g.tmp, g.len, g.only⟩
theorem Sta.same (h : Sta K F H σ Γ T) (hs : Same H H') : Sta K F H' σ Γ T := h.step hs fun W _ t p hp => (t p hp).same hs
theorem Sta.temps (h : Sta K F H σ Γ T) (ht : ∀ W, (∀ a, W a → H a ≠ none) → (∀ p ∈ T, TmOk K W H p) → ∀ p ∈ T', TmOk K W H p) : Sta K F H σ Γ T' := h.step (Same.refl H) ht
theorem Sta.sub (h : Sta K F H σ Γ T) (hs : ∀ p ∈ T', p ∈ T) : Sta K F H σ Γ T' := h.temps fun _ _ t p hp => t p (hs p hp)
theorem Sta.tail {p : Tm} (h : Sta K F H σ Γ (p :: T)) : Sta K F H σ Γ T := h.sub fun _ hq => List.mem_cons_of_mem _ hq
theorem Sta.head {v : V} {d : D} (h : Sta K F H σ Γ (.v v d :: T)) : ∃ W, (∀ a, W a → H a ≠ none) ∧ Rp K W H v d := by
  obtain ⟨W, g⟩ := h
  exact ⟨W, g.dom, g.tmp _ List.mem_cons_self⟩
theorem Sta.two {v w : V} {d e : D} (h : Sta K F H σ Γ (.v v d :: .v w e :: T)) : ∃ W, (∀ a, W a → H a ≠ none) ∧ Rp K W H v d ∧ Rp K W H w e := by
  obtain ⟨W, g⟩ := h
  exact ⟨W, g.dom, g.tmp _ List.mem_cons_self, g.tmp _ (List.mem_cons_of_mem _ List.mem_cons_self)⟩
/-- a fresh place gets an object -/
theorem same_new {p : Addr} {o : HO} (h : H p = none) : Same H (upd H p o) := fun b u e => by
  rw [upd_ne (ne_of_none e h)]
  exact e
theorem Sta.push {v : V} {d : D} (h : Sta K F H σ Γ T) (hv : ∀ W, (∀ a, W a → H a ≠ none) → (∀ p ∈ T, TmOk K W H p) → Rp K W H v d) : Sta K F H σ Γ (.v v d :: T) :=
  h.temps fun W wd t p hp => by
    rcases List.mem_cons.mp hp with rfl | hp
    · exact hv W wd t
    · exact t p hp
theorem Gd.re (g : Gd K F W H σ Γ T) (h : ∀ p ∈ T', TmOk K W H p) : Sta K F H σ Γ T' := ⟨W, { g with tmp := h }⟩
theorem Gd.top {p : Tm} (g : Gd K F W H σ Γ (p :: T)) : TmOk K W H p := g.tmp _ List.mem_cons_self
theorem Gd.snd {p q : Tm} (g : Gd K F W H σ Γ (p :: q :: T)) : TmOk K W H q := g.tmp _ (List.mem_cons_of_mem _ List.mem_cons_self)
theorem Gd.tl {p : Tm} (g : Gd K F W H σ Γ (p :: T)) : Gd K F W H σ Γ T := { g with tmp := fun q hq => g.tmp q (List.mem_cons_of_mem _ hq) }
theorem Gd.put {p : Tm} (g : Gd K F W H σ Γ T) (h : TmOk K W H p) : Gd K F W H σ Γ (p :: T) :=
  have k : ∀ q ∈ p :: T, TmOk K W H q := fun q hq => by
    rcases List.mem_cons.mp hq with rfl | hq
    · exact h
    · exact g.tmp q hq
  { g with tmp := k }
theorem Gd.with {p : Tm} (g : Gd K F W H σ Γ T) (h : TmOk K W H p) : Sta K F H σ Γ (p :: T) := g.re fun q hq => by
  rcases List.mem_cons.mp hq with rfl | hq
  · exact h
  · exact g.tmp q hq
/-- the heap has grown -/
theorem Gd.grow (g : Gd K F W H σ Γ T) (hs : Same H H') : Gd K F W H' σ Γ T := by
  have hd : ∀ a, W a → H' a ≠ none := fun a wa z => by
    cases q : H a with
    | none => exact g.dom a wa q
    | some o =>
      rw [hs a o q] at z
      cases z
  exact ⟨fun i s e => let ⟨v, e1, e2⟩ := g.slot i s e; ⟨v, e1, e2.same hs⟩, g.sep, hd, g.sub, g.dom0, g.rsub, fun b o nb e => hs b o (g.keep b o nb e), fun p hp => (g.tmp p hp).same hs, g.len, g.only⟩
/-- flat data need no heap -/
theorem Sta.int {i : Int} (h : Sta K F H σ Γ T) : Sta K F H σ Γ (.v (.int i) (.int i) :: T) := h.push fun _ _ _ => .int i
theorem Sta.bl {i : Bool} (h : Sta K F H σ Γ T) : Sta K F H σ Γ (.v (.bl i) (.bl i) :: T) := h.push fun _ _ _ => .bl i
theorem Sta.str {i : Str} (h : Sta K F H σ Γ T) : Sta K F H σ Γ (.v (.str i) (.str i) :: T) := h.push fun _ _ _ => .str i
theorem Sta.non (h : Sta K F H σ Γ T) : Sta K F H σ Γ (.v .non .non :: T) := h.push fun _ _ _ => .non
/-- a slot's data -/
theorem Sta.var {i : Nat} {d : D} (h : Sta K F H σ Γ T) (e : Γ[i]? = some (some (.im d))) : ∃ v, σ[i]? = some (some v) ∧ Sta K F H σ Γ (.v v d :: T) := by
  obtain ⟨W, g⟩ := h
  obtain ⟨v, e1, e2⟩ := g.slot i _ e
  refine ⟨v, e1, W, { g with tmp := fun p hp => ?_ }⟩
  rcases List.mem_cons.mp hp with rfl | hp
  · exact e2
  · exact g.tmp p hp
theorem only_set {Γ : Env} {i : Nat} {s : Sl} (h : ∀ (i j : Nat) (I : PySem.W.Frag → (Addr → Prop) → Hp → V → List Addr → Prop) (sj : Sl), Γ[i]? = some (some (.g I)) → Γ[j]? = some (some sj) → sj.own → i = j) (ho : s.own → False) (hg : ∀ I, s ≠ .g I) :
    ∀ (k j : Nat) (I : PySem.W.Frag → (Addr → Prop) → Hp → V → List Addr → Prop) (sj : Sl), (Γ.set i (some s))[k]? = some (some (.g I)) → (Γ.set i (some s))[j]? = some (some sj) → sj.own → k = j := fun k j I sj e1 e2 o => by
  have far : ∀ {k : Nat} {t : Sl}, (Γ.set i (some s))[k]? = some (some t) → t ≠ s → i ≠ k := fun {k t} e ne z => by
    subst z
    have hl : i < Γ.length := by
      have z := (List.getElem?_eq_some_iff.mp e).1
      rwa [List.length_set] at z
    rw [List.getElem?_set_self hl] at e
    cases e
    exact ne rfl
  have n1 := far e1 (fun z => hg I z.symm)
  have n2 := far e2 (fun z => ho (z ▸ o))
  rw [List.getElem?_set_ne n1] at e1
  rw [List.getElem?_set_ne n2] at e2
  exact h k j I sj e1 e2 o
/-- data are stored -/
theorem Sta.store {i : Nat} {v : V} {d : D} (h : Sta K F H σ Γ (.v v d :: T)) : Sta K F H (σ.set i (some v)) (Γ.set i (some (.im d))) T := by
  obtain ⟨W, g⟩ := h
  have hv : Rp K W H v d := g.tmp _ List.mem_cons_self
  refine ⟨W, fun j s e => ?_, fun j l sj sl e1 e2 o1 o2 ne => ?_, g.dom, g.sub, g.dom0, g.rsub, g.keep, fun p hp => g.tmp p (List.mem_cons_of_mem _ hp), by rw [List.length_set, List.length_set]; exact g.len, only_set g.only (fun o => o) (fun I z => nomatch z)⟩
  · by_cases hj : i = j
    · subst hj
      have hl : i < Γ.length := by
        have z := (List.getElem?_eq_some_iff.mp e).1
        rwa [List.length_set] at z
      rw [List.getElem?_set_self hl] at e
      cases e
      exact ⟨v, List.getElem?_set_self (by rw [← g.len]; exact hl), hv⟩
    · rw [List.getElem?_set_ne hj] at e ⊢
      exact g.slot j s e
  · have n1 : i ≠ j := fun z => by
      subst z
      have hl : i < Γ.length := by
        have z := (List.getElem?_eq_some_iff.mp e1).1
        rwa [List.length_set] at z
      rw [List.getElem?_set_self hl] at e1
      cases e1
      exact o1
    have n2 : i ≠ l := fun z => by
      subst z
      have hl : i < Γ.length := by
        have z := (List.getElem?_eq_some_iff.mp e2).1
        rwa [List.length_set] at z
      rw [List.getElem?_set_self hl] at e2
      cases e2
      exact o2
    rw [List.getElem?_set_ne n1] at e1 ⊢
    rw [List.getElem?_set_ne n2] at e2 ⊢
    exact g.sep j l sj sl e1 e2 o1 o2 ne
/-- slots forgotten -/
theorem Sta.weak (h : Sta K F H σ Γ T) (hl : Γ'.length = Γ.length) (w : ∀ (i : Nat) (s : Sl), Γ'[i]? = some (some s) → Γ[i]? = some (some s)) : Sta K F H σ Γ' T := by
  obtain ⟨W, g⟩ := h
  exact ⟨W, fun i s e => g.slot i s (w i s e), fun i j si sj e1 e2 => g.sep i j si sj (w i si e1) (w j sj e2), g.dom, g.sub, g.dom0, g.rsub, g.keep, g.tmp, hl.trans g.len, fun i j I sj e1 e2 => g.only i j I sj (w i _ e1) (w j sj e2)⟩
/-! ### what is one's own changes -/
theorem Gd.chg {i : Nat} {a : Addr} {s s' : Sl} (g : Gd K F W H σ Γ T) (hi : Γ[i]? = some (some s)) (ho : s.own) (ho' : s'.own) (hv : σ[i]? = some (some (.ref a))) (wa : W a) (nr : F.R a ∨ F.H0 a = none) (ha : H' a ≠ none)
    (k : ∀ b o, b ≠ a → H b = some o → H' b = some o) (hs : SlOk K F W H' (.ref a) s') (hng : ∀ I, s' ≠ .g I := by intro I z; cases z) (hsg : ∀ I, s ≠ .g I := by intro I z; cases z) : Gd K F W H' σ (Γ.set i (some s')) T := by
  have kp : Kp W W H H' := ⟨fun b o nb e => k b o (fun z => nb (z ▸ wa)) e, fun _ z => .inl z⟩
  have hl : i < Γ.length := (List.getElem?_eq_some_iff.mp hi).1
  refine ⟨fun j t e => ?_, fun j l sj sl e1 e2 o1 o2 ne => ?_, fun b wb z => ?_, g.sub, g.dom0, g.rsub, fun b o nb e => ?_, fun p hp => ?_, by rw [List.length_set]; exact g.len, fun m j I sj e1 e2 oj => ?_⟩
  · by_cases hj : i = j
    · subst hj
      rw [List.getElem?_set_self hl] at e
      cases e
      exact ⟨_, hv, hs⟩
    · rw [List.getElem?_set_ne hj] at e
      obtain ⟨v, e1, e2⟩ := g.slot j t e
      refine ⟨v, e1, ?_⟩
      cases t with
      | im d => exact Rp.keep kp e2
      | ow ds =>
        obtain ⟨l, xs, rfl, wl, fl, hl', hr⟩ := e2
        have ne : l ≠ a := fun z => g.sep i j s _ hi e ho trivial hj (by rw [hv, e1, z])
        exact ⟨l, xs, rfl, wl, fl, k _ _ ne hl', RpL.keep kp hr⟩
      | mu l C gs =>
        obtain ⟨dx, fs, rfl, wl, fl, hl', hr⟩ := e2
        have ne : l ≠ a := fun z => g.sep i j s _ hi e ho trivial hj (by rw [hv, e1, z])
        exact ⟨dx, fs, rfl, wl, fl, k _ _ ne hl', RpF.keep kp hr⟩
      | xc b d gs =>
        obtain ⟨e, fs, q, w, r⟩ := e2
        exact ⟨e, fs, kp.keep _ _ w q, w, RpF.keep kp r⟩
      | g I => exact absurd (g.only j i I s e hi ho).symm hj
  · by_cases hj : i = j
    · subst hj
      rw [List.getElem?_set_ne ne] at e2
      exact g.sep i l s sl hi e2 ho o2 ne
    · rw [List.getElem?_set_ne hj] at e1
      by_cases hl2 : i = l
      · subst hl2
        exact g.sep j i sj s e1 hi o1 ho ne
      · rw [List.getElem?_set_ne hl2] at e2
        exact g.sep j l sj sl e1 e2 o1 o2 ne
  · by_cases e : b = a
    · subst e; exact ha z
    · cases q : H b with
      | none => exact g.dom b wb q
      | some o =>
        rw [k b o e q] at z
        cases z
  · refine k b o (fun z => ?_) (g.keep b o nb e)
    subst z
    rcases nr with r | r
    · exact nb r
    · rw [r] at e; cases e
  · cases p with
    | v v d => exact Rp.keep kp (g.tmp _ hp)
    | l vs ds => exact RpL.keep kp (g.tmp _ hp)
    | x b gs =>
      obtain ⟨fs, e, w, r⟩ := g.tmp _ hp
      exact ⟨fs, kp.keep _ _ w e, w, RpF.keep kp r⟩
  · by_cases hm : i = m
    · subst hm
      rw [List.getElem?_set_self hl] at e1
      cases e1
      exact absurd rfl (hng I)
    · rw [List.getElem?_set_ne hm] at e1
      exact absurd (g.only m i I s e1 hi ho).symm hm
/-- no thing of many places -/
def noG (Γ : Env) : Bool := Γ.all fun
  | some (.g _) => false
  | _ => true
theorem noG_of {Γ : Env} (h : noG Γ = true) {j : Nat} {I : PySem.W.Frag → (Addr → Prop) → Hp → V → List Addr → Prop} : Γ[j]? ≠ some (some (.g I)) := fun e => by
  have := List.all_eq_true.mp h _ (List.mem_of_getElem? e)
  cases this
/-- nothing of the entry stood at a fresh place -/
theorem Gd.fresh0 {p : Addr} (g : Gd K F W H σ Γ T) (hp : H p = none) : F.H0 p = none := by
  cases e : F.H0 p with
  | none => rfl
  | some o =>
    by_cases r : F.R p
    · exact absurd hp (g.dom p (g.sub p (g.rsub p r)))
    · rw [g.keep p o r e] at hp; cases hp
/-- a new thing of one's own, stored -/
theorem Gd.owned {i : Nat} {p : Addr} {o : HO} {s : Sl} (g : Gd K F W H σ Γ T) (hp : H p = none) (hi : i < Γ.length) (hs : SlOk K F (fun a => W a ∨ a = p) (upd H p o) (.ref p) s) (hng : noG Γ = true) (hsg : ∀ I, s ≠ .g I := by intro I z; cases z) : Gd K F (fun a => W a ∨ a = p) (upd H p o) (σ.set i (some (.ref p))) (Γ.set i (some s)) T := by
  have kp : Kp W (fun a => W a ∨ a = p) H (upd H p o) := ⟨fun b u _ e => same_new hp b u e, fun a z => z.elim .inl fun e => .inr (e ▸ hp)⟩
  have hiσ : i < σ.length := by rw [← g.len]; exact hi
  refine ⟨fun j t e => ?_, fun j l sj sl e1 e2 o1 o2 ne => ?_, fun b wb z => ?_, fun a wa => .inl (g.sub a wa), g.dom0, g.rsub, fun b u nb e => same_new hp b u (g.keep b u nb e), fun q hq => ?_, by rw [List.length_set, List.length_set]; exact g.len, fun m j I sj e1 e2 oj => ?_⟩
  · by_cases hj : i = j
    · subst hj
      rw [List.getElem?_set_self hi] at e
      cases e
      exact ⟨_, List.getElem?_set_self hiσ, hs⟩
    · rw [List.getElem?_set_ne hj] at e ⊢
      obtain ⟨v, e1, e2⟩ := g.slot j t e
      refine ⟨v, e1, ?_⟩
      cases t with
      | im d => exact Rp.keep kp e2
      | ow ds =>
        obtain ⟨l, xs, rfl, wl, fl, hl', hr⟩ := e2
        exact ⟨l, xs, rfl, .inl wl, fl, same_new hp _ _ hl', RpL.keep kp hr⟩
      | mu l C gs =>
        obtain ⟨dx, fs, rfl, wl, fl, hl', hr⟩ := e2
        exact ⟨dx, fs, rfl, .inl wl, fl, same_new hp _ _ hl', RpF.keep kp hr⟩
      | xc b d gs =>
        obtain ⟨e, fs, q, w, r⟩ := e2
        refine ⟨e, fs, same_new hp _ _ q, fun z => ?_, RpF.keep kp r⟩
        rcases z with z | z
        · exact w z
        · rw [z, hp] at q; cases q
      | g I => exact absurd e (noG_of hng)
  · have old : ∀ (j : Nat) (sj : Sl), Γ[j]? = some (some sj) → sj.own → σ[j]? ≠ some (some (.ref p)) := fun j sj e o1 z => by
      obtain ⟨v, e1, e2⟩ := g.slot j sj e
      rw [z] at e1
      cases e1
      cases sj with
      | im d => exact o1
      | xc b d gs => exact o1
      | g I => exact absurd e (noG_of hng)
      | ow ds =>
        obtain ⟨l, xs, e, wl, _, hl', _⟩ := e2
        cases e
        rw [hp] at hl'; cases hl'
      | mu l C gs =>
        obtain ⟨dx, fs, e, wl, _, hl', _⟩ := e2
        cases e
        rw [hp] at hl'; cases hl'
    by_cases hj : i = j
    · subst hj
      rw [List.getElem?_set_ne ne] at e2
      rw [List.getElem?_set_self hiσ, List.getElem?_set_ne ne]
      exact fun z => old l sl e2 o2 z.symm
    · rw [List.getElem?_set_ne hj] at e1 ⊢
      by_cases hl2 : i = l
      · subst hl2
        rw [List.getElem?_set_self hiσ]
        exact old j sj e1 o1
      · rw [List.getElem?_set_ne hl2] at e2 ⊢
        exact g.sep j l sj sl e1 e2 o1 o2 ne
  · rcases wb with wb | rfl
    · cases q : H b with
      | none => exact g.dom b wb q
      | some u =>
        rw [same_new hp b u q] at z
        cases z
    · rw [upd_same] at z; cases z
  · cases q with
    | v v d => exact Rp.keep kp (g.tmp _ hq)
    | l vs ds => exact RpL.keep kp (g.tmp _ hq)
    | x b gs =>
      obtain ⟨fs, e, w, r⟩ := g.tmp _ hq
      refine ⟨fs, same_new hp _ _ e, fun z => ?_, RpF.keep kp r⟩
      rcases z with z | z
      · exact w z
      · rw [z, hp] at e; cases e
  · by_cases hm : i = m
    · subst hm
      rw [List.getElem?_set_self hi] at e1
      cases e1
      exact absurd rfl (hsg I)
    · rw [List.getElem?_set_ne hm] at e1
      exact absurd e1 (noG_of hng)
/-- a list of one's own becomes plain data -/
theorem Gd.freeze {i : Nat} {ds : List D} (g : Gd K F W H σ Γ T) (hi : Γ[i]? = some (some (.ow ds))) : Sta K F H σ (Γ.set i (some (.im (.lst ds)))) T := by
  obtain ⟨v, hv, l, xs, rfl, wl, fl, hl, hr⟩ := g.slot i _ hi
  have kp : Kp W (fun a => W a ∧ a ≠ l) H H := ⟨fun _ _ _ e => e, fun a z => .inl z.1⟩
  have hlt : i < Γ.length := (List.getElem?_eq_some_iff.mp hi).1
  refine ⟨fun a => W a ∧ a ≠ l, fun j t e => ?_, fun j m sj sl e1 e2 o1 o2 ne => ?_, fun a z => g.dom a z.1, fun a z => ⟨g.sub a z, fun e => g.dom0 a z (e ▸ fl)⟩, g.dom0, g.rsub, g.keep, fun p hp => ?_, by rw [List.length_set]; exact g.len, only_set g.only (fun o => o) (fun I z => nomatch z)⟩
  · by_cases hj : i = j
    · subst hj
      rw [List.getElem?_set_self hlt] at e
      cases e
      exact ⟨_, hv, .lst hl (fun z => z.2 rfl) (RpL.keep kp hr)⟩
    · rw [List.getElem?_set_ne hj] at e
      obtain ⟨v, e1, e2⟩ := g.slot j t e
      refine ⟨v, e1, ?_⟩
      cases t with
      | im d => exact Rp.keep kp e2
      | ow ds =>
        obtain ⟨m, xs, rfl, wm, fm, hm, hr⟩ := e2
        exact ⟨m, xs, rfl, ⟨wm, fun z => g.sep i j _ _ hi e trivial trivial hj (by rw [hv, e1, z])⟩, fm, hm, RpL.keep kp hr⟩
      | mu m C gs =>
        obtain ⟨dx, fs, rfl, wm, fm, hm, hr⟩ := e2
        exact ⟨dx, fs, rfl, ⟨wm, fun z => g.sep i j _ _ hi e trivial trivial hj (by rw [hv, e1, z])⟩, fm, hm, RpF.keep kp hr⟩
      | xc b d gs =>
        obtain ⟨e, fs, q, w, r⟩ := e2
        exact ⟨e, fs, q, fun z => w z.1, RpF.keep kp r⟩
      | g I => exact absurd (g.only j i I _ e hi trivial).symm hj
  · have n1 : i ≠ j := fun z => by
      subst z
      rw [List.getElem?_set_self hlt] at e1
      cases e1
      exact o1
    have n2 : i ≠ m := fun z => by
      subst z
      rw [List.getElem?_set_self hlt] at e2
      cases e2
      exact o2
    rw [List.getElem?_set_ne n1] at e1
    rw [List.getElem?_set_ne n2] at e2
    exact g.sep j m sj sl e1 e2 o1 o2 ne
  · cases p with
    | v v d => exact Rp.keep kp (g.tmp _ hp)
    | l vs ds => exact RpL.keep kp (g.tmp _ hp)
    | x b gs =>
      obtain ⟨fs, e, w, r⟩ := g.tmp _ hp
      exact ⟨fs, e, fun z => w z.1, RpF.keep kp r⟩
end
end Sd

set_option exponentiation.threshold 256
set_option Elab.async false
set_option linter.all false
set_option maxRecDepth 100000
set_option maxHeartbeats 4000000
namespace Sd
open PySem PySem.Spec PyProof.Rows L2
/-! ## What a piece of text means: the weakest that must hold -/
def SemE (X : Cx) (e : Expr) : TE := fun σ H Q => ∀ (pins : List (Addr × Obj)) (s : Shared), Inv X pins σ H s → wpAny (model X.prog X.w) X.A (eval e X.env) (EP X pins σ Q) X.xe s
def SemT (X : Cx) (e : Expr) : TT := fun σ H Q => ∀ (pins : List (Addr × Obj)) (s : Shared), Inv X pins σ H s → wpAny (model X.prog X.w) X.A (isTrue e X.env (eval e X.env)) (TP X pins σ Q) X.xe s
def SemW (X : Cx) (e : Expr) : TT := fun σ H Q => ∀ (whole : Sem Value) (pins : List (Addr × Obj)) (s : Shared), Inv X pins σ H s → wpAny (model X.prog X.w) X.A (isTrue e X.env whole) (TP X pins σ Q) X.xe s
def SemA (X : Cx) (es : List Expr) : TA := fun σ H Q => ∀ (pos : Pos) (pins : List (Addr × Obj)) (s : Shared), Inv X pins σ H s → wpAny (model X.prog X.w) X.A (spliced (backTo pos (starEach es X.env))) (AP X pins σ Q) X.xe s
def SemS (X : Cx) (st : Stmt) : TS := fun D σ H => ∀ (pins : List (Addr × Obj)) (s : Shared), Inv X pins σ H s → wpAny (model X.prog X.w) X.A (exec st X.env) (SP X pins D) X.xe s
def SemSs (X : Cx) (st : List Stmt) : TS := fun D σ H => ∀ (pins : List (Addr × Obj)) (s : Shared), Inv X pins σ H s → wpAny (model X.prog X.w) X.A (execs st X.env) (SP X pins D) X.xe s
def SemO (X : Cx) (f : Value → Value → Sem Value) : R2 := fun x y H Q => ∀ (pins : List (Addr × Obj)) (s : Shared) (σ : L2.St) (v u : Value), Inv X pins σ H s → RelV x v → RelV y u → wpAny (model X.prog X.w) X.A (f v u) (EP X pins σ Q) X.xe s
def SemC (X : Cx) (f : Value) : List V → Hp → VK → Prop := fun xs H Q => ∀ (pins : List (Addr × Obj)) (s : Shared) (σ : L2.St) (us : List Value), Inv X pins σ H s → Vals xs us → wpAny (model X.prog X.w) X.A (call f us) (EP X pins σ Q) X.xe s
section
variable {X : Cx} {e : Expr} {es : List Expr} {st : Stmt} {sts : List Stmt} {σ : L2.St} {H : Hp}
theorem semE : PE X e (SemE X e) := ⟨fun pins s _ _ _ I h => h pins s I⟩
theorem SemE.of {t : TE} {Q : VK} (h : PE X e t) (q : t σ H Q) : SemE X e σ H Q := fun pins s I => h.run pins s σ H Q I q
theorem semT : PT X e (SemT X e) := ⟨fun pins s _ _ _ I h => h pins s I⟩
theorem SemT.of {t : TT} {Q : Bool → Hp → Prop} (h : PT X e t) (q : t σ H Q) : SemT X e σ H Q := fun pins s I => h.run pins s σ H Q I q
theorem semW : PW X e (SemW X e) := ⟨fun w pins s _ _ _ I h => h w pins s I⟩
theorem SemW.of {t : TT} {Q : Bool → Hp → Prop} (h : PW X e t) (q : t σ H Q) : SemW X e σ H Q := fun w pins s I => h.run w pins s σ H Q I q
theorem semA : PA X es (SemA X es) := ⟨fun pos pins s _ _ _ I h => h pos pins s I⟩
theorem SemA.of {t : TA} {Q : List V → Hp → Prop} (h : PA X es t) (q : t σ H Q) : SemA X es σ H Q := fun pos pins s I => h.run pos pins s σ H Q I q
theorem semS : PS X st (SemS X st) := ⟨fun pins s _ _ _ I h => h pins s I⟩
theorem SemS.of {t : TS} {D : Ends} (h : PS X st t) (q : t D σ H) : SemS X st D σ H := fun pins s I => h.run pins s σ H D I q
theorem semSs : PSs X sts (SemSs X sts) := ⟨fun pins s _ _ _ I h => h pins s I⟩
theorem SemSs.of {t : TS} {D : Ends} (h : PSs X sts t) (q : t D σ H) : SemSs X sts D σ H := fun pins s I => h.run pins s σ H D I q
theorem semO {f : Value → Value → Sem Value} : OpR X f (SemO X f) := fun pins s σ _ _ _ v u _ I rx ry h => h pins s σ v u I rx ry
theorem SemO.of {f : Value → Value → Sem Value} {r : R2} {x y : V} {Q : VK} (h : OpR X f r) (q : r x y H Q) : SemO X f x y H Q := fun pins s σ v u I rx ry => h pins s σ H x y v u Q I rx ry q
theorem semC {f : Value} : CallR X f (SemC X f) := fun pins s σ _ _ us _ I r h => h pins s σ us I r
theorem SemC.of {f : Value} {r : List V → Hp → VK → Prop} {xs : List V} {Q : VK} (h : CallR X f r) (q : r xs H Q) : SemC X f xs H Q := fun pins s σ us I rr => h pins s σ H xs us Q I rr q
theorem SemE.imp {Q Q' : VK} (h : SemE X e σ H Q) (k : ∀ v H', Q v H' → Q' v H') : SemE X e σ H Q' := fun pins s I => thn (h pins s I) fun _ _ ⟨v, H', I', r, q⟩ => ⟨v, H', I', r, k v H' q⟩
end
/-! ## The context of a body -/
structure Bx where
  X : Cx
  F : Frame
  Wx : WX
  k : Nat
  cx : CXT
  pass : ∀ σ, PassesAt cx X σ (WE Wx σ)
  cx0 : ∀ l H s e s', ¬ cx l H s E0 e s'
  hot : Bool
  rz : Bool
  calm : hot = false → X.calm = true
  hd : hot = false → X.A.handled = none
  roomH : L2H.RoomH k X.A
  nd : X.N.Nodup
  po : hot = false → rz = true → PassesOwn (model X.prog X.w) X.A X.env X.xe
  tk : rz = true → L2N.Takes X Wx
theorem Bx.room (B : Bx) (h : B.hot = false) : Room B.k B.X.A := ⟨B.hd h, B.roomH.dp, B.roomH.un⟩
theorem Bx.un65 (B : Bx) : B.X.A.units + 65 < cLine := by have := B.roomH.un; omega
theorem Bx.un64 (B : Bx) : B.X.A.units + 64 < cLine := by have := B.roomH.un; omega
theorem Bx.pass0 (B : Bx) : Passes B.cx B.X E0 := fun _ _ _ _ _ _ _ h => absurd h (B.cx0 _ _ _ _ _)
abbrev Bx.St (B : Bx) (H : Hp) (σ : L2.St) (Γ : Env) (T : List Tm) : Prop := Sta B.X.K B.F H σ Γ T
abbrev RE := D → Env → Prop
abbrev XP := Addr → List (Str × D) → Env → Prop
def noX : XP := fun _ _ _ => False
/-- what is wanted of an error -/
def Bx.Ex (B : Bx) (σ : L2.St) (T : List Tm) (Xp : XP) : Prop := ∀ C gs a H Γ, Xp C gs Γ → B.St H σ Γ (.x a gs :: T) → B.Wx (.ref C) (some a) σ H
theorem Bx.Ex.no {B : Bx} {σ : L2.St} {T : List Tm} : B.Ex σ T noX := fun _ _ _ _ _ h => h.elim
theorem Bx.Ex.sub {B : Bx} {σ : L2.St} {T T' : List Tm} {Xp : XP} (h : B.Ex σ T Xp) (k : ∀ p ∈ T, p ∈ T') : B.Ex σ T' Xp := fun C gs a H Γ x s =>
  h C gs a H Γ x (s.sub fun p hp => by
    rcases List.mem_cons.mp hp with rfl | hp
    · exact List.mem_cons_self
    · exact List.mem_cons_of_mem _ (k p hp))
theorem Bx.Ex.cons {B : Bx} {σ : L2.St} {T : List Tm} {p : Tm} {Xp : XP} (h : B.Ex σ T Xp) : B.Ex σ (p :: T) Xp := h.sub fun _ hq => List.mem_cons_of_mem _ hq
def EW (B : Bx) (e : Expr) (Γ : Env) (R : RE) (Xp : XP) : Prop :=
  ∀ T σ H Q, B.St H σ Γ T → (∀ v d H' Γ', R d Γ' → B.St H' σ Γ' (.v v d :: T) → Q v H') → B.Ex σ T Xp → SemE B.X e σ H Q
def TW (B : Bx) (e : Expr) (Γ : Env) (R : Bool → Env → Prop) (Xp : XP) : Prop :=
  ∀ T σ H Q, B.St H σ Γ T → (∀ b H' Γ', R b Γ' → B.St H' σ Γ' T → Q b H') → B.Ex σ T Xp → SemT B.X e σ H Q
def WW (B : Bx) (e : Expr) (Γ : Env) (R : Bool → Env → Prop) (Xp : XP) : Prop :=
  ∀ T σ H Q, B.St H σ Γ T → (∀ b H' Γ', R b Γ' → B.St H' σ Γ' T → Q b H') → B.Ex σ T Xp → SemW B.X e σ H Q
def AW (B : Bx) (es : List Expr) (Γ : Env) (R : List D → Env → Prop) (Xp : XP) : Prop :=
  ∀ T σ H Q, B.St H σ Γ T → (∀ vs ds H' Γ', R ds Γ' → vs.length = es.length → B.St H' σ Γ' (.l vs ds :: T) → Q vs H') → B.Ex σ T Xp → SemA B.X es σ H Q
def DE (B : Bx) (e : Expr) (Γ : Env) (d : D) : Prop := EW B e Γ (fun d' Γ' => d' = d ∧ Γ' = Γ) noX
def TD (B : Bx) (e : Expr) (Γ : Env) (b : Bool) : Prop := TW B e Γ (fun b' Γ' => b' = b ∧ Γ' = Γ) noX
def WD (B : Bx) (e : Expr) (Γ : Env) (b : Bool) : Prop := WW B e Γ (fun b' Γ' => b' = b ∧ Γ' = Γ) noX
def DEs (B : Bx) (es : List Expr) (Γ : Env) (ds : List D) : Prop := AW B es Γ (fun ds' Γ' => ds' = ds ∧ Γ' = Γ) noX
/-- an operator, a call, on data -/
def OW (B : Bx) (f : Value → Value → Sem Value) (x y : D) (R : D → Prop) : Prop :=
  ∀ T σ Γ v w H Q, B.St H σ Γ (.v w y :: .v v x :: T) → (∀ z d H', R d → B.St H' σ Γ (.v z d :: T) → Q z H') → SemO B.X f v w H Q
def OD (B : Bx) (f : Value → Value → Sem Value) (x y z : D) : Prop := OW B f x y fun d => d = z
def CW (B : Bx) (f : Value) (ds : List D) (R : D → Prop) : Prop :=
  ∀ T σ Γ vs H Q, B.St H σ Γ (.l vs ds :: T) → (∀ z d H', R d → B.St H' σ Γ (.v z d :: T) → Q z H') → SemC B.X f vs H Q
def CD (B : Bx) (f : Value) (ds : List D) (z : D) : Prop := CW B f ds fun d => d = z
section
variable {B : Bx} {e a b c : Expr} {es : List Expr} {Γ : Env} {R R' : RE} {Xp Xp' : XP} {d x y z : D} {ds : List D} {pos : Pos} {k l : Bool}
theorem EW.imp (h : EW B e Γ R Xp) (k : ∀ d Γ', R d Γ' → R' d Γ') (kx : ∀ C gs Γ', Xp C gs Γ' → Xp' C gs Γ') : EW B e Γ R' Xp' := fun T σ H Q s q x =>
  h T σ H Q s (fun v d H' Γ' r => q v d H' Γ' (k d Γ' r)) fun C gs a H' Γ' r => x C gs a H' Γ' (kx C gs Γ' r)
theorem ew_pure (h : DE B e Γ d) (r : R d Γ) : EW B e Γ R Xp := EW.imp h (fun _ _ ⟨e1, e2⟩ => by subst e1 e2; exact r) fun _ _ _ z => z.elim
theorem tw_pure {R : Bool → Env → Prop} (h : TD B e Γ k) (r : R k Γ) : TW B e Γ R Xp := fun T σ H Q s q _ =>
  h T σ H Q s (fun v H' Γ' ⟨e1, e2⟩ => by subst e1 e2; exact q _ _ _ r) .no
theorem aw_pure {R : List D → Env → Prop} (h : DEs B es Γ ds) (r : R ds Γ) : AW B es Γ R Xp := fun T σ H Q s q _ =>
  h T σ H Q s (fun v d H' Γ' ⟨e1, e2⟩ => by subst e1 e2; exact q _ _ _ _ r) .no
theorem de_is (h : DE B e Γ x) (q : x = y) : DE B e Γ y := q ▸ h
theorem td_is (h : TD B e Γ k) (q : k = l) : TD B e Γ l := q ▸ h
/-- a pure step: the heap may grow -/
theorem de_of (h : ∀ T σ H Q, B.St H σ Γ T → (∀ v H', B.St H' σ Γ (.v v d :: T) → Q v H') → SemE B.X e σ H Q) : DE B e Γ d := fun T σ H Q s q _ =>
  h T σ H Q s fun v H' s' => q v d H' Γ ⟨rfl, rfl⟩ s'
theorem DE.run (h : DE B e Γ d) {T : List Tm} {σ : L2.St} {H : Hp} {Q : VK} (s : B.St H σ Γ T) (q : ∀ v H', B.St H' σ Γ (.v v d :: T) → Q v H') : SemE B.X e σ H Q :=
  h T σ H Q s (fun v d' H' Γ' ⟨e1, e2⟩ s' => by subst e1 e2; exact q v H' s') .no
theorem td_of (h : ∀ T σ H Q, B.St H σ Γ T → (∀ H', B.St H' σ Γ T → Q k H') → SemT B.X e σ H Q) : TD B e Γ k := fun T σ H Q s q _ =>
  h T σ H Q s fun H' s' => q k H' Γ ⟨rfl, rfl⟩ s'
theorem TD.run (h : TD B e Γ k) {T : List Tm} {σ : L2.St} {H : Hp} {Q : Bool → Hp → Prop} (s : B.St H σ Γ T) (q : ∀ H', B.St H' σ Γ T → Q k H') : SemT B.X e σ H Q :=
  h T σ H Q s (fun v H' Γ' ⟨e1, e2⟩ s' => by subst e1 e2; exact q H' s') .no
theorem wd_of (h : ∀ T σ H Q, B.St H σ Γ T → (∀ H', B.St H' σ Γ T → Q k H') → SemW B.X e σ H Q) : WD B e Γ k := fun T σ H Q s q _ =>
  h T σ H Q s fun H' s' => q k H' Γ ⟨rfl, rfl⟩ s'
theorem WD.run (h : WD B e Γ k) {T : List Tm} {σ : L2.St} {H : Hp} {Q : Bool → Hp → Prop} (s : B.St H σ Γ T) (q : ∀ H', B.St H' σ Γ T → Q k H') : SemW B.X e σ H Q :=
  h T σ H Q s (fun v H' Γ' ⟨e1, e2⟩ s' => by subst e1 e2; exact q H' s') .no
theorem DEs.run (h : DEs B es Γ ds) {T : List Tm} {σ : L2.St} {H : Hp} {Q : List V → Hp → Prop} (s : B.St H σ Γ T) (q : ∀ vs H', vs.length = es.length → B.St H' σ Γ (.l vs ds :: T) → Q vs H') : SemA B.X es σ H Q :=
  h T σ H Q s (fun v d' H' Γ' ⟨e1, e2⟩ l s' => by subst e1 e2; exact q v H' l s') .no

/-! ## Names, constants -/
theorem de_var (i : Nat) {n : Str} (h : Γ[i]? = some (some (.im d)) := by rfl) (hN : B.X.N[i]? = some n := by rfl) (hv : Vis B.X.env.scope n := by first | exact Or.inl rfl | exact Or.inr (Or.inl rfl) | exact Or.inr (Or.inr rfl))
    (hd : (n == ("__debug__" : Str)) = false := by decide) (hc : (n == ("__classdict__" : Str)) = false := by decide) : DE B (.Name n pos) Γ d :=
  de_of fun T σ H Q s q => by
    obtain ⟨v, e, s'⟩ := s.var h
    exact SemE.of (pe_var hN hv hd hc) ⟨v, e, q v H s'⟩
theorem de_int {i : Int} {j : Nat} : DE B (.Constant (.int i) j pos) Γ (.int i) := de_of fun T σ H Q s q => SemE.of pe_int (q _ H s.int)
theorem de_bl {i : Bool} {j : Nat} : DE B (.Constant (.bool i) j pos) Γ (.bl i) := de_of fun T σ H Q s q => SemE.of pe_bl (q _ H s.bl)
theorem de_str {i : Str} {j : Nat} : DE B (.Constant (.str i) j pos) Γ (.str i) := de_of fun T σ H Q s q => SemE.of pe_str (q _ H s.str)
theorem de_non {j : Nat} : DE B (.Constant .none j pos) Γ .non := de_of fun T σ H Q s q => SemE.of pe_non (q _ H s.non)
theorem de_gint {n : Str} {i : Int} {t : Tok} (hm : B.X.mg n = some (.int i t)) (hg : Gl B.X n := by rfl) (hd : (n == ("__debug__" : Str)) = false := by decide) : DE B (.Name n pos) Γ (.int i) :=
  de_of fun T σ H Q s q => SemE.of (pe_glob (v := .int i) hg hm ⟨t, rfl⟩ hd) (q _ H s.int)
theorem de_gstr {n : Str} {i : Str} {t : Tok} (hm : B.X.mg n = some (.str i t)) (hg : Gl B.X n := by rfl) (hd : (n == ("__debug__" : Str)) = false := by decide) : DE B (.Name n pos) Γ (.str i) :=
  de_of fun T σ H Q s q => SemE.of (pe_glob (v := .str i) hg hm ⟨t, rfl⟩ hd) (q _ H s.str)
/-- a tuple of the written part -/
theorem de_gtup {n : Str} {l : Addr} (hm : B.X.mg n = some (.ref l)) (hw : ∀ W H, Rp B.X.K W H (.ref l) d) (hg : Gl B.X n := by rfl) (hd : (n == ("__debug__" : Str)) = false := by decide) : DE B (.Name n pos) Γ d :=
  de_of fun T σ H Q s q => SemE.of (pe_glob (v := .ref l) hg hm rfl hd) (q _ H (s.push fun W _ _ => hw W H))

/-! ## Operators -/
theorem ew_op {op : Operator} (h : EW B a Γ (fun x Γ1 => EW B b Γ1 (fun y Γ2 => OW B (binaryOp op) x y fun z => R z Γ2) Xp) Xp) : EW B (.BinOp a op b pos) Γ R Xp := fun T σ H Q s q x =>
  SemE.of (pe_op semO semE semE) (h T σ H _ s (fun v d H1 Γ1 h1 s1 => h1 _ σ H1 _ s1 (fun w d' H2 Γ2 h2 s2 => h2 T σ Γ2 v w H2 Q s2 fun z d'' H3 r s3 => q z d'' H3 Γ2 r s3) x.cons) x)
theorem de_op {op : Operator} (ha : DE B a Γ x) (hb : DE B b Γ y) (ho : OD B (binaryOp op) x y z) : DE B (.BinOp a op b pos) Γ z :=
  ew_op (ew_pure ha (ew_pure hb fun T σ Γ' v w H Q s q => ho T σ Γ' v w H Q s fun z' d H' e s' => q z' d H' ⟨e, rfl⟩ s'))
theorem ew_cmp {op : CmpOp} (h : EW B a Γ (fun x Γ1 => EW B b Γ1 (fun y Γ2 => OW B (compareOp op) x y fun z => R z Γ2) Xp) Xp) (hm : behindInMarks op b = false := by first | exact nomark _ | rfl) : EW B (.Compare a [op] [b] pos) Γ R Xp := fun T σ H Q s q x =>
  SemE.of (pe_cmpR semO semE semE hm) (h T σ H _ s (fun v d H1 Γ1 h1 s1 => h1 _ σ H1 _ s1 (fun w d' H2 Γ2 h2 s2 => h2 T σ Γ2 v w H2 Q s2 fun z d'' H3 r s3 => q z d'' H3 Γ2 r s3) x.cons) x)
theorem de_cmp {op : CmpOp} (ha : DE B a Γ x) (hb : DE B b Γ y) (ho : OD B (compareOp op) x y z) (hm : behindInMarks op b = false := by first | exact nomark _ | rfl) : DE B (.Compare a [op] [b] pos) Γ z :=
  ew_cmp (ew_pure ha (ew_pure hb fun T σ Γ' v w H Q s q => ho T σ Γ' v w H Q s fun z' d H' e s' => q z' d H' ⟨e, rfl⟩ s')) hm
theorem tw_cmp {R : Bool → Env → Prop} {op : CmpOp} (h : EW B a Γ (fun x Γ1 => EW B b Γ1 (fun y Γ2 => OW B (compareOp op) x y fun z => ∃ k, z = .bl k ∧ R k Γ2) Xp) Xp) (hm : behindInMarks op b = false := by first | exact nomark _ | rfl) : TW B (.Compare a [op] [b] pos) Γ R Xp := fun T σ H Q s q x =>
  SemT.of (pt_cmpR semO semE semE hm) (h T σ H _ s (fun v d H1 Γ1 h1 s1 => h1 _ σ H1 _ s1 (fun w d' H2 Γ2 h2 s2 => h2 T σ Γ2 v w H2 _ s2 fun z d'' H3 ⟨k, e, r⟩ s3 => by
    subst e
    obtain ⟨W, _, hr⟩ := s3.head
    cases hr
    exact ⟨k, rfl, q k H3 Γ2 r s3.tail⟩) x.cons) x)
theorem td_cmp {op : CmpOp} (ha : DE B a Γ x) (hb : DE B b Γ y) (ho : OD B (compareOp op) x y (.bl k)) (hm : behindInMarks op b = false := by first | exact nomark _ | rfl) : TD B (.Compare a [op] [b] pos) Γ k :=
  tw_cmp (ew_pure ha (ew_pure hb fun T σ Γ' v w H Q s q => ho T σ Γ' v w H Q s fun z' d H' e s' => q z' d H' ⟨k, e, rfl, rfl⟩ s')) hm
theorem tw_val {R : Bool → Env → Prop} (h : EW B e Γ (fun x Γ1 => ∃ k, x = .bl k ∧ R k Γ1) Xp) (he : ∀ whole, isTrue e B.X.env whole = (do let v ← whole; standAt e.pos; holding [v] (truthy v)) := by intro _; rfl) : TW B e Γ R Xp := fun T σ H Q s q x =>
  SemT.of (pt_val semE he) (h T σ H _ s (fun v d H1 Γ1 ⟨k, e1, r⟩ s1 => by
    subst e1
    obtain ⟨W, _, hr⟩ := s1.head
    cases hr
    exact ⟨k, rfl, q k H1 Γ1 r s1.tail⟩) x)
theorem td_val (h : DE B e Γ (.bl k)) (he : ∀ whole, isTrue e B.X.env whole = (do let v ← whole; standAt e.pos; holding [v] (truthy v)) := by intro _; rfl) : TD B e Γ k := tw_val (ew_pure h ⟨k, rfl, rfl, rfl⟩) he
/-! tests in a row -/
section
variable {R : Bool → Env → Prop} {rest : List Expr}
theorem tw_chain (h : WW B e Γ R Xp) : TW B e Γ R Xp := fun T σ H Q s q x => SemT.of semW.pt (h T σ H Q s q x)
theorem ww_and1 (h : TW B a Γ R Xp) : WW B (.BoolOp .And [a] pos) Γ R Xp := fun T σ H Q s q x => SemW.of (pw_and1 semT) (h T σ H Q s q x)
theorem ww_or1 (h : TW B a Γ R Xp) : WW B (.BoolOp .Or [a] pos) Γ R Xp := fun T σ H Q s q x => SemW.of (pw_or1 semT) (h T σ H Q s q x)
theorem ww_and (h : TW B a Γ (fun k Γ1 => (k = true → WW B (.BoolOp .And (b :: rest) pos) Γ1 R Xp) ∧ (k = false → R false Γ1)) Xp) : WW B (.BoolOp .And (a :: b :: rest) pos) Γ R Xp := fun T σ H Q s q x =>
  SemW.of (pw_and semT semW) (h T σ H _ s (fun k H1 Γ1 ⟨h1, h2⟩ s1 => by
    cases k with
    | true =>
      rw [if_pos rfl]
      exact h1 rfl T σ H1 Q s1 q x
    | false =>
      rw [if_neg Bool.false_ne_true]
      exact q false H1 Γ1 (h2 rfl) s1) x)
theorem ww_or (h : TW B a Γ (fun k Γ1 => (k = true → R true Γ1) ∧ (k = false → WW B (.BoolOp .Or (b :: rest) pos) Γ1 R Xp)) Xp) : WW B (.BoolOp .Or (a :: b :: rest) pos) Γ R Xp := fun T σ H Q s q x =>
  SemW.of (pw_or semT semW) (h T σ H _ s (fun k H1 Γ1 ⟨h1, h2⟩ s1 => by
    cases k with
    | true =>
      rw [if_pos rfl]
      exact q true H1 Γ1 (h1 rfl) s1
    | false =>
      rw [if_neg Bool.false_ne_true]
      exact h2 rfl T σ H1 Q s1 q x) x)
theorem ww_pure (h : WD B e Γ k) (r : R k Γ) : WW B e Γ R Xp := fun T σ H Q s q _ => h.run s fun H' s' => q k H' Γ r s'
end
section
variable {rest : List Expr}
theorem td_chain (h : WD B e Γ k) : TD B e Γ k := tw_chain h
theorem wd_and1 (h : TD B a Γ k) : WD B (.BoolOp .And [a] pos) Γ k := ww_and1 h
theorem wd_or1 (h : TD B a Γ k) : WD B (.BoolOp .Or [a] pos) Γ k := ww_or1 h
theorem wd_and (h : TD B a Γ k) (h2 : k = true → WD B (.BoolOp .And (b :: rest) pos) Γ l) : WD B (.BoolOp .And (a :: b :: rest) pos) Γ (k && l) :=
  ww_and (tw_pure h ⟨fun e => ww_pure (h2 e) ⟨by rw [e]; rfl, rfl⟩, fun e => ⟨by rw [e]; rfl, rfl⟩⟩)
theorem wd_or (h : TD B a Γ k) (h2 : k = false → WD B (.BoolOp .Or (b :: rest) pos) Γ l) : WD B (.BoolOp .Or (a :: b :: rest) pos) Γ (k || l) :=
  ww_or (tw_pure h ⟨fun e => ⟨by rw [e]; rfl, rfl⟩, fun e => ww_pure (h2 e) ⟨by rw [e]; rfl, rfl⟩⟩)
end
theorem tw_not {R : Bool → Env → Prop} (h : TW B a Γ (fun k Γ1 => R (!k) Γ1) Xp) : TW B (.UnaryOp .Not a pos) Γ R Xp := fun T σ H Q s q x =>
  SemT.of (pt_not semT) (h T σ H _ s (fun k H1 Γ1 r s1 => q (!k) H1 Γ1 r s1) x)
theorem td_not (h : TD B a Γ k) : TD B (.UnaryOp .Not a pos) Γ (!k) := tw_not (tw_pure h ⟨rfl, rfl⟩)
/-! truth values as values -/
section
variable {rest : List Expr}
theorem ew_one {op : PySem.BoolOp} (h : EW B a Γ R Xp) : EW B (.BoolOp op [a] pos) Γ R Xp := fun T σ H Q s q x => SemE.of (pe_one semE) (h T σ H Q s q x)
theorem ew_and (h : EW B a Γ (fun x Γ1 => ∃ k, x = .bl k ∧ (k = true → EW B (.BoolOp .And (b :: rest) pos) Γ1 R Xp) ∧ (k = false → R (.bl false) Γ1)) Xp) : EW B (.BoolOp .And (a :: b :: rest) pos) Γ R Xp := fun T σ H Q s q x =>
  SemE.of (pe_and semE semE) (h T σ H _ s (fun v d H1 Γ1 ⟨k, e, h1, h2⟩ s1 => by
    subst e
    obtain ⟨W, _, hr⟩ := s1.head
    cases hr
    refine ⟨k, rfl, ?_⟩
    cases k with
    | true =>
      rw [if_pos rfl]
      exact h1 rfl T σ H1 Q s1.tail q x
    | false =>
      rw [if_neg Bool.false_ne_true]
      exact q _ _ H1 Γ1 (h2 rfl) s1) x)
theorem ew_or (h : EW B a Γ (fun x Γ1 => ∃ k, x = .bl k ∧ (k = true → R (.bl true) Γ1) ∧ (k = false → EW B (.BoolOp .Or (b :: rest) pos) Γ1 R Xp)) Xp) : EW B (.BoolOp .Or (a :: b :: rest) pos) Γ R Xp := fun T σ H Q s q x =>
  SemE.of (pe_or semE semE) (h T σ H _ s (fun v d H1 Γ1 ⟨k, e, h1, h2⟩ s1 => by
    subst e
    obtain ⟨W, _, hr⟩ := s1.head
    cases hr
    refine ⟨k, rfl, ?_⟩
    cases k with
    | true =>
      rw [if_pos rfl]
      exact q _ _ H1 Γ1 (h1 rfl) s1
    | false =>
      rw [if_neg Bool.false_ne_true]
      exact h2 rfl T σ H1 Q s1.tail q x) x)
theorem de_one {op : PySem.BoolOp} (h : DE B a Γ x) : DE B (.BoolOp op [a] pos) Γ x := ew_one h
theorem de_and (h : DE B a Γ (.bl k)) (h2 : k = true → DE B (.BoolOp .And (b :: rest) pos) Γ (.bl l)) : DE B (.BoolOp .And (a :: b :: rest) pos) Γ (.bl (k && l)) :=
  ew_and (ew_pure h ⟨k, rfl, fun e => ew_pure (h2 e) ⟨by rw [e]; rfl, rfl⟩, fun e => ⟨by rw [e]; rfl, rfl⟩⟩)
theorem de_or (h : DE B a Γ (.bl k)) (h2 : k = false → DE B (.BoolOp .Or (b :: rest) pos) Γ (.bl l)) : DE B (.BoolOp .Or (a :: b :: rest) pos) Γ (.bl (k || l)) :=
  ew_or (ew_pure h ⟨k, rfl, fun e => ⟨by rw [e]; rfl, rfl⟩, fun e => ew_pure (h2 e) ⟨by rw [e]; rfl, rfl⟩⟩)
end
theorem de_not (h : DE B a Γ (.bl k)) : DE B (.UnaryOp .Not a pos) Γ (.bl (!k)) := de_of fun T σ H Q s q =>
  SemE.of (pe_not semE) (h.run s fun v H1 s1 => by
    obtain ⟨W, _, hr⟩ := s1.head
    cases hr
    exact ⟨k, rfl, q _ H1 s1.tail.bl⟩)
theorem de_neg {i : Int} (h : DE B a Γ (.int i)) : DE B (.UnaryOp .USub a pos) Γ (.int (-i)) := de_of fun T σ H Q s q =>
  SemE.of (pe_un un_neg semE) (h.run s fun v H1 s1 => by
    obtain ⟨W, _, hr⟩ := s1.head
    cases hr
    exact ⟨i, rfl, q _ H1 s1.tail.int⟩)
theorem ew_if (h : TW B c Γ (fun k Γ1 => (k = true → EW B a Γ1 R Xp) ∧ (k = false → EW B b Γ1 R Xp)) Xp) : EW B (.IfExp c a b pos) Γ R Xp := fun T σ H Q s q x =>
  SemE.of (pe_ifExp semT semE semE) (h T σ H _ s (fun k H1 Γ1 ⟨h1, h2⟩ s1 => by
    cases k with
    | true =>
      rw [if_pos rfl]
      exact h1 rfl T σ H1 Q s1 q x
    | false =>
      rw [if_neg Bool.false_ne_true]
      exact h2 rfl T σ H1 Q s1 q x) x)
theorem de_if (h : TD B c Γ k) (h1 : k = true → DE B a Γ x) (h2 : k = false → DE B b Γ y) : DE B (.IfExp c a b pos) Γ (if k = true then x else y) :=
  ew_if (tw_pure h ⟨fun e => ew_pure (h1 e) ⟨by rw [if_pos e], rfl⟩, fun e => ew_pure (h2 e) ⟨by rw [e, if_neg Bool.false_ne_true], rfl⟩⟩)
end
end Sd

set_option exponentiation.threshold 256
set_option Elab.async false
set_option linter.all false
set_option maxRecDepth 100000
set_option maxHeartbeats 4000000
namespace Sd
open PySem PySem.Spec PyProof.Rows L2
section
variable {K : PySem.W.Frag} {W : Addr → Prop} {H : Hp} {F : Frame} {σ : L2.St} {Γ : Env} {T : List Tm} {v : V} {ds : List D} {C : Addr} {gs : List (Str × D)}
theorem rpTup (h : Rp K W H v (.tup ds)) : ∃ a xs, v = .ref a ∧ SqT K H a xs ∧ RpL K W H xs ds := by
  cases h with
  | tup r _ q => exact ⟨_, _, rfl, .inl r, q⟩
  | tupK r q => exact ⟨_, _, rfl, .inr r, q⟩
theorem rpLst (h : Rp K W H v (.lst ds)) : ∃ a xs, v = .ref a ∧ SqL K H a xs ∧ H a = some (.lst xs) ∧ ¬ W a ∧ RpL K W H xs ds := by
  cases h with
  | lst r n q => exact ⟨_, _, rfl, SqL.of r, r, n, q⟩
theorem rpRaw (h : Rp K W H v (.raw ds)) : ∃ a xs, v = .ref a ∧ SqL K H a xs ∧ RpL K W H xs ds := by
  cases h with
  | raw r n q => exact ⟨_, _, rfl, .inl (.inr ⟨_, r⟩), q⟩
  | rawK r q => exact ⟨_, _, rfl, .inr r, q⟩
theorem rpObj (h : Rp K W H v (.obj C gs)) : ∃ a dx fs, v = .ref a ∧ H a = some (.ins C dx fs) ∧ ¬ W a ∧ RpF K W H fs gs := by
  cases h with
  | obj e n q => exact ⟨_, _, _, rfl, e, n, q⟩
theorem rpInt {i : Int} (h : Rp K W H v (.int i)) : v = .int i := by cases h <;> rfl
theorem rpBl {i : Bool} (h : Rp K W H v (.bl i)) : v = .bl i := by cases h <;> rfl
theorem rpStr {i : Str} (h : Rp K W H v (.str i)) : v = .str i := by cases h <;> rfl
theorem rpNon (h : Rp K W H v .non) : v = .non := by cases h <;> rfl
theorem rplNil {vs : List V} (h : RpL K W H vs []) : vs = [] := by cases h <;> rfl
theorem rplOne {vs : List V} {d : D} (h : RpL K W H vs [d]) : ∃ x, vs = [x] ∧ Rp K W H x d := by
  cases h with
  | cons h r =>
    cases r
    exact ⟨_, rfl, h⟩
theorem rplTwo {vs : List V} {d e : D} (h : RpL K W H vs [d, e]) : ∃ x y, vs = [x, y] ∧ Rp K W H x d ∧ Rp K W H y e := by
  cases h with
  | cons h r =>
    obtain ⟨y, rfl, hy⟩ := rplOne r
    exact ⟨_, _, rfl, h, hy⟩
theorem rplThree {vs : List V} {d e f : D} (h : RpL K W H vs [d, e, f]) : ∃ x y z, vs = [x, y, z] ∧ Rp K W H x d ∧ Rp K W H y e ∧ Rp K W H z f := by
  cases h with
  | cons h r =>
    obtain ⟨y, z, rfl, hy, hz⟩ := rplTwo r
    exact ⟨_, _, _, rfl, h, hy, hz⟩
theorem Sta.int' {i : Int} (s : Sta K F H σ Γ (.v v (.int i) :: T)) : v = .int i := let ⟨_, _, h⟩ := s.head; rpInt h
theorem Sta.bl' {i : Bool} (s : Sta K F H σ Γ (.v v (.bl i) :: T)) : v = .bl i := let ⟨_, _, h⟩ := s.head; rpBl h
theorem Sta.str' {i : Str} (s : Sta K F H σ Γ (.v v (.str i) :: T)) : v = .str i := let ⟨_, _, h⟩ := s.head; rpStr h
theorem Sta.non' (s : Sta K F H σ Γ (.v v .non :: T)) : v = .non := let ⟨_, _, h⟩ := s.head; rpNon h
/-- a new tuple, list of what stands meanwhile -/
theorem Sta.newT {p : Addr} {vs : List V} (s : Sta K F H σ Γ (.l vs ds :: T)) (hp : H p = none) : Sta K F (upd H p (.tup vs)) σ Γ (.v (.ref p) (.tup ds) :: T) :=
  s.step (same_new hp) fun W wd t q hq => by
    rcases List.mem_cons.mp hq with rfl | hq
    · exact .tup (.inl upd_same) (fun z => wd p z hp) (RpL.keep (Kp.same (same_new hp)) (t (.l vs ds) List.mem_cons_self))
    · exact (t q (List.mem_cons_of_mem _ hq)).same (same_new hp)
theorem Sta.newL {p : Addr} {vs : List V} (s : Sta K F H σ Γ (.l vs ds :: T)) (hp : H p = none) : Sta K F (upd H p (.lst vs)) σ Γ (.v (.ref p) (.lst ds) :: T) :=
  s.step (same_new hp) fun W wd t q hq => by
    rcases List.mem_cons.mp hq with rfl | hq
    · exact .lst upd_same (fun z => wd p z hp) (RpL.keep (Kp.same (same_new hp)) (t (.l vs ds) List.mem_cons_self))
    · exact (t q (List.mem_cons_of_mem _ hq)).same (same_new hp)
/-- what stands meanwhile, told another way -/
theorem Sta.re {T' : List Tm} (s : Sta K F H σ Γ T) (h : ∀ W, (∀ p ∈ T, TmOk K W H p) → ∀ p ∈ T', TmOk K W H p) : Sta K F H σ Γ T' := s.temps fun W _ t => h W t
theorem Sta.rest {p q : Tm} (s : Sta K F H σ Γ (p :: T)) (h : ∀ W, (∀ a, W a → H a ≠ none) → TmOk K W H p → TmOk K W H q) : Sta K F H σ Γ (q :: T) := s.temps fun W wd t r hr => by
  rcases List.mem_cons.mp hr with rfl | hr
  · exact h W wd (t p List.mem_cons_self)
  · exact t r (List.mem_cons_of_mem _ hr)
theorem Sta.head' {p : Tm} (s : Sta K F H σ Γ (p :: T)) : ∃ W, (∀ a, W a → H a ≠ none) ∧ TmOk K W H p := by
  obtain ⟨W, g⟩ := s
  exact ⟨W, g.dom, g.tmp _ List.mem_cons_self⟩
end
/-! ## Operators on data -/
section
variable {B : Bx} {i j : Int} {s t : Str} {x y z d : D} {R : D → Prop}
theorem od_of {f : Value → Value → Sem Value} (h : ∀ T σ Γ v w H Q, B.St H σ Γ (.v w y :: .v v x :: T) → (∀ u H', B.St H' σ Γ (.v u z :: T) → Q u H') → SemO B.X f v w H Q) : OD B f x y z := fun T σ Γ v w H Q s q =>
  h T σ Γ v w H Q s fun u H' s' => q u z H' rfl s'
/-- the two operands' values -/
theorem od_two {f : Value → Value → Sem Value} (h : ∀ (H : Hp) (W : Addr → Prop) (v w : V) (Q : VK), (∀ a, W a → H a ≠ none) → Rp B.X.K W H v x → Rp B.X.K W H w y → ∃ u, (∀ W, (∀ a, W a → H a ≠ none) → Rp B.X.K W H u z) ∧ (Q u H → SemO B.X f v w H Q)) : OD B f x y z := od_of fun T σ Γ v w H Q s q => by
  obtain ⟨W, wd, h2, h1⟩ := s.two
  obtain ⟨u, hu, k⟩ := h H W v w Q wd h1 h2
  exact k (q u H (s.tail.tail.push fun W wd _ => hu W wd))
theorem od_ints {f : Value → Value → Sem Value} {g : Int → Int → V} {C : Int → Int → Prop} (ho : OpR B.X f (rI C g)) (hc : C i j) (hz : ∀ W H, Rp B.X.K W H (g i j) z) : OD B f (.int i) (.int j) z :=
  od_two fun H W v w Q _ h1 h2 => ⟨g i j, fun W _ => hz W H, fun q => SemO.of ho ⟨i, j, rpInt h1, rpInt h2, hc, q⟩⟩
theorem od_ints0 {f : Value → Value → Sem Value} {g : Int → Int → V} (ho : OpR B.X f (rI0 g)) (hz : ∀ W H, Rp B.X.K W H (g i j) z) : OD B f (.int i) (.int j) z :=
  od_two fun H W v w Q _ h1 h2 => ⟨g i j, fun W _ => hz W H, fun q => SemO.of ho ⟨i, j, rpInt h1, rpInt h2, q⟩⟩
theorem od_add : OD B (binaryOp .Add) (.int i) (.int j) (.int (i + j)) := od_ints0 op_add fun _ _ => .int _
theorem od_sub : OD B (binaryOp .Sub) (.int i) (.int j) (.int (i - j)) := od_ints0 op_sub fun _ _ => .int _
theorem od_mul (h : CMulW i j) : OD B (binaryOp .Mult) (.int i) (.int j) (.int (i * j)) := od_ints op_mulW h fun _ _ => .int _
theorem od_fdiv (h : CDivW i j) : OD B (binaryOp .FloorDiv) (.int i) (.int j) (.int (i / j)) := od_ints op_fdivW h fun _ _ => .int _
theorem od_mod (h : 0 < j) : OD B (binaryOp .Mod) (.int i) (.int j) (.int (i % j)) := od_ints op_mod h fun _ _ => .int _
theorem od_lt : OD B (compareOp .Lt) (.int i) (.int j) (.bl (decide (i < j))) := od_ints0 op_lt fun _ _ => .bl _
theorem od_le : OD B (compareOp .LtE) (.int i) (.int j) (.bl (decide (i ≤ j))) := od_ints0 op_le fun _ _ => .bl _
theorem od_gt : OD B (compareOp .Gt) (.int i) (.int j) (.bl (decide (j < i))) := od_ints0 op_gt fun _ _ => .bl _
theorem od_ge : OD B (compareOp .GtE) (.int i) (.int j) (.bl (decide (j ≤ i))) := od_ints0 op_ge fun _ _ => .bl _
theorem od_eq : OD B (compareOp .Eq) (.int i) (.int j) (.bl (decide (i = j))) :=
  od_two fun H W v w Q _ h1 h2 => ⟨.bl (decide (i = j)), fun W _ => .bl _, fun q => by
    cases rpInt h1
    cases rpInt h2
    exact SemO.of op_eq ⟨rfl, by simpa using q⟩⟩
theorem od_ne : OD B (compareOp .NotEq) (.int i) (.int j) (.bl (!decide (i = j))) :=
  od_two fun H W v w Q _ h1 h2 => ⟨.bl (!decide (i = j)), fun W _ => .bl _, fun q => by
    cases rpInt h1
    cases rpInt h2
    exact SemO.of op_ne ⟨rfl, by simpa using q⟩⟩
theorem od_eqS : OD B (compareOp .Eq) (.str s) (.str t) (.bl (decide (s = t))) :=
  od_two fun H W v w Q _ h1 h2 => ⟨.bl (decide (s = t)), fun W _ => .bl _, fun q => by
    cases rpStr h1
    cases rpStr h2
    exact SemO.of op_eq ⟨rfl, by simpa using q⟩⟩
theorem od_neS : OD B (compareOp .NotEq) (.str s) (.str t) (.bl (!decide (s = t))) :=
  od_two fun H W v w Q _ h1 h2 => ⟨.bl (!decide (s = t)), fun W _ => .bl _, fun q => by
    cases rpStr h1
    cases rpStr h2
    exact SemO.of op_ne ⟨rfl, by simpa using q⟩⟩
theorem od_eqB {k l : Bool} : OD B (compareOp .Eq) (.bl k) (.bl l) (.bl (decide (k = l))) :=
  od_two fun H W v w Q _ h1 h2 => ⟨.bl (decide (k = l)), fun W _ => .bl _, fun q => by
    cases rpBl h1
    cases rpBl h2
    exact SemO.of op_eq ⟨rfl, by simpa using q⟩⟩
theorem od_addS (h : s.length + t.length ≤ sizeLine) : OD B (binaryOp .Add) (.str s) (.str t) (.str (s ++ t)) :=
  od_two fun H W v w Q _ h1 h2 => ⟨.str (s ++ t), fun W _ => .str _, fun q => SemO.of op_add_str ⟨s, t, rpStr h1, rpStr h2, h, q⟩⟩
/-- is it None -/
def isNon : D → Bool
  | .non => true
  | _ => false
theorem rp_isNon {K : PySem.W.Frag} {W : Addr → Prop} {H : Hp} {v : V} (h : Rp K W H v x) : decide (v = .non) = isNon x := by
  cases h <;> simp [isNon]
theorem od_isN : OD B (compareOp .Is) x .non (.bl (isNon x)) :=
  od_two fun H W v w Q _ h1 h2 => ⟨.bl (isNon x), fun W _ => .bl _, fun q => by
    refine SemO.of op_isN ⟨rpNon h2, ?_⟩
    rw [rp_isNon h1]
    exact q⟩
theorem od_notN : OD B (compareOp .IsNot) x .non (.bl (!isNon x)) :=
  od_two fun H W v w Q _ h1 h2 => ⟨.bl (!isNon x), fun W _ => .bl _, fun q => by
    refine SemO.of op_notN ⟨rpNon h2, ?_⟩
    rw [rp_isNon h1]
    exact q⟩
/-- one sign in a text -/
theorem od_inSign {c : Nat} : OD B (compareOp .In) (.str ⟨#[c]⟩) (.str t) (.bl (decide (c ∈ t.cps.toList))) :=
  od_two fun H W v w Q _ h1 h2 => ⟨.bl _, fun W _ => .bl _, fun q => SemO.of op_in_sign ⟨c, t, rpStr h1, rpStr h2, q⟩⟩
theorem od_notInSign {c : Nat} : OD B (compareOp .NotIn) (.str ⟨#[c]⟩) (.str t) (.bl (!decide (c ∈ t.cps.toList))) :=
  od_two fun H W v w Q _ h1 h2 => ⟨.bl _, fun W _ => .bl _, fun q => SemO.of op_notIn_sign ⟨c, t, rpStr h1, rpStr h2, q⟩⟩
/-- flat data among flat data -/
def flatD : D → Bool
  | .non => true
  | .bl _ => true
  | .int _ => true
  | .str _ => true
  | _ => false
def eqF : D → D → Bool
  | .non, .non => true
  | .bl a, .bl b => a == b
  | .bl a, .int b => (if a then 1 else 0) == b
  | .int a, .bl b => a == (if b then 1 else 0)
  | .int a, .int b => a == b
  | .str a, .str b => a == b
  | _, _ => false
theorem flat_of {K : PySem.W.Frag} {W : Addr → Prop} {H : Hp} {v : V} (h : Rp K W H v x) : flatV v = flatD x := by cases h <;> rfl
theorem eqF_of {K : PySem.W.Frag} {W : Addr → Prop} {H : Hp} {v w : V} (h : Rp K W H v x) (h' : Rp K W H w y) : eqV v w = eqF x y := by cases h <;> cases h' <;> rfl
theorem flats_of {K : PySem.W.Frag} {W : Addr → Prop} {H : Hp} : ∀ {vs : List V} {ds : List D}, RpL K W H vs ds → vs.all flatV = ds.all flatD
  | _, _, .nil => rfl
  | _, _, .cons h r => by rw [List.all_cons, List.all_cons, flat_of h, flats_of r]
def inF (x : D) (ds : List D) : Bool := ds.any fun y => eqF y x
theorem inF_of {K : PySem.W.Frag} {W : Addr → Prop} {H : Hp} {v : V} (h : Rp K W H v x) : ∀ {vs : List V} {ds : List D}, RpL K W H vs ds → inV v vs = inF x ds
  | _, _, .nil => rfl
  | _, _, .cons q r => by
    unfold inV inF
    rw [List.any_cons, List.any_cons, eqF_of q h]
    exact congrArg _ (inF_of h r)
theorem od_inT {ds : List D} (hx : flatD x = true) (hd : ds.all flatD = true) : OD B (compareOp .In) x (.tup ds) (.bl (inF x ds)) :=
  od_two fun H W v w Q _ h1 h2 => ⟨.bl _, fun W _ => .bl _, fun q => by
    obtain ⟨a, xs, rfl, hs, hr⟩ := rpTup h2
    refine SemO.of op_in_seq ⟨a, xs, rfl, .inr hs, (flat_of h1).trans hx, (flats_of hr).trans hd, ?_⟩
    rw [inF_of h1 hr]
    exact q⟩
theorem od_notInT {ds : List D} (hx : flatD x = true) (hd : ds.all flatD = true) : OD B (compareOp .NotIn) x (.tup ds) (.bl (!inF x ds)) :=
  od_two fun H W v w Q _ h1 h2 => ⟨.bl _, fun W _ => .bl _, fun q => by
    obtain ⟨a, xs, rfl, hs, hr⟩ := rpTup h2
    refine SemO.of op_notIn_seq ⟨a, xs, rfl, .inr hs, (flat_of h1).trans hx, (flats_of hr).trans hd, ?_⟩
    rw [inF_of h1 hr]
    exact q⟩
/-! data compared whole -/
mutual
def toPy : D → PyData
  | .non => .none
  | .bl b => .bool b
  | .int i => .int i
  | .str x => .str x
  | .tup ds => .tuple (toPys ds)
  | .lst ds => .list (toPys ds)
  | .raw _ => .none
  | .obj _ _ => .none
  | .dic _ => .none
def toPys : List D → List PyData
  | [] => []
  | d :: ds => toPy d :: toPys ds
end
mutual
def plainD : D → Bool
  | .obj _ _ => false
  | .raw _ => false
  | .dic _ => false
  | .tup ds => plainDs ds
  | .lst ds => plainDs ds
  | _ => true
def plainDs : List D → Bool
  | [] => true
  | d :: ds => plainD d && plainDs ds
end
mutual
theorem dp_of {K : PySem.W.Frag} {W : Addr → Prop} {H : Hp} : ∀ {v : V} {d : D}, Rp K W H v d → plainD d = true → Dp K H v (toPy d)
  | _, _, .non, _ => .non
  | _, _, .bl b, _ => .bl b
  | _, _, .int i, _ => .int i
  | _, _, .str x, _ => .str x
  | _, _, .tup h n r, p => .tup (.inl h) (dps_of r p)
  | _, _, .tupK h r, p => .tup (.inr h) (dps_of r p)
  | _, _, .lst h n r, p => .lst (SqL.of h) (dps_of r p)
  | _, _, .raw h n r, p => by cases p
  | _, _, .rawK h r, p => by cases p
  | _, _, .obj h n r, p => by cases p
  | _, _, .dic h n r, p => by cases p
theorem dps_of {K : PySem.W.Frag} {W : Addr → Prop} {H : Hp} : ∀ {vs : List V} {ds : List D}, RpL K W H vs ds → plainDs ds = true → DpAll K H vs (toPys ds)
  | _, _, .nil, _ => .nil
  | _, _, .cons h r, p => by
    have q : plainD _ = true ∧ plainDs _ = true := Bool.and_eq_true_iff.mp p
    exact .cons (dp_of h q.1) (dps_of r q.2)
end
theorem od_eqD (hx : plainD x = true) (hy : plainD y = true) (sx : SeqAt.shaped (toPy x) = true) (sy : SeqAt.shaped (toPy y) = true) : OD B (compareOp .Eq) x y (.bl (PyData.eqv (toPy x) (toPy y))) :=
  od_two fun H W v w Q _ h1 h2 => ⟨.bl _, fun W _ => .bl _, fun q => SemO.of (op_eqD B.un64) ⟨_, _, dp_of h1 hx, dp_of h2 hy, sx, sy, q⟩⟩
theorem od_neD (hx : plainD x = true) (hy : plainD y = true) (sx : SeqAt.shaped (toPy x) = true) (sy : SeqAt.shaped (toPy y) = true) : OD B (compareOp .NotEq) x y (.bl (!PyData.eqv (toPy x) (toPy y))) :=
  od_two fun H W v w Q _ h1 h2 => ⟨.bl _, fun W _ => .bl _, fun q => SemO.of (op_neD B.un64) ⟨_, _, dp_of h1 hx, dp_of h2 hy, sx, sy, q⟩⟩
theorem od_inD {ds : List D} (hx : plainD x = true) (hy : plainDs ds = true) (sx : SeqAt.shaped (toPy x) = true) (sy : SeqAt.shaped (.list (toPys ds)) = true) : OD B (compareOp .In) x (.lst ds) (.bl ((toPys ds).any fun z => PyData.eqv z (toPy x))) :=
  od_two fun H W v w Q _ h1 h2 => ⟨.bl _, fun W _ => .bl _, fun q => SemO.of (op_inD B.un65) ⟨_, _, dp_of h1 hx, dp_of h2 hy, sx, sy, q⟩⟩
theorem od_notInD {ds : List D} (hx : plainD x = true) (hy : plainDs ds = true) (sx : SeqAt.shaped (toPy x) = true) (sy : SeqAt.shaped (.list (toPys ds)) = true) : OD B (compareOp .NotIn) x (.lst ds) (.bl (!(toPys ds).any fun z => PyData.eqv z (toPy x))) :=
  od_two fun H W v w Q _ h1 h2 => ⟨.bl _, fun W _ => .bl _, fun q => SemO.of (op_notInD B.un65) ⟨_, _, dp_of h1 hx, dp_of h2 hy, sx, sy, q⟩⟩
end
end Sd

set_option exponentiation.threshold 256
set_option Elab.async false
set_option linter.all false
set_option maxRecDepth 100000
set_option maxHeartbeats 4000000
namespace Sd
open PySem PySem.Spec PyProof.Rows L2
theorem line1000 {n : Nat} (h : n ≤ 1000) : n ≤ sizeLine := by rw [sizeLine_eq]; omega
/-! ## Rows of expressions, tuples, lists -/
section
variable {B : Bx} {e a b c o : Expr} {es : List Expr} {Γ : Env} {R : RE} {Xp : XP} {d x y z : D} {ds : List D} {pos : Pos} {k l : Bool}
theorem aw_nil {R : List D → Env → Prop} (h : R [] Γ) : AW B [] Γ R Xp := fun T σ H Q s q x => SemA.of pa_nil (q [] [] H Γ h rfl (s.temps fun W wd t p hp => by
  rcases List.mem_cons.mp hp with rfl | hp
  · exact .nil
  · exact t p hp))
theorem aw_cons {R : List D → Env → Prop} (h : EW B e Γ (fun d Γ1 => AW B es Γ1 (fun ds Γ2 => R (d :: ds) Γ2) Xp) Xp) (hs : starEach (e :: es) B.X.env = (false, eval e B.X.env) :: starEach es B.X.env := by rfl) : AW B (e :: es) Γ R Xp := fun T σ H Q s q x =>
  SemA.of (pa_cons semE semA hs) (h T σ H _ s (fun v d H1 Γ1 h1 s1 => h1 _ σ H1 _ s1 (fun vs ds H2 Γ2 h2 hl s2 => q _ _ H2 Γ2 h2 (congrArg (· + 1) hl) (s2.temps fun W wd t p hp => by
    rcases List.mem_cons.mp hp with rfl | hp
    · exact .cons (t (.v v d) (List.mem_cons_of_mem _ List.mem_cons_self)) (t (.l vs ds) List.mem_cons_self)
    · exact t p (List.mem_cons_of_mem _ (List.mem_cons_of_mem _ hp)))) x.cons) x)
theorem des_nil : DEs B [] Γ [] := aw_nil ⟨rfl, rfl⟩
theorem des_cons (h : DE B e Γ d) (hr : DEs B es Γ ds) (hs : starEach (e :: es) B.X.env = (false, eval e B.X.env) :: starEach es B.X.env := by rfl) : DEs B (e :: es) Γ (d :: ds) :=
  aw_cons (ew_pure h (aw_pure hr ⟨rfl, rfl⟩)) hs
theorem ew_tup {n : Nat} (h : AW B es Γ (fun ds Γ1 => R (.tup ds) Γ1) Xp) (hl : es.length ≤ 1000 := by decide) : EW B (.Tuple es n pos) Γ R Xp := fun T σ H Q s q x =>
  SemE.of (pe_tup semA) (h T σ H _ s (fun vs ds H1 Γ1 r hv s1 => ⟨line1000 (by omega), fun p hp => q _ _ _ Γ1 r (s1.newT hp)⟩) x)
theorem ew_lst (h : AW B es Γ (fun ds Γ1 => R (.lst ds) Γ1) Xp) (hl : es.length ≤ 1000 := by decide) : EW B (.List es pos) Γ R Xp := fun T σ H Q s q x =>
  SemE.of (pe_lst semA) (h T σ H _ s (fun vs ds H1 Γ1 r hv s1 => ⟨line1000 (by omega), fun p hp => q _ _ _ Γ1 r (s1.newL hp)⟩) x)
theorem de_tup {n : Nat} (h : DEs B es Γ ds) (hl : es.length ≤ 1000 := by decide) : DE B (.Tuple es n pos) Γ (.tup ds) := ew_tup (aw_pure h ⟨rfl, rfl⟩) hl
theorem de_lst (h : DEs B es Γ ds) (hl : es.length ≤ 1000 := by decide) : DE B (.List es pos) Γ (.lst ds) := ew_lst (aw_pure h ⟨rfl, rfl⟩) hl

/-! ## Items, fields, slices -/
/-- an item, on data -/
def IxD (x : D) (i : Int) (d : D) : Prop := match x with
  | .tup ds => atI ds i = some d
  | .lst ds => atI ds i = some d
  | .str z => z.length ≤ sizeLine ∧ ∃ c, atI z.cps.toList i = some c ∧ d = .str ⟨#[c]⟩
  | _ => False
theorem atI_rel {K : PySem.W.Frag} {W : Addr → Prop} {H : Hp} {vs : List V} {ds : List D} {i : Int} {d : D} (r : RpL K W H vs ds) (h : atI ds i = some d) : ∃ v, atI vs i = some v ∧ Rp K W H v d := by
  unfold atI at h ⊢
  rw [r.length]
  cases e : ixN ds.length i with
  | none =>
    rw [e] at h
    cases h
  | some j =>
    rw [e] at h
    exact r.get h
theorem ixD_of {K : PySem.W.Frag} {W : Addr → Prop} {H : Hp} {v : V} {x d : D} {i : Int} (h : Rp K W H v x) (hi : IxD x i d) : ∃ u, Rp K W H u d ∧ ∀ Q : VK, Q u H → rIx K v (.int i) H Q := by
  cases x with
  | tup ds =>
    obtain ⟨p, xs, rfl, hs, hl⟩ := rpTup h
    obtain ⟨u, hu, r⟩ := atI_rel hl hi
    exact ⟨u, r, fun Q q => .inr (.inl ⟨p, xs, i, u, rfl, rfl, hs, hu, q⟩)⟩
  | lst ds =>
    obtain ⟨p, xs, rfl, hs, _, _, hl⟩ := rpLst h
    obtain ⟨u, hu, r⟩ := atI_rel hl hi
    exact ⟨u, r, fun Q q => .inl ⟨p, xs, i, u, rfl, rfl, hs, hu, q⟩⟩
  | str z =>
    obtain ⟨hz, c, hc, rfl⟩ := hi
    cases rpStr h
    exact ⟨_, .str _, fun Q q => .inr (.inr ⟨z, i, c, rfl, rfl, hz, hc, q⟩)⟩
  | _ => exact hi.elim
theorem ew_ix (h : EW B a Γ (fun x Γ1 => EW B b Γ1 (fun y Γ2 => ∃ i d, y = .int i ∧ IxD x i d ∧ R d Γ2) Xp) Xp) (hp : PlainIx b := by intro _ _; rfl) : EW B (.Subscript a b pos) Γ R Xp := fun T σ H Q s q x =>
  SemE.of (pe_ix ix_seq semE semE hp) (h T σ H _ s (fun v d H1 Γ1 h1 s1 => h1 _ σ H1 _ s1 (fun w d' H2 Γ2 h2 s2 => by
    obtain ⟨i, d2, rfl, hix, r⟩ := h2
    obtain ⟨W, g⟩ := s2
    cases rpInt g.top
    obtain ⟨u, hu, k⟩ := ixD_of g.snd hix
    exact k _ (q u d2 H2 Γ2 r (g.tl.tl.with hu))) x.cons) x)
theorem de_ix {i : Int} (ha : DE B a Γ x) (hb : DE B b Γ (.int i)) (hi : IxD x i d) (hp : PlainIx b := by intro _ _; rfl) : DE B (.Subscript a b pos) Γ d := ew_ix (ew_pure ha (ew_pure hb ⟨i, d, rfl, hi, rfl, rfl⟩)) hp
/-- a field -/
theorem ew_fld {C : Addr} {f : Str} (h : EW B o Γ (fun x Γ1 => ∃ gs d, x = .obj C gs ∧ gs.lookup f = some d ∧ R d Γ1) Xp) (cl : Cls B.X.K C) (na : NoAttr B.X.K C f) (hb : attributeBase o f B.X.env (eval o B.X.env) = eval o B.X.env := by rfl) : EW B (.Attribute o f pos) Γ R Xp := fun T σ H Q s q x =>
  SemE.of (pe_fld semE hb) (h T σ H _ s (fun v d H1 Γ1 h1 s1 => by
    obtain ⟨gs, d2, rfl, hl, r⟩ := h1
    obtain ⟨W, g⟩ := s1
    obtain ⟨p, dx, fs, rfl, hp, _, hf⟩ := rpObj g.top
    obtain ⟨u, hu, ru⟩ := hf.get hl
    exact ⟨p, C, dx, fs, u, rfl, hp, cl, na, hu, q u d2 H1 Γ1 r (g.tl.with ru)⟩) x)
theorem de_fld {C : Addr} {f : Str} {gs : List (Str × D)} (h : DE B o Γ (.obj C gs)) (cl : Cls B.X.K C) (na : NoAttr B.X.K C f) (hl : gs.lookup f = some d) (hb : attributeBase o f B.X.env (eval o B.X.env) = eval o B.X.env := by rfl) : DE B (.Attribute o f pos) Γ d :=
  ew_fld (ew_pure h ⟨gs, d, rfl, hl, rfl, rfl⟩) cl na hb
/-- a field of an object that may change -/
theorem de_mfld {C r : Addr} {f n : Str} {gs : List (Str × D)} {p1 : Pos} (i : Nat) (h : Γ[i]? = some (some (.mu r C gs))) (cl : Cls B.X.K C) (na : NoAttr B.X.K C f) (hl : gs.lookup f = some d) (hN : B.X.N[i]? = some n := by rfl) (hv : Vis B.X.env.scope n := by first | exact Or.inl rfl | exact Or.inr (Or.inl rfl) | exact Or.inr (Or.inr rfl))
    (hd : (n == ("__debug__" : Str)) = false := by decide) (hc : (n == ("__classdict__" : Str)) = false := by decide) (hb : attributeBase (.Name n p1) f B.X.env (eval (.Name n p1) B.X.env) = eval (.Name n p1) B.X.env := by rfl) : DE B (.Attribute (.Name n p1) f pos) Γ d := de_of fun T σ H Q s q => by
  obtain ⟨W, g⟩ := s
  obtain ⟨v, e, dx, fs, rfl, wr, fr, hr, hf⟩ := g.slot i _ h
  obtain ⟨u, hu, ru⟩ := hf.get hl
  exact SemE.of (pe_fld (pe_var hN hv hd hc) hb) ⟨.ref r, e, r, C, dx, fs, u, rfl, hr, cl, na, hu, q u H (g.with ru)⟩
/-- a list of one's own: its length, its items -/
theorem de_olen {n : Str} {p1 p2 pos : Pos} (i : Nat) (h : Γ[i]? = some (some (.ow ds))) (hm : B.X.mg "len" = none) (hg : Gl B.X "len" := by rfl) (hN : B.X.N[i]? = some n := by rfl) (hv : Vis B.X.env.scope n := by first | exact Or.inl rfl | exact Or.inr (Or.inl rfl) | exact Or.inr (Or.inr rfl))
    (hd : (n == ("__debug__" : Str)) = false := by decide) (hc : (n == ("__classdict__" : Str)) = false := by decide) (hs : starEach [.Name n p1] B.X.env = (false, eval (.Name n p1) B.X.env) :: starEach [] B.X.env := by rfl) :
    DE B (.Call (.Name "len" p2) [.Name n p1] [] pos) Γ (.int ds.length) := de_of fun T σ H Q s q => by
  obtain ⟨W, g⟩ := s
  obtain ⟨v, e, l, xs, rfl, wl, fl, hl, hr⟩ := g.slot i _ h
  refine SemE.of (pe_callB call_len_seq hg hm (by decide +kernel) (pa_cons (pe_var hN hv hd hc) pa_nil hs) (by decide) (by decide) hs rfl) ⟨.ref l, e, l, xs, rfl, .inl (SqL.of hl), ?_⟩
  rw [hr.length]
  exact q _ H (g.with (.int _))
theorem de_oix {n : Str} {p1 : Pos} {j : Int} (i : Nat) (h : Γ[i]? = some (some (.ow ds))) (hb : DE B b Γ (.int j)) (hi : atI ds j = some d) (hN : B.X.N[i]? = some n := by rfl) (hv : Vis B.X.env.scope n := by first | exact Or.inl rfl | exact Or.inr (Or.inl rfl) | exact Or.inr (Or.inr rfl))
    (hd : (n == ("__debug__" : Str)) = false := by decide) (hc : (n == ("__classdict__" : Str)) = false := by decide) (hp : PlainIx b := by intro _ _; rfl) : DE B (.Subscript (.Name n p1) b pos) Γ d := de_of fun T σ H Q s q => by
  obtain ⟨W0, g0⟩ := id s
  obtain ⟨v, e, _⟩ := g0.slot i _ h
  refine SemE.of (pe_ix ix_list (pe_var hN hv hd hc) semE hp) ⟨v, e, hb.run s fun w H1 s1 => ?_⟩
  obtain ⟨W, g⟩ := s1
  cases rpInt g.top
  obtain ⟨v', e', l, xs, rfl, wl, fl, hl, hr⟩ := g.slot i _ h
  rw [e] at e'
  cases e'
  obtain ⟨u, hu, ru⟩ := atI_rel hr hi
  exact ⟨l, xs, j, u, rfl, rfl, SqL.of hl, hu, q u H1 (g.tl.with ru)⟩
/-! slices -/
def cutD (xs : List D) (lo hi : Option Int) : List D := (xs.drop (HT.sIx xs.length 0 lo)).take (HT.sIx xs.length xs.length hi - HT.sIx xs.length 0 lo)
theorem cut_rel {K : PySem.W.Frag} {W : Addr → Prop} {H : Hp} {vs : List V} {ds : List D} (r : RpL K W H vs ds) (lo hi : Option Int) : RpL K W H (cutV vs lo hi) (cutD ds lo hi) := by
  unfold cutV cutD
  rw [r.length]
  exact (r.drop _).take _
def SemP (X : Cx) (e : Option Expr) : TO := fun σ H Q => ∀ (pins : List (Addr × Obj)) (s : Shared), Inv X pins σ H s → wpAny (model X.prog X.w) X.A (evalPart e X.env) (fun u s' => ∃ o H', Inv X pins σ H' s' ∧ IsPart u o ∧ Q o H') X.xe s
theorem semP {X : Cx} {e : Option Expr} : PO X e (SemP X e) := ⟨fun pins s _ _ _ I h => h pins s I⟩
theorem SemP.of {X : Cx} {e : Option Expr} {t : TO} {σ : L2.St} {H : Hp} {Q : Option Int → Hp → Prop} (h : PO X e t) (q : t σ H Q) : SemP X e σ H Q := fun pins s I => h.run pins s σ H Q I q
def PD (B : Bx) (e : Option Expr) (Γ : Env) (p : Option Int) : Prop := ∀ T σ H Q, B.St H σ Γ T → (∀ H', B.St H' σ Γ T → Q p H') → SemP B.X e σ H Q
theorem pd_none : PD B none Γ none := fun T σ H Q s q => SemP.of po_none (q H s)
theorem pd_some {i : Int} (h : DE B e Γ (.int i)) : PD B (some e) Γ (some i) := fun T σ H Q s q => SemP.of (po_some semE) (h.run s fun v H1 s1 => ⟨i, s1.int', q H1 s1.tail⟩)
section
variable {lo hi : Option Expr} {p q : Option Int} {p2 : Pos}
theorem de_slL (h : DE B e Γ (.lst ds)) (h1 : PD B lo Γ p) (h2 : PD B hi Γ q) : DE B (.Subscript e (.Slice lo hi none p2) pos) Γ (.lst (cutD ds p q)) := de_of fun T σ H Q s k =>
  SemE.of (pe_slice sl_list semE semP semP) (h.run s fun v H1 s1 => h1 _ σ H1 _ s1 fun H2 s2 => h2 _ σ H2 _ s2 fun H3 s3 => by
    obtain ⟨W, g⟩ := s3
    obtain ⟨a, xs, rfl, hs, _, _, hr⟩ := rpLst g.top
    exact ⟨a, xs, rfl, hs, fun p hp => k _ _ (Sta.newL (g.tl.with (p := .l _ _) (cut_rel hr _ _)) hp)⟩)
theorem de_slS {z : Str} (h : DE B e Γ (.str z)) (h1 : PD B lo Γ p) (h2 : PD B hi Γ q) (hz : z.length ≤ sizeLine) : DE B (.Subscript e (.Slice lo hi none p2) pos) Γ (.str (cutS z p q)) := de_of fun T σ H Q s k =>
  SemE.of (pe_slice sl_str semE semP semP) (h.run s fun v H1 s1 => h1 _ σ H1 _ s1 fun H2 s2 => h2 _ σ H2 _ s2 fun H3 s3 => by
    cases s3.str'
    exact ⟨z, rfl, hz, k _ _ s3.tail.str⟩)
theorem de_slT (h : DE B e Γ (.tup ds)) (h1 : PD B lo Γ p) (h2 : PD B hi Γ q) (hw : ¬ (HT.sIx ds.length 0 p = 0 ∧ HT.sIx ds.length ds.length q = ds.length)) : DE B (.Subscript e (.Slice lo hi none p2) pos) Γ (.tup (cutD ds p q)) := de_of fun T σ H Q s k =>
  SemE.of (pe_slice sl_tup semE semP semP) (h.run s fun v H1 s1 => h1 _ σ H1 _ s1 fun H2 s2 => h2 _ σ H2 _ s2 fun H3 s3 => by
    obtain ⟨W, g⟩ := s3
    obtain ⟨a, xs, rfl, hs, hr⟩ := rpTup g.top
    exact ⟨a, xs, rfl, hs, by rw [hr.length]; exact hw, fun p hp => k _ _ (Sta.newT (g.tl.with (p := .l _ _) (cut_rel hr _ _)) hp)⟩)
end
/-! lists glued -/
theorem od_cat {xs ys : List D} (h : xs.length + ys.length ≤ sizeLine) : OD B (binaryOp .Add) (.lst xs) (.lst ys) (.lst (xs ++ ys)) := od_of fun T σ Γ v w H Q s q => by
  obtain ⟨W, g⟩ := s
  obtain ⟨b, us, rfl, _, h2, _, r2⟩ := rpLst g.top
  obtain ⟨l, vs, rfl, _, h1, _, r1⟩ := rpLst g.snd
  exact SemO.of op_cat ⟨l, b, vs, us, rfl, rfl, h1, h2, by rw [r1.length, r2.length]; exact h, fun p hp => q _ _ (Sta.newL (g.tl.tl.with (p := .l _ _) (r1.append r2)) hp)⟩
theorem od_catT {xs ys : List D} (hx : xs ≠ []) (hy : ys ≠ []) (h : xs.length + ys.length ≤ sizeLine) : OD B (binaryOp .Add) (.tup xs) (.tup ys) (.tup (xs ++ ys)) := od_of fun T σ Γ v w H Q s q => by
  obtain ⟨W, g⟩ := s
  obtain ⟨b, us, rfl, h2, r2⟩ := rpTup g.top
  obtain ⟨l, vs, rfl, h1, r1⟩ := rpTup g.snd
  have l1 := r1.length
  have l2 := r2.length
  have ev : vs ≠ [] := fun z => hx (List.eq_nil_of_length_eq_zero (by rw [← l1, z]; rfl))
  have eu : us ≠ [] := fun z => hy (List.eq_nil_of_length_eq_zero (by rw [← l2, z]; rfl))
  exact SemO.of op_catT ⟨l, b, vs, us, rfl, rfl, h1, h2, ev, by rw [l1, l2]; exact h, fun z => absurd z eu, fun _ p hp => q _ _ (Sta.newT (g.tl.tl.with (p := .l _ _) (r1.append r2)) hp)⟩
theorem od_rep {xs : List D} {n : Int} (h1 : -(2 ^ 63) ≤ n) (h2 : n < 2 ^ 63) (h : xs.length * n.toNat ≤ sizeLine) : OD B (binaryOp .Mult) (.lst xs) (.int n) (.lst (List.replicate n.toNat xs).flatten) := od_of fun T σ Γ v w H Q s q => by
  obtain ⟨W, g⟩ := s
  cases rpInt g.top
  obtain ⟨l, vs, rfl, _, h3, _, r1⟩ := rpLst g.snd
  have rr : ∀ k : Nat, RpL B.X.K W H (List.replicate k vs).flatten (List.replicate k xs).flatten := fun k => by
    induction k with
    | zero => exact .nil
    | succ k ih =>
      rw [List.replicate_succ, List.replicate_succ, List.flatten_cons, List.flatten_cons]
      exact r1.append ih
  exact SemO.of op_rep ⟨l, n, vs, rfl, rfl, h3, h1, h2, by rw [r1.length]; exact h, fun p hp => q _ _ (Sta.newL (g.tl.tl.with (p := .l _ _) (rr _)) hp)⟩
end
end Sd

set_option exponentiation.threshold 256
set_option Elab.async false
set_option linter.all false
set_option maxRecDepth 100000
set_option maxHeartbeats 4000000
namespace Sd
open PySem PySem.Spec PyProof.Rows L2
/-! ## Defs: what they hand back, on data -/
inductive Res where
  | ret (d : D) | exc (C : Addr) (gs : List (Str × D))
abbrev FS := List D → Res → Prop
/-- fields ahead, arguments, fields behind, what is handed back -/
abbrev MS := List (Str × D) → List D → List (Str × D) → Res → Prop
def ResK (K : PySem.W.Frag) (W : Addr → Prop) (R : Hp → Prop) (Q : VK) (E : XK) : Res → Prop
  | .ret d => ∀ v H', R H' → Rp K W H' v d → Q v H'
  | .exc C gs => ∀ a fs H', R H' → H' a = some (.xd fs) → ¬ W a → RpF K W H' fs gs → E (.ref C) (some a) H'
/-- a def that changes nothing -/
def spF (K : PySem.W.Frag) (F : FS) : Sp := fun vs H Q E => ∃ W ds r, (∀ a, W a → H a ≠ none) ∧ RpL K W H vs ds ∧ F ds r ∧ ResK K W (Same H) Q E r
/-- a method that changes its object alone -/
def spM (K : PySem.W.Frag) (C : Addr) (F : MS) : Sp := fun vs H Q E => ∃ (W : Addr → Prop) (r dx : Addr) (fs : List (Str × V)) (gs : List (Str × D)) (ws : List V) (ds : List D) (gs' : List (Str × D)) (res : Res), vs = .ref r :: ws ∧ W r ∧ H r = some (.ins C dx fs) ∧ (∀ a, W a → H a ≠ none) ∧
  RpF K W H fs gs ∧ RpL K W H ws ds ∧ F gs ds gs' res ∧ ResK K W (fun H' => (∀ b o, b ≠ r → H b = some o → H' b = some o) ∧ ∃ dx' fs', H' r = some (.ins C dx' fs') ∧ RpF K W H' fs' gs') Q E res
/-- the def x of the module keeps F, with k rooms -/
def Fn (CX : CXT) (P : Program) (w : World) (K : PySem.W.Frag) (mg : Str → Option Value) (base : Heap) (x : Str) (k : Nat) (F : FS) : Prop :=
  ∃ (f : Addr) (fd : FuncData) (ps : List Str), FnOk P w K mg base CX k f fd ps (spF K F) ∧ mg x = some (.ref f) ∧ PySem.W.keepIn K (.ref f) = true ∧ Binds K fd ps []
/-- the method m of C: one that changes nothing; one that changes its object -/
def Mf (CX : CXT) (P : Program) (w : World) (K : PySem.W.Frag) (mg : Str → Option Value) (base : Heap) (C : Addr) (m : Str) (k : Nat) (F : FS) : Prop :=
  ∃ (f : Addr) (fd : FuncData) (ps : List Str), FnOk P w K mg base CX k f fd ps (spF K F) ∧ Cls K C ∧ Meth K C m f ∧ Binds K fd ps []
def Mm (CX : CXT) (P : Program) (w : World) (K : PySem.W.Frag) (mg : Str → Option Value) (base : Heap) (C : Addr) (m : Str) (k : Nat) (F : MS) : Prop :=
  ∃ (f : Addr) (fd : FuncData) (ps : List Str), FnOk P w K mg base CX k f fd ps (spM K C F) ∧ Cls K C ∧ Meth K C m f ∧ Binds K fd ps []
/-- the class x is made by an __init__ that keeps F -/
def Mi (CX : CXT) (P : Program) (w : World) (K : PySem.W.Frag) (mg : Str → Option Value) (base : Heap) (x : Str) (C : Addr) (k : Nat) (F : MS) : Prop :=
  ∃ (f : Addr) (fd : FuncData) (ps : List Str), FnOk P w K mg base CX k f fd ps (spM K C F) ∧ Mk K C f ∧ mg x = some (.ref C) ∧ Binds K fd ps []
/-- what follows a way out -/
def Bx.out (R : RE) (Xp : XP) (Γ : Env) : Res → Prop
  | .ret d => R d Γ
  | .exc C gs => Xp C gs Γ
section
variable {B : Bx} {e a b c o : Expr} {es : List Expr} {Γ : Env} {R : RE} {Xp : XP} {d x y z : D} {ds : List D} {pos p apos : Pos} {k : Nat} {F : FS} {M : MS} {n m : Str} {C : Addr} {gs : List (Str × D)}
/-- what a way out of a pure def leaves -/
theorem res_ok {T : List Tm} {σ : L2.St} {W : Addr → Prop} {H : Hp} {Q : VK} {r : Res} {vs : List V} (g : Gd B.X.K B.F W H σ Γ (.l vs ds :: T)) (h : Bx.out R Xp Γ r) (q : ∀ v d H' Γ', R d Γ' → B.St H' σ Γ' (.v v d :: T) → Q v H') (x : B.Ex σ T Xp) :
    ResK B.X.K W (Same H) Q (WE B.Wx σ) r := by
  cases r with
  | ret d => exact fun v H' hs hv => q v d H' Γ h ((g.tl.grow hs).with hv)
  | exc C gs => exact fun a fs H' hs ha hw hf => x C gs a H' Γ h ((g.tl.grow hs).with ⟨fs, ha, hw, hf⟩)
theorem ew_call (G : Fn B.cx B.X.prog B.X.w B.X.K B.X.mg B.X.base n k F) (hk : k ≤ B.k := by exact Nat.le_of_ble_eq_true rfl) (hh : B.hot = false := by rfl) (h : AW B (e :: es) Γ (fun ds Γ1 => ∃ r, F ds r ∧ Bx.out R Xp Γ1 r) Xp) (hg : Gl B.X n := by rfl) (hdb : (n == ("__debug__" : Str)) = false := by decide)
    (he : starEach (e :: es) B.X.env = (false, eval e B.X.env) :: starEach es B.X.env := by rfl) (hpl : (backTo pos (starEach es B.X.env)).any (·.1) = false := by rfl) : EW B (.Call (.Name n p) (e :: es) [] pos) Γ R Xp := fun T σ H Q s q x => by
  obtain ⟨f, fd, ps, ok, hm, hkp, hb⟩ := G
  refine SemE.of (pe_callS ok ((B.room hh).mono hk) hg hm hkp hb B.pass semA hdb he hpl) (h T σ H _ s (fun vs ds H1 Γ1 ⟨r, hF, hr⟩ hv s1 => ?_) x)
  obtain ⟨W, g⟩ := s1
  exact ⟨W, ds, r, g.dom, g.top, hF, res_ok g hr q x⟩
theorem de_call (G : Fn B.cx B.X.prog B.X.w B.X.K B.X.mg B.X.base n k F) (h : DEs B (e :: es) Γ ds) (hF : F ds (.ret d)) (hk : k ≤ B.k := by exact Nat.le_of_ble_eq_true rfl) (hh : B.hot = false := by rfl) (hg : Gl B.X n := by rfl) (hdb : (n == ("__debug__" : Str)) = false := by decide)
    (he : starEach (e :: es) B.X.env = (false, eval e B.X.env) :: starEach es B.X.env := by rfl) (hpl : (backTo pos (starEach es B.X.env)).any (·.1) = false := by rfl) : DE B (.Call (.Name n p) (e :: es) [] pos) Γ d :=
  ew_call G hk hh (aw_pure h ⟨_, hF, rfl, rfl⟩) hg hdb he hpl
/-! methods -/
theorem pe_methW {X : Cx} {CX : CXT} {k : Nat} {f C : Addr} {fd : FuncData} {ps : List Str} {sp : Sp} {E : L2.St → XK} {m : Str} {pos apos : Pos} {e o : Expr} {es : List Expr} {ta : TE} {t : TA} {pl : Sem Bool} (he : PE X o ta) (c : Cls X.K C) (hm : Meth X.K C m f)
    (F : FnOk X.prog X.w X.K X.mg X.base CX k f fd ps sp) (hr : Room k X.A) (hb : Binds X.K fd ps []) (hx : ∀ σ, PassesAt CX X σ (E σ)) (ha : PA X (e :: es) t)
    (hst : starEach (e :: es) X.env = (false, eval e X.env) :: starEach es X.env) (hpl : (backTo pos (starEach es X.env)).any (·.1) = false)
    (ht : eval (.Call (.Attribute o m apos) (e :: es) [] pos) X.env = (do
      let ov ← eval o X.env
      standAt apos.atName
      let (f, first) ← holding [ov] (getMethod ov m pl)
      callWith pos f first (backTo pos (starEach (e :: es) X.env)) (backToKw pos (keywordEach [] X.env)))) :
    PE X (.Call (.Attribute o m apos) (e :: es) [] pos) (fun σ H Q => ta σ H fun x H1 => ∃ a dx fs, x = .ref a ∧ H1 a = some (.ins C dx fs) ∧ fs.lookup m = none ∧ t σ H1 fun vs H2 => sp (x :: vs) H2 Q (E σ)) := by
  constructor
  intro pins s σ H Q I h
  refine PySem.W.methodCall_KW (pl := pl) (thn (he.run pins s σ H _ I h) fun u s1 hh => ?_) ht
  obtain ⟨x, H1, I1, rx, a, dx, fs, ex, ea, l, q⟩ := hh
  subst ex
  obtain rfl : u = Value.ref a := rx
  refine getmeth_ok I1 ea c hm l ?_
  refine PySem.W.callWith_K (first := [.ref a]) (h₀ := X.base) I1.ok.mod.kin hm.kp (thn (ha.run pos pins s1 σ H1 _ I1 q) fun us s2 hh2 => ?_) hst hpl
  obtain ⟨vs, H2, I2, r, q2⟩ := hh2
  exact ⟨I2.kIn, run_fnS (us := .ref a :: us) (vs := .ref a :: vs) F hr hb (hx σ) I2 (.cons rfl r) q2⟩
theorem pe_methW0 {X : Cx} {CX : CXT} {k : Nat} {f C : Addr} {fd : FuncData} {ps : List Str} {sp : Sp} {E : L2.St → XK} {m : Str} {pos apos : Pos} {o : Expr} {ta : TE} {pl : Sem Bool} (he : PE X o ta) (c : Cls X.K C) (hm : Meth X.K C m f)
    (F : FnOk X.prog X.w X.K X.mg X.base CX k f fd ps sp) (hr : Room k X.A) (hb : Binds X.K fd ps []) (hx : ∀ σ, PassesAt CX X σ (E σ))
    (ht : eval (.Call (.Attribute o m apos) [] [] pos) X.env = (do
      let ov ← eval o X.env
      standAt apos.atName
      let (f, first) ← holding [ov] (getMethod ov m pl)
      callWith pos f first (backTo pos (starEach [] X.env)) (backToKw pos (keywordEach [] X.env)))) :
    PE X (.Call (.Attribute o m apos) [] [] pos) (fun σ H Q => ta σ H fun x H1 => ∃ a dx fs, x = .ref a ∧ H1 a = some (.ins C dx fs) ∧ fs.lookup m = none ∧ sp [x] H1 Q (E σ)) := by
  constructor
  intro pins s σ H Q I h
  refine PySem.W.methodCall_KW (pl := pl) (thn (he.run pins s σ H _ I h) fun u s1 hh => ?_) ht
  obtain ⟨x, H1, I1, rx, a, dx, fs, ex, ea, l, q⟩ := hh
  subst ex
  obtain rfl : u = Value.ref a := rx
  refine getmeth_ok I1 ea c hm l ?_
  exact PySem.W.callWith_K0 (first := [.ref a]) I1.kIn hm.kp (run_fnS (us := [.ref a]) (vs := [.ref a]) F hr hb (hx σ) I1 (.cons rfl .nil) q)
/-- o.m(..) of an object that does not change -/
theorem ew_meth {pl : Sem Bool} (G : Mf B.cx B.X.prog B.X.w B.X.K B.X.mg B.X.base C m k F) (hk : k ≤ B.k := by exact Nat.le_of_ble_eq_true rfl) (hh : B.hot = false := by rfl) (h : EW B o Γ (fun x Γ1 => ∃ gs, x = .obj C gs ∧ gs.lookup m = none ∧ AW B (e :: es) Γ1 (fun ds Γ2 => ∃ r, F (x :: ds) r ∧ Bx.out R Xp Γ2 r) Xp) Xp)
    (hst : starEach (e :: es) B.X.env = (false, eval e B.X.env) :: starEach es B.X.env := by rfl) (hpl : (backTo pos (starEach es B.X.env)).any (·.1) = false := by rfl)
    (ht : eval (.Call (.Attribute o m apos) (e :: es) [] pos) B.X.env = (do
      let ov ← eval o B.X.env
      standAt apos.atName
      let (f, first) ← holding [ov] (getMethod ov m pl)
      callWith pos f first (backTo pos (starEach (e :: es) B.X.env)) (backToKw pos (keywordEach [] B.X.env))) := by rfl) : EW B (.Call (.Attribute o m apos) (e :: es) [] pos) Γ R Xp := fun T σ H Q s q x => by
  obtain ⟨f, fd, ps, ok, cl, hm, hb⟩ := G
  refine SemE.of (pe_methW semE cl hm ok ((B.room hh).mono hk) hb B.pass semA hst hpl ht) (h T σ H _ s (fun v d H1 Γ1 ⟨gs, e1, hl, h1⟩ s1 => ?_) x)
  subst e1
  obtain ⟨W1, g1⟩ := id s1
  obtain ⟨r, dx, fs, rfl, hr, _, hf⟩ := rpObj g1.top
  refine ⟨r, dx, fs, rfl, hr, hf.none hl, h1 _ σ H1 _ s1 (fun vs ds H2 Γ2 ⟨res, hF, hr2⟩ hv s2 => ?_) x.cons⟩
  obtain ⟨W, g⟩ := s2
  refine ⟨W, _, res, g.dom, .cons (show Rp _ _ _ (.ref r) (.obj C gs) from g.snd) g.top, hF, ?_⟩
  exact res_ok (vs := vs) (ds := ds) (g.tl.tl.put g.top) hr2 q x
theorem ew_meth0 {pl : Sem Bool} (G : Mf B.cx B.X.prog B.X.w B.X.K B.X.mg B.X.base C m k F) (hk : k ≤ B.k := by exact Nat.le_of_ble_eq_true rfl) (hh : B.hot = false := by rfl) (h : EW B o Γ (fun x Γ1 => ∃ gs, x = .obj C gs ∧ gs.lookup m = none ∧ ∃ r, F [x] r ∧ Bx.out R Xp Γ1 r) Xp)
    (ht : eval (.Call (.Attribute o m apos) [] [] pos) B.X.env = (do
      let ov ← eval o B.X.env
      standAt apos.atName
      let (f, first) ← holding [ov] (getMethod ov m pl)
      callWith pos f first (backTo pos (starEach [] B.X.env)) (backToKw pos (keywordEach [] B.X.env))) := by rfl) : EW B (.Call (.Attribute o m apos) [] [] pos) Γ R Xp := fun T σ H Q s q x => by
  obtain ⟨f, fd, ps, ok, cl, hm, hb⟩ := G
  refine SemE.of (pe_methW0 semE cl hm ok ((B.room hh).mono hk) hb B.pass ht) (h T σ H _ s (fun v d H1 Γ1 ⟨gs, e1, hl, res, hF, hr2⟩ s1 => ?_) x)
  subst e1
  obtain ⟨W, g⟩ := s1
  obtain ⟨r, dx, fs, rfl, hr, _, hf⟩ := rpObj g.top
  refine ⟨r, dx, fs, rfl, hr, hf.none hl, W, _, res, g.dom, .cons g.top .nil, hF, ?_⟩
  exact res_ok (vs := []) (ds := []) (g.tl.put .nil) hr2 q x
theorem de_meth {pl : Sem Bool} (G : Mf B.cx B.X.prog B.X.w B.X.K B.X.mg B.X.base C m k F) (ho : DE B o Γ (.obj C gs)) (hl : gs.lookup m = none) (h : DEs B (e :: es) Γ ds) (hF : F (.obj C gs :: ds) (.ret d)) (hk : k ≤ B.k := by exact Nat.le_of_ble_eq_true rfl) (hh : B.hot = false := by rfl)
    (hst : starEach (e :: es) B.X.env = (false, eval e B.X.env) :: starEach es B.X.env := by rfl) (hpl : (backTo pos (starEach es B.X.env)).any (·.1) = false := by rfl)
    (ht : eval (.Call (.Attribute o m apos) (e :: es) [] pos) B.X.env = (do
      let ov ← eval o B.X.env
      standAt apos.atName
      let (f, first) ← holding [ov] (getMethod ov m pl)
      callWith pos f first (backTo pos (starEach (e :: es) B.X.env)) (backToKw pos (keywordEach [] B.X.env))) := by rfl) : DE B (.Call (.Attribute o m apos) (e :: es) [] pos) Γ d :=
  ew_meth G hk hh (ew_pure ho ⟨gs, rfl, hl, aw_pure h ⟨_, hF, rfl, rfl⟩⟩) hst hpl ht
theorem de_meth0 {pl : Sem Bool} (G : Mf B.cx B.X.prog B.X.w B.X.K B.X.mg B.X.base C m k F) (ho : DE B o Γ (.obj C gs)) (hl : gs.lookup m = none) (hF : F [.obj C gs] (.ret d)) (hk : k ≤ B.k := by exact Nat.le_of_ble_eq_true rfl) (hh : B.hot = false := by rfl)
    (ht : eval (.Call (.Attribute o m apos) [] [] pos) B.X.env = (do
      let ov ← eval o B.X.env
      standAt apos.atName
      let (f, first) ← holding [ov] (getMethod ov m pl)
      callWith pos f first (backTo pos (starEach [] B.X.env)) (backToKw pos (keywordEach [] B.X.env))) := by rfl) : DE B (.Call (.Attribute o m apos) [] [] pos) Γ d :=
  ew_meth0 G hk hh (ew_pure ho ⟨gs, rfl, hl, _, hF, rfl, rfl⟩) ht
/-! a method that changes the object in slot i -/
def Mut1 (i : Nat) (a C : Addr) (M : MS) (R : RE) (Xp : XP) (ds : List D) (Γ : Env) : Prop :=
  ∃ gs gs' r, Γ[i]? = some (some (.mu a C gs)) ∧ M gs ds gs' r ∧ Bx.out R Xp (Γ.set i (some (.mu a C gs'))) r
theorem mres_ok {T : List Tm} {σ : L2.St} {W : Addr → Prop} {H : Hp} {Q : VK} {r : Res} {vs : List V} {i : Nat} {a : Addr} {gs' : List (Str × D)} (g : Gd B.X.K B.F W H σ Γ (.l vs ds :: T)) (hi : Γ[i]? = some (some (.mu a C gs))) (hσ : σ[i]? = some (some (.ref a))) (wa : W a) (nr : B.F.R a ∨ B.F.H0 a = none)
    (h : Bx.out R Xp (Γ.set i (some (.mu a C gs'))) r) (q : ∀ v d H' Γ', R d Γ' → B.St H' σ Γ' (.v v d :: T) → Q v H') (x : B.Ex σ T Xp) :
    ResK B.X.K W (fun H' => (∀ b o, b ≠ a → H b = some o → H' b = some o) ∧ ∃ dx' fs', H' a = some (.ins C dx' fs') ∧ RpF B.X.K W H' fs' gs') Q (WE B.Wx σ) r := by
  cases r with
  | ret d => exact fun v H' ⟨k, dx, fs', e, hf⟩ hv => q v d H' _ h ((g.tl.chg (s' := .mu a C _) hi trivial trivial hσ wa nr (by rw [e]; exact fun z => nomatch z) k ⟨dx, fs', rfl, wa, nr, e, hf⟩).with hv)
  | exc C2 gs2 => exact fun b fs H' ⟨k, dx, fs', e, hf⟩ hb hw hg => x C2 gs2 b H' _ h ((g.tl.chg (s' := .mu a C _) hi trivial trivial hσ wa nr (by rw [e]; exact fun z => nomatch z) k ⟨dx, fs', rfl, wa, nr, e, hf⟩).with ⟨fs, hb, hw, hg⟩)
theorem ew_mmeth {pl : Sem Bool} {p1 : Pos} {a : Addr} (i : Nat) (G : Mm B.cx B.X.prog B.X.w B.X.K B.X.mg B.X.base C m k M) (hk : k ≤ B.k := by exact Nat.le_of_ble_eq_true rfl) (hh : B.hot = false := by rfl) (hi : ∃ gs, Γ[i]? = some (some (.mu a C gs)) ∧ gs.lookup m = none) (h : AW B (e :: es) Γ (Mut1 i a C M R Xp) Xp)
    (hN : B.X.N[i]? = some n := by rfl) (hv : Vis B.X.env.scope n := by first | exact Or.inl rfl | exact Or.inr (Or.inl rfl) | exact Or.inr (Or.inr rfl)) (hd : (n == ("__debug__" : Str)) = false := by decide) (hc : (n == ("__classdict__" : Str)) = false := by decide)
    (hst : starEach (e :: es) B.X.env = (false, eval e B.X.env) :: starEach es B.X.env := by rfl) (hpl : (backTo pos (starEach es B.X.env)).any (·.1) = false := by rfl)
    (ht : eval (.Call (.Attribute (.Name n p1) m apos) (e :: es) [] pos) B.X.env = (do
      let ov ← eval (.Name n p1) B.X.env
      standAt apos.atName
      let (f, first) ← holding [ov] (getMethod ov m pl)
      callWith pos f first (backTo pos (starEach (e :: es) B.X.env)) (backToKw pos (keywordEach [] B.X.env))) := by rfl) : EW B (.Call (.Attribute (.Name n p1) m apos) (e :: es) [] pos) Γ R Xp := fun T σ H Q s q x => by
  obtain ⟨f, fd, ps, ok, cl, hm, hb⟩ := G
  obtain ⟨gs, hi, hl⟩ := hi
  obtain ⟨W1, g1⟩ := id s
  obtain ⟨v, hσ, dx, fs, rfl, wa, nr, ha, hf⟩ := g1.slot i _ hi
  refine SemE.of (pe_methW (pe_var hN hv hd hc) cl hm ok ((B.room hh).mono hk) hb B.pass semA hst hpl ht) ⟨.ref a, hσ, a, dx, fs, rfl, ha, hf.none hl, h T σ H _ s (fun vs ds H2 Γ2 ⟨gs2, gs3, r, hi2, hM, hr2⟩ hv s2 => ?_) x⟩
  obtain ⟨W, g⟩ := s2
  obtain ⟨v', hσ', dx', fs', rfl, wa', nr', ha', hf'⟩ := g.slot i _ hi2
  exact ⟨W, a, dx', fs', gs2, vs, ds, gs3, r, rfl, wa', ha', g.dom, hf', g.top, hM, mres_ok g hi2 hσ wa' nr' hr2 q x⟩
theorem ew_mmeth0 {pl : Sem Bool} {p1 : Pos} {a : Addr} (i : Nat) (G : Mm B.cx B.X.prog B.X.w B.X.K B.X.mg B.X.base C m k M) (hk : k ≤ B.k := by exact Nat.le_of_ble_eq_true rfl) (hh : B.hot = false := by rfl) (hi : ∃ gs, Γ[i]? = some (some (.mu a C gs)) ∧ gs.lookup m = none) (h : Mut1 i a C M R Xp [] Γ)
    (hN : B.X.N[i]? = some n := by rfl) (hv : Vis B.X.env.scope n := by first | exact Or.inl rfl | exact Or.inr (Or.inl rfl) | exact Or.inr (Or.inr rfl)) (hd : (n == ("__debug__" : Str)) = false := by decide) (hc : (n == ("__classdict__" : Str)) = false := by decide)
    (ht : eval (.Call (.Attribute (.Name n p1) m apos) [] [] pos) B.X.env = (do
      let ov ← eval (.Name n p1) B.X.env
      standAt apos.atName
      let (f, first) ← holding [ov] (getMethod ov m pl)
      callWith pos f first (backTo pos (starEach [] B.X.env)) (backToKw pos (keywordEach [] B.X.env))) := by rfl) : EW B (.Call (.Attribute (.Name n p1) m apos) [] [] pos) Γ R Xp := fun T σ H Q s q x => by
  obtain ⟨f, fd, ps, ok, cl, hm, hb⟩ := G
  obtain ⟨gs, hi, hl⟩ := hi
  obtain ⟨W, g⟩ := s
  obtain ⟨v, hσ, dx, fs, rfl, wa, nr, ha, hf⟩ := g.slot i _ hi
  obtain ⟨gs2, gs3, r, hi2, hM, hr2⟩ := h
  rw [hi] at hi2
  cases hi2
  refine SemE.of (pe_methW0 (pe_var hN hv hd hc) cl hm ok ((B.room hh).mono hk) hb B.pass ht) ⟨.ref a, hσ, a, dx, fs, rfl, ha, hf.none hl, W, a, dx, fs, gs, [], [], gs3, r, rfl, wa, ha, g.dom, hf, .nil, hM, ?_⟩
  exact mres_ok (vs := []) (ds := []) (g.put .nil) hi hσ wa nr hr2 q x
end
end Sd

set_option exponentiation.threshold 256
set_option Elab.async false
set_option linter.all false
set_option maxRecDepth 100000
set_option maxHeartbeats 4000000
namespace Sd
open PySem PySem.Spec PyProof.Rows L2
/-! ## Objects made -/
theorem ins_ne {H : Hp} {a b : Addr} {o : HO} (h : H a = some o) (h' : H b = none) : b ≠ a := fun z => by rw [z, h] at h'; cases h'
section
variable {B : Bx} {e a b c o : Expr} {es : List Expr} {Γ : Env} {R : RE} {Xp : XP} {d x y z : D} {ds : List D} {pos p apos : Pos} {k : Nat} {F : FS} {M : MS} {n m : Str} {C : Addr} {gs : List (Str × D)}
/-- the new object, data from now on -/
theorem made_ok {T : List Tm} {σ : L2.St} {W : Addr → Prop} {H : Hp} {vs : List V} {x dx dx' : Addr} {H' : Hp} {fs' : List (Str × V)} (g : Gd B.X.K B.F W H σ Γ (.l vs ds :: T)) (hx : H x = none) (hdx : H dx = none) (k : ∀ b o, b ≠ x → upd (upd H dx (.own x)) x (.ins C dx []) b = some o → H' b = some o)
    (e : H' x = some (.ins C dx' fs')) (hf : RpF B.X.K (fun a => W a ∨ a = x) H' fs' gs) : B.St H' σ Γ (.v (.ref x) (.obj C gs) :: T) := by
  have same : Same H H' := fun b u eb => k b u (fun z => by rw [z, hx] at eb; cases eb) (by
    rw [upd_ne (fun z => by rw [z, hx] at eb; cases eb), upd_ne (fun z => by rw [z, hdx] at eb; cases eb)]
    exact eb)
  have kp : Kp (fun a => W a ∨ a = x) W H' H' := ⟨fun _ _ _ e => e, fun a z => .inl (.inl z)⟩
  exact (g.tl.grow same).with (.obj e (fun z => g.dom x z hx) (RpF.keep kp hf))
theorem ew_make (G : Mi B.cx B.X.prog B.X.w B.X.K B.X.mg B.X.base n C k M) (hk : k + 1 ≤ B.k := by exact Nat.le_of_ble_eq_true rfl) (hh : B.hot = false := by rfl) (h : AW B (e :: es) Γ (fun ds Γ1 => ∃ gs, M [] ds gs (.ret .non) ∧ R (.obj C gs) Γ1) Xp) (hg : Gl B.X n := by rfl) (hdb : (n == ("__debug__" : Str)) = false := by decide)
    (he : starEach (e :: es) B.X.env = (false, eval e B.X.env) :: starEach es B.X.env := by rfl) (hpl : (backTo pos (starEach es B.X.env)).any (·.1) = false := by rfl) : EW B (.Call (.Name n p) (e :: es) [] pos) Γ R Xp := fun T σ H Q s q x => by
  obtain ⟨f, fd, ps, ok, M1, hm, hb⟩ := G
  refine SemE.of (pe_make M1 ok ((B.room hh).mono hk) hg hm hb .nil B.pass0 semA hdb he hpl) (h T σ H _ s (fun vs ds H1 Γ1 ⟨gs, hM, hr⟩ hv s1 x dx hx hdx hne => ?_) x)
  obtain ⟨W, g⟩ := s1
  have same : Same H1 (upd (upd H1 dx (.own x)) x (.ins C dx [])) := (same_new hdx).trans (same_new (by rw [upd_ne (Ne.symm hne)]; exact hx))
  have kp : Kp W (fun a => W a ∨ a = x) H1 (upd (upd H1 dx (.own x)) x (.ins C dx [])) := ⟨fun b u _ e => same b u e, fun a z => z.elim .inl fun e => .inr (e ▸ hx)⟩
  refine ⟨fun a => W a ∨ a = x, x, dx, [], [], vs ++ [], ds, gs, .ret .non, rfl, .inr rfl, upd_same, fun a z => ?_, .nil, by rw [List.append_nil]; exact RpL.keep kp g.top, hM, fun v H' ⟨k, dx', fs', e, hf⟩ hv => ⟨rpNon hv, q _ _ H' Γ1 hr (made_ok g hx hdx k e hf)⟩⟩
  rcases z with z | z
  · intro zz
    cases q : H1 a with
    | none => exact g.dom a z q
    | some u => rw [same a u q] at zz; cases zz
  · subst z; rw [upd_same]; exact fun z => nomatch z
theorem de_make (G : Mi B.cx B.X.prog B.X.w B.X.K B.X.mg B.X.base n C k M) (h : DEs B (e :: es) Γ ds) (hM : M [] ds gs (.ret .non)) (hk : k + 1 ≤ B.k := by exact Nat.le_of_ble_eq_true rfl) (hh : B.hot = false := by rfl) (hg : Gl B.X n := by rfl) (hdb : (n == ("__debug__" : Str)) = false := by decide)
    (he : starEach (e :: es) B.X.env = (false, eval e B.X.env) :: starEach es B.X.env := by rfl) (hpl : (backTo pos (starEach es B.X.env)).any (·.1) = false := by rfl) : DE B (.Call (.Name n p) (e :: es) [] pos) Γ (.obj C gs) :=
  ew_make G hk hh (aw_pure h ⟨gs, hM, rfl, rfl⟩) hg hdb he hpl

/-! ## Built-ins -/
variable {id T : String} {v : D}
theorem ew_bi {R : RE} (h : AW B (e :: es) Γ (fun ds Γ1 => CW B (.builtin id) ds fun z => R z Γ1) Xp) (hm : B.X.mg n = none) (hv : bootBuiltins n = some (.builtin id)) (hg : Gl B.X n) (hn : n ≠ "__name__") (hdb : (n == ("__debug__" : Str)) = false)
    (he : starEach (e :: es) B.X.env = (false, eval e B.X.env) :: starEach es B.X.env) (hpl : (backTo pos (starEach es B.X.env)).any (·.1) = false) : EW B (.Call (.Name n p) (e :: es) [] pos) Γ R Xp := fun T σ H Q s q x =>
  SemE.of (pe_callB semC hg hm hv semA hn hdb he hpl) (h T σ H _ s (fun vs ds H1 Γ1 hc hv s1 => hc T σ Γ1 vs H1 Q s1 fun z d H' r s' => q z d H' Γ1 r s') x)
theorem de_bi (hm : B.X.mg n = none) (h : DEs B (e :: es) Γ ds) (hc : CD B (.builtin id) ds z) (hv : bootBuiltins n = some (.builtin id) := by decide +kernel) (hg : Gl B.X n := by rfl) (hn : n ≠ "__name__" := by decide) (hdb : (n == ("__debug__" : Str)) = false := by decide)
    (he : starEach (e :: es) B.X.env = (false, eval e B.X.env) :: starEach es B.X.env := by rfl) (hpl : (backTo pos (starEach es B.X.env)).any (·.1) = false := by rfl) : DE B (.Call (.Name n p) (e :: es) [] pos) Γ z :=
  ew_bi (aw_pure h fun T σ Γ' vs H Q s q => hc T σ Γ' vs H Q s fun z' d H' e s' => q z' d H' ⟨e, rfl⟩ s') hm hv hg hn hdb he hpl
theorem ew_bty {R : RE} (h : AW B (e :: es) Γ (fun ds Γ1 => CW B (.type id) ds fun z => R z Γ1) Xp) (hm : B.X.mg n = none) (hv : bootBuiltins n = some (.type id)) (hg : Gl B.X n) (hn : n ≠ "__name__") (hdb : (n == ("__debug__" : Str)) = false)
    (he : starEach (e :: es) B.X.env = (false, eval e B.X.env) :: starEach es B.X.env) (hpl : (backTo pos (starEach es B.X.env)).any (·.1) = false) : EW B (.Call (.Name n p) (e :: es) [] pos) Γ R Xp := fun T σ H Q s q x =>
  SemE.of (pe_callTy semC hg hm hv semA hn hdb he hpl) (h T σ H _ s (fun vs ds H1 Γ1 hc hv s1 => hc T σ Γ1 vs H1 Q s1 fun z d H' r s' => q z d H' Γ1 r s') x)
theorem de_bty (hm : B.X.mg n = none) (h : DEs B (e :: es) Γ ds) (hc : CD B (.type id) ds z) (hv : bootBuiltins n = some (.type id) := by decide +kernel) (hg : Gl B.X n := by rfl) (hn : n ≠ "__name__" := by decide) (hdb : (n == ("__debug__" : Str)) = false := by decide)
    (he : starEach (e :: es) B.X.env = (false, eval e B.X.env) :: starEach es B.X.env := by rfl) (hpl : (backTo pos (starEach es B.X.env)).any (·.1) = false := by rfl) : DE B (.Call (.Name n p) (e :: es) [] pos) Γ z :=
  ew_bty (aw_pure h fun T σ Γ' vs H Q s q => hc T σ Γ' vs H Q s fun z' d H' e s' => q z' d H' ⟨e, rfl⟩ s') hm hv hg hn hdb he hpl
theorem cd_of {f : Value} (h : ∀ T σ Γ W vs H Q, Gd B.X.K B.F W H σ Γ (.l vs ds :: T) → (∀ u H', B.St H' σ Γ (.v u z :: T) → Q u H') → SemC B.X f vs H Q) : CD B f ds z := fun T σ Γ vs H Q s q => by
  obtain ⟨W, g⟩ := s
  exact h T σ Γ W vs H Q g fun u H' s' => q u z H' rfl s'
theorem cd_lenL : CD B (.builtin "len") [.lst ds] (.int ds.length) := cd_of fun T σ Γ W vs H Q g q => by
  obtain ⟨u, rfl, hu⟩ := rplOne g.top
  obtain ⟨l, xs, rfl, hs, _, _, hr⟩ := rpLst hu
  refine SemC.of call_len_seq ⟨l, xs, rfl, .inl hs, ?_⟩
  rw [hr.length]
  exact q _ H (g.tl.with (.int _))
theorem cd_lenR : CD B (.builtin "len") [.raw ds] (.int ds.length) := cd_of fun T σ Γ W vs H Q g q => by
  obtain ⟨u, rfl, hu⟩ := rplOne g.top
  obtain ⟨l, xs, rfl, hs, hr⟩ := rpRaw hu
  refine SemC.of call_len_seq ⟨l, xs, rfl, .inl hs, ?_⟩
  rw [hr.length]
  exact q _ H (g.tl.with (.int _))
theorem cd_lenT : CD B (.builtin "len") [.tup ds] (.int ds.length) := cd_of fun T σ Γ W vs H Q g q => by
  obtain ⟨u, rfl, hu⟩ := rplOne g.top
  obtain ⟨l, xs, rfl, hs, hr⟩ := rpTup hu
  refine SemC.of call_len_seq ⟨l, xs, rfl, .inr hs, ?_⟩
  rw [hr.length]
  exact q _ H (g.tl.with (.int _))
theorem cd_lenS {x : Str} (hx : x.length ≤ sizeLine) : CD B (.builtin "len") [.str x] (.int x.length) := cd_of fun T σ Γ W vs H Q g q => by
  obtain ⟨u, rfl, hu⟩ := rplOne g.top
  cases rpStr hu
  exact SemC.of call_len_str ⟨x, rfl, hx, q _ H (g.tl.with (.int _))⟩
theorem cd_abs {i : Int} : CD B (.builtin "abs") [.int i] (.int (if i < 0 then -i else i)) := cd_of fun T σ Γ W vs H Q g q => by
  obtain ⟨u, rfl, hu⟩ := rplOne g.top
  cases rpInt hu
  exact SemC.of call_abs ⟨i, rfl, q _ H (g.tl.with (.int _))⟩
theorem cd_intB {k : Bool} : CD B (.type "int") [.bl k] (.int (if k then 1 else 0)) := cd_of fun T σ Γ W vs H Q g q => by
  obtain ⟨u, rfl, hu⟩ := rplOne g.top
  cases rpBl hu
  exact SemC.of call_int1 (.inr ⟨k, rfl, q _ H (g.tl.with (.int _))⟩)
theorem cd_strI {i : Int} (h : i.natAbs.log2 < 1920) : CD B (.type "str") [.int i] (.str (toString i)) := cd_of fun T σ Γ W vs H Q g q => by
  obtain ⟨u, rfl, hu⟩ := rplOne g.top
  cases rpInt hu
  exact SemC.of call_str_int ⟨i, rfl, h, q _ H (g.tl.with (.str _))⟩
theorem cd_ord {c : Nat} : CD B (.builtin "ord") [.str ⟨#[c]⟩] (.int c) := cd_of fun T σ Γ W vs H Q g q => by
  obtain ⟨u, rfl, hu⟩ := rplOne g.top
  cases rpStr hu
  exact SemC.of call_ord ⟨_, rfl, rfl, q _ H (g.tl.with (.int _))⟩
theorem cd_tuple : CD B (.type "tuple") [.lst ds] (.tup ds) := cd_of fun T σ Γ W vs H Q g q => by
  obtain ⟨u, rfl, hu⟩ := rplOne g.top
  obtain ⟨l, xs, rfl, hs, _, _, hr⟩ := rpLst hu
  exact SemC.of call_tuple_of ⟨l, xs, rfl, .inl ⟨hs, fun p hp => q _ _ (Sta.newT (g.tl.with (p := .l _ _) hr) hp)⟩⟩
theorem cd_list : CD B (.type "list") [.tup ds] (.lst ds) := cd_of fun T σ Γ W vs H Q g q => by
  obtain ⟨u, rfl, hu⟩ := rplOne g.top
  obtain ⟨l, xs, rfl, hs, hr⟩ := rpTup hu
  exact SemC.of call_list_of ⟨l, xs, rfl, .inr hs, fun p hp => q _ _ (Sta.newL (g.tl.with (p := .l _ _) hr) hp)⟩
theorem rpl_bls {K : PySem.W.Frag} {W : Addr → Prop} {H : Hp} : ∀ {vs : List V} {bs : List Bool}, RpL K W H vs (bs.map D.bl) → vs = bs.map V.bl
  | _, [], h => rplNil h
  | _, b :: bs, .cons h r => by
    cases rpBl h
    rw [rpl_bls r] <;> rfl
theorem rpl_ints {K : PySem.W.Frag} {W : Addr → Prop} {H : Hp} : ∀ {vs : List V} {bs : List Int}, RpL K W H vs (bs.map D.int) → vs = bs.map V.int
  | _, [], h => rplNil h
  | _, b :: bs, .cons h r => by
    cases rpInt h
    rw [rpl_ints r] <;> rfl
theorem rpl_strs {K : PySem.W.Frag} {W : Addr → Prop} {H : Hp} : ∀ {vs : List V} {bs : List Str}, RpL K W H vs (bs.map D.str) → vs = bs.map V.str
  | _, [], h => rplNil h
  | _, b :: bs, .cons h r => by
    cases rpStr h
    rw [rpl_strs r] <;> rfl
theorem rpl_of_strs {K : PySem.W.Frag} {W : Addr → Prop} {H : Hp} : ∀ {bs : List Str}, RpL K W H (bs.map V.str) (bs.map D.str)
  | [] => .nil
  | b :: bs => .cons (.str b) rpl_of_strs
theorem cd_all {bs : List Bool} (hh : B.hot = false := by rfl) : CD B (.builtin "all") [.lst (bs.map .bl)] (.bl (bs.all fun k => k)) := cd_of fun T σ Γ W vs H Q g q => by
  obtain ⟨u, rfl, hu⟩ := rplOne g.top
  obtain ⟨l, xs, rfl, hs, _, _, hr⟩ := rpLst hu
  cases rpl_bls hr
  exact SemC.of (cr_all (B.calm hh)) ⟨l, bs, rfl, hs, q _ H (g.tl.with (.bl _))⟩
theorem cd_any {bs : List Bool} (hh : B.hot = false := by rfl) : CD B (.builtin "any") [.lst (bs.map .bl)] (.bl (bs.any fun k => k)) := cd_of fun T σ Γ W vs H Q g q => by
  obtain ⟨u, rfl, hu⟩ := rplOne g.top
  obtain ⟨l, xs, rfl, hs, _, _, hr⟩ := rpLst hu
  cases rpl_bls hr
  exact SemC.of (cr_any (B.calm hh)) ⟨l, bs, rfl, hs, q _ H (g.tl.with (.bl _))⟩
theorem cd_sum {ns : List Int} (hh : B.hot = false := by rfl) : CD B (.builtin "sum") [.lst (ns.map .int)] (.int ns.sum) := cd_of fun T σ Γ W vs H Q g q => by
  obtain ⟨u, rfl, hu⟩ := rplOne g.top
  obtain ⟨l, xs, rfl, hs, _, _, hr⟩ := rpLst hu
  cases rpl_ints hr
  exact SemC.of (cr_sum (B.calm hh)) ⟨l, ns, rfl, hs, q _ H (g.tl.with (.int _))⟩

/-! ## Texts' methods -/
theorem de_split {a b : Str} (ho : DE B o Γ (.str a)) (he : DE B e Γ (.str b)) (hb : (b.length == 0) = false) (ha : a.length + 2 ≤ sizeLine) (hs : starEach [e] B.X.env = [(false, eval e B.X.env)] := by rfl) (hbase : attributeBase o "split" B.X.env (eval o B.X.env) = eval o B.X.env := by rfl) (hline : (apos.endLine == pos.line) = true := by rfl) :
    DE B (.Call (.Attribute o "split" apos) [e] [] pos) Γ (.lst ((Txt.split a b).map .str)) := de_of fun T σ H Q s q =>
  SemE.of (pe_split semE semE hs hbase hline) (ho.run s fun v H1 s1 => ⟨⟨a, s1.str'⟩, he.run s1 fun w H2 s2 => ⟨a, b, s2.tail.str', by rw [s2.str'], hb, ha, fun p hp => by
    obtain ⟨W, g⟩ := s2
    exact q _ _ (Sta.newL (g.tl.tl.with (p := .l _ _) rpl_of_strs) hp)⟩⟩)
theorem de_partition {a b : Str} (ho : DE B o Γ (.str a)) (he : DE B e Γ (.str b)) (hb : (b.length == 0) = false) (ha : a.length ≤ sizeLine) (hs : starEach [e] B.X.env = [(false, eval e B.X.env)] := by rfl) (hbase : attributeBase o "partition" B.X.env (eval o B.X.env) = eval o B.X.env := by rfl) (hline : (apos.endLine == pos.line) = true := by rfl) :
    DE B (.Call (.Attribute o "partition" apos) [e] [] pos) Γ (.tup [.str (Txt.partition a b).1, .str (Txt.partition a b).2.1, .str (Txt.partition a b).2.2]) := de_of fun T σ H Q s q =>
  SemE.of (pe_partition semE semE hs hbase hline) (ho.run s fun v H1 s1 => ⟨⟨a, s1.str'⟩, he.run s1 fun w H2 s2 => ⟨a, b, s2.tail.str', by rw [s2.str'], hb, ha, fun p hp => by
    obtain ⟨W, g⟩ := s2
    exact q _ _ (Sta.newT (g.tl.tl.with (p := .l _ _) (.cons (.str _) (.cons (.str _) (.cons (.str _) .nil)))) hp)⟩⟩)
theorem de_join {a : Str} {ys : List Str} (ho : DE B o Γ (.str a)) (he : DE B e Γ (.lst (ys.map .str))) (hl : (ys.map (·.length)).sum + ys.length * a.length ≤ 16777216) (hs : starEach [e] B.X.env = [(false, eval e B.X.env)] := by rfl) (hbase : attributeBase o "join" B.X.env (eval o B.X.env) = eval o B.X.env := by rfl) (hline : (apos.endLine == pos.line) = true := by rfl) :
    DE B (.Call (.Attribute o "join" apos) [e] [] pos) Γ (.str (Txt.join a ys)) := de_of fun T σ H Q s q =>
  SemE.of (pe_join semE semE hs hbase hline) (ho.run s fun v H1 s1 => ⟨⟨a, s1.str'⟩, he.run s1 fun w H2 s2 => by
    obtain ⟨W, g⟩ := s2
    obtain ⟨l, xs, rfl, hl', _, _, hr⟩ := rpLst g.top
    cases rpl_strs hr
    exact ⟨a, l, ys, rpStr g.snd, rfl, .inl hl', hl, q _ H2 (g.tl.tl.with (.str _))⟩⟩)
theorem de_starts {a b : Str} (ho : DE B o Γ (.str a)) (he : DE B e Γ (.str b)) (hs : starEach [e] B.X.env = [(false, eval e B.X.env)] := by rfl) (hbase : attributeBase o "startswith" B.X.env (eval o B.X.env) = eval o B.X.env := by rfl) (hline : (apos.endLine == pos.line) = true := by rfl) :
    DE B (.Call (.Attribute o "startswith" apos) [e] [] pos) Γ (.bl (Txt.startswith a b)) := de_of fun T σ H Q s q =>
  SemE.of (pe_m1 PySem.F.slot_str_startswith PySem.F.type_str_startswith mt_startswith semE semE hs hbase hline) (ho.run s fun v H1 s1 => ⟨⟨a, s1.str'⟩, he.run s1 fun w H2 s2 => ⟨a, b, s2.tail.str', by rw [s2.str'], q _ H2 s2.tail.tail.bl⟩⟩)
end
end Sd

set_option exponentiation.threshold 256
set_option Elab.async false
set_option linter.all false
set_option maxRecDepth 100000
set_option maxHeartbeats 4000000
namespace Sd
open PySem PySem.Spec PyProof.Rows L2
/-! ## Statements -/
structure Post where
  nx : Env → Prop
  rt : RE
  ex : XP
  bk : Env → Prop
  ct : Env → Prop
def Post.exs (P : Post) (x : XP) : Post := { P with ex := x }
structure Bx.Real (B : Bx) (T : List Tm) (P : Post) (D : Ends) : Prop where
  nx : ∀ σ H Γ, P.nx Γ → B.St H σ Γ T → D.nx σ H
  rt : ∀ v d σ H Γ, P.rt d Γ → B.St H σ Γ (.v v d :: T) → D.rt v H
  ex : ∀ σ, B.Ex σ T P.ex
  bk : ∀ σ H Γ, P.bk Γ → B.St H σ Γ T → D.bk σ H
  ct : ∀ σ H Γ, P.ct Γ → B.St H σ Γ T → D.ct σ H
def SW (B : Bx) (st : Stmt) (Γ : Env) (P : Post) : Prop := ∀ T σ H D, B.St H σ Γ T → B.Real T P D → SemS B.X st D σ H
def SsW (B : Bx) (sts : List Stmt) (Γ : Env) (P : Post) : Prop := ∀ T σ H D, B.St H σ Γ T → B.Real T P D → SemSs B.X sts D σ H
/-- what follows is another -/
def Post.then (P : Post) (n : Env → Prop) : Post := { P with nx := n }
theorem Bx.Real.then {B : Bx} {T : List Tm} {P : Post} {D : Ends} {n : Env → Prop} {m : L2.St → Hp → Prop} (r : B.Real T P D) (h : ∀ σ H Γ, n Γ → B.St H σ Γ T → m σ H) : B.Real T (P.then n) { D with nx := m } := ⟨h, r.rt, r.ex, r.bk, r.ct⟩
section
variable {B : Bx} {e a b c o : Expr} {es : List Expr} {st : Stmt} {rest body orelse : List Stmt} {Γ Γ' : Env} {R : RE} {Xp : XP} {P : Post} {d x y z : D} {ds : List D} {pos p p' apos : Pos} {k : Nat} {n m f : Str} {C : Addr} {gs : List (Str × D)}
theorem ss_nil (h : P.nx Γ) : SsW B [] Γ P := fun T σ H D s r => SemSs.of pss_nil (r.nx σ H Γ h s)
theorem ss_cons (h : SW B st Γ (P.then fun Γ1 => SsW B rest Γ1 P)) : SsW B (st :: rest) Γ P := fun T σ H D s r =>
  SemSs.of (pss_cons semS semSs) (h T σ H { D with nx := SemSs B.X rest D } s (r.then fun σ1 H1 Γ1 h1 s1 => h1 T σ1 H1 D s1 r))
theorem ss_one (h : SW B st Γ P) : SsW B [st] Γ P := ss_cons (fun T σ H D s r => h T σ H D s ⟨fun σ1 H1 Γ1 h1 s1 => r.nx σ1 H1 Γ1 (ss_nil h1) s1, r.rt, r.ex, r.bk, r.ct⟩)
/-- names forgotten; a list of one's own becomes data -/
theorem ss_weak (h : SsW B rest Γ' P) (hl : Γ'.length = Γ.length) (w : ∀ (i : Nat) (s : Sl), Γ'[i]? = some (some s) → Γ[i]? = some (some s)) : SsW B rest Γ P := fun T σ H D s r => h T σ H D (s.weak hl w) r
theorem ss_freeze (i : Nat) (hi : Γ[i]? = some (some (.ow ds))) (h : SsW B rest (Γ.set i (some (.im (.lst ds)))) P) : SsW B rest Γ P := fun T σ H D ⟨W, g⟩ r => h T σ H D (g.freeze hi) r
theorem ss_env (h : SsW B rest Γ' P) (e : Γ = Γ') : SsW B rest Γ P := e ▸ h
theorem sw_expr (h : EW B e Γ (fun _ Γ1 => P.nx Γ1) P.ex) (hs : swapsWith e none pos.line B.X.env = pure false := by rfl) : SW B (.Expr e pos) Γ P := fun T σ H D s r =>
  SemS.of (ps_expr semE hs) (h T σ H _ s (fun v d H' Γ' q s' => r.nx σ H' Γ' q s'.tail) (r.ex σ))
theorem sw_ret (h : EW B e Γ P.rt P.ex) : SW B (.Return (some e) pos) Γ P := fun T σ H D s r =>
  SemS.of (ps_ret semE) (h T σ H _ s (fun v d H' Γ' q s' => r.rt v d σ H' Γ' q s') (r.ex σ))
theorem sw_retN (h : P.rt .non Γ) : SW B (.Return none pos) Γ P := fun T σ H D s r => SemS.of ps_retN (r.rt .non .non σ H Γ h s.non)
theorem sw_retD (h : DE B e Γ d) (r : P.rt d Γ) : SW B (.Return (some e) pos) Γ P := sw_ret (ew_pure h r)
theorem sw_if (h : TW B c Γ (fun k Γ1 => (k = true → SsW B body Γ1 P) ∧ (k = false → SsW B orelse Γ1 P)) P.ex) : SW B (.If c body orelse pos) Γ P := fun T σ H D s r =>
  SemS.of (ps_if semT semSs semSs) (h T σ H _ s (fun k H1 Γ1 ⟨h1, h2⟩ s1 => by
    cases k with
    | true =>
      rw [if_pos rfl]
      exact h1 rfl T σ H1 D s1 r
    | false =>
      rw [if_neg Bool.false_ne_true]
      exact h2 rfl T σ H1 D s1 r) (r.ex σ))
theorem sw_ifD {k : Bool} (h : TD B c Γ k) (h1 : k = true → SsW B body Γ P) (h2 : k = false → SsW B orelse Γ P) : SW B (.If c body orelse pos) Γ P := sw_if (tw_pure h ⟨h1, h2⟩)
/-! stores -/
theorem sw_set (i : Nat) (h : EW B e Γ (fun d Γ1 => P.nx (Γ1.set i (some (.im d)))) P.ex) (hN : B.X.N[i]? = some n := by rfl) (hx : Loc B.X.env.scope n := by first | exact Or.inl rfl | exact Or.inr rfl) (hs : swapsWith e (some (.Name n p')) pos.line B.X.env = pure false := by rfl)
    (hf : B.X.fn n = true ∨ B.X.env.scope.names.lookup n = some .local := by first | exact .inl rfl | exact .inr rfl) : SW B (.Assign [.Name n p'] e pos) Γ P := fun T σ H D s r =>
  SemS.of (ps_set B.nd hN hx semE hs hf) (h T σ H _ s (fun v d H' Γ' q s' => r.nx _ H' _ q s'.store) (r.ex σ))
theorem sw_setD (i : Nat) (h : DE B e Γ d) (q : P.nx (Γ.set i (some (.im d)))) (hN : B.X.N[i]? = some n := by rfl) (hx : Loc B.X.env.scope n := by first | exact Or.inl rfl | exact Or.inr rfl) (hs : swapsWith e (some (.Name n p')) pos.line B.X.env = pure false := by rfl)
    (hf : B.X.fn n = true ∨ B.X.env.scope.names.lookup n = some .local := by first | exact .inl rfl | exact .inr rfl) : SW B (.Assign [.Name n p'] e pos) Γ P := sw_set i (ew_pure h q) hN hx hs hf
/-- all names of a row, from the left -/
def setS : L2.St → List Nat → List V → L2.St
  | σ, i :: is, v :: vs => setS (σ.set i (some v)) is vs
  | σ, _, _ => σ
def setE : Env → List Nat → List D → Env
  | Γ, i :: is, d :: ds => setE (Γ.set i (some (.im d))) is ds
  | Γ, _, _ => Γ
theorem setS_length : ∀ (is : List Nat) (σ : L2.St) (vs : List V), (setS σ is vs).length = σ.length
  | [], σ, vs => rfl
  | i :: is, σ, [] => rfl
  | i :: is, σ, v :: vs => by
    unfold setS
    rw [setS_length is _ vs, List.length_set]
theorem sta_setE {K : PySem.W.Frag} {F : Frame} {H : Hp} {T : List Tm} : ∀ (is : List Nat) {σ : L2.St} {Γ : Env} {vs : List V} {ds : List D}, is.length = ds.length → Sta K F H σ Γ (.l vs ds :: T) → Sta K F H (setS σ is vs) (setE Γ is ds) T
  | [], σ, Γ, vs, [], _, s => by
    obtain ⟨W, g⟩ := s
    cases rplNil g.top
    exact ⟨W, g.tl⟩
  | i :: is, σ, Γ, vs, d :: ds, hl, s => by
    obtain ⟨W, g⟩ := s
    have h : RpL K W H vs (d :: ds) := g.top
    cases h with
    | cons hv hr =>
      rename_i v vs
      exact sta_setE is (by simpa using hl) (Sta.store ((g.tl.put (p := .l vs ds) hr).with (p := .v v d) hv))
  | [], σ, Γ, vs, d :: ds, hl, s => by simp at hl
  | i :: is, σ, Γ, vs, [], hl, s => by simp at hl
def gNames : List Nat → TGs
  | [] => gNil
  | i :: is => gCons (gName i) (gNames is)
theorem gNames_of {Q : L2.St → Hp → Prop} : ∀ (is : List Nat) (vs : List V) (σ : L2.St) (H : Hp), vs.length = is.length → Q (setS σ is vs) H → gNames is vs σ H Q
  | [], [], σ, H, _, q => ⟨rfl, q⟩
  | i :: is, v :: vs, σ, H, hl, q => ⟨v, vs, rfl, gNames_of is vs _ H (by simpa using hl) q⟩
  | [], v :: vs, σ, H, hl, q => by simp at hl
  | i :: is, [], σ, H, hl, q => by simp at hl
/-- what a target does with data -/
def SemG (X : Cx) (tg : Expr) : TG := fun v σ H Q => ∀ (pins : List (Addr × Obj)) (s : Shared) (u : Value), Inv X pins σ H s → RelV v u → wpAny (model X.prog X.w) X.A (assign tg X.env u) (fun _ s' => ∃ σ' H', Inv X pins σ' H' s' ∧ Q σ' H') X.xe s
theorem semG {X : Cx} {tg : Expr} : PG X tg (SemG X tg) := ⟨fun pins s σ H v u Q I r h => h pins s u I r⟩
theorem SemG.of {X : Cx} {tg : Expr} {t : TG} {v : V} {σ : L2.St} {H : Hp} {Q : L2.St → Hp → Prop} (h : PG X tg t) (q : t v σ H Q) : SemG X tg v σ H Q := fun pins s u I r => h.run pins s σ H v u Q I r q
/-- the target stores es in the slots is -/
def TgN (B : Bx) (tg : Expr) (d : D) (is : List Nat) (es : List D) : Prop := is.length = es.length ∧ ∀ T σ H v Q Γ, B.St H σ Γ (.v v d :: T) → (∀ vs, vs.length = is.length → B.St H σ Γ (.l vs es :: T) → Q (setS σ is vs) H) → SemG B.X tg v σ H Q
theorem tg_name (i : Nat) (hN : B.X.N[i]? = some n := by rfl) (hx : Loc B.X.env.scope n := by first | exact Or.inl rfl | exact Or.inr rfl) (hf : B.X.fn n = true ∨ B.X.env.scope.names.lookup n = some .local := by first | exact .inl rfl | exact .inr rfl) : TgN B (.Name n pos) d [i] [d] :=
  ⟨rfl, fun T σ H v Q Γ s q => SemG.of (pg_name B.nd hN hx hf) (by
    obtain ⟨W, g⟩ := s
    exact q [v] rfl (g.tl.with (.cons g.top .nil)))⟩
theorem tg_tup {tgs : List Expr} {j : Nat} (is : List Nat) (hg : PGs B.X tgs (gNames is)) (hl : is.length = ds.length := by rfl) (hn : (assignEach tgs B.X.env).length = is.length := by rfl) (hst : (assignEach tgs B.X.env).findIdx? (·.1) = none := by rfl) (hh : B.hot = false := by rfl) : TgN B (.Tuple tgs j pos) (.tup ds) is ds :=
  ⟨hl, fun T σ H v Q Γ s q => SemG.of (pg_tup (B.calm hh) hg hn hst) (by
    obtain ⟨W, g⟩ := s
    obtain ⟨l, xs, rfl, hs, hr⟩ := rpTup g.top
    have hxs : xs.length = is.length := hr.length.trans hl.symm
    exact ⟨l, xs, rfl, hs, hxs, gNames_of is xs σ H hxs (q xs hxs (g.tl.with (p := .l _ _) hr))⟩)⟩
theorem pgs_nm {X : Cx} {n : Str} {pos : Pos} {es : List Expr} {is : List Nat} (i : Nat) (nd : X.N.Nodup) (h : PGs X es (gNames is)) (hN : X.N[i]? = some n := by rfl) (hx : Loc X.env.scope n := by first | exact Or.inl rfl | exact Or.inr rfl) (hf : X.fn n = true ∨ X.env.scope.names.lookup n = some .local := by first | exact .inl rfl | exact .inr rfl)
    (hs : (assignEach (.Name n pos :: es) X.env).map (·.2) = assign (.Name n pos) X.env :: (assignEach es X.env).map (·.2) := by rfl) : PGs X (.Name n pos :: es) (gNames (i :: is)) := pgs_cons (pg_name nd hN hx hf) h hs
theorem sw_unp {tg : Expr} (is : List Nat) (h : EW B e Γ (fun d Γ1 => ∃ es, TgN B tg d is es ∧ P.nx (setE Γ1 is es)) P.ex) (hs : swapsWithSole [tg] e pos.line B.X.env = pure false := by rfl) (hw : swappedStores [tg] e B.X.env = pure none := by rfl)
    (h1 : (assignEach [tg] B.X.env).map (·.2) = [assign tg B.X.env] := by rfl) : SW B (.Assign [tg] e pos) Γ P := fun T σ H D s r =>
  SemS.of (ps_asg semE semG hs hw h1) (h T σ H _ s (fun v d H' Γ' ⟨es, tg, q⟩ s' => tg.2 T σ H' v _ Γ' s' fun vs hl s2 => r.nx _ H' _ q (sta_setE is tg.1 s2)) (r.ex σ))
theorem sw_par {x y : Str} {px py pt : Pos} {kt k2 : Nat} {pt2 : Pos} (i j : Nat) (ha : DE B a Γ d) (hb : DE B b Γ z) (q : P.nx ((Γ.set i (some (.im d))).set j (some (.im z)))) (hi : B.X.N[i]? = some x := by rfl) (hj : B.X.N[j]? = some y := by rfl) (hij : i ≠ j := by decide)
    (hx : B.X.env.scope.names.lookup x = some .local := by rfl) (hy : B.X.env.scope.names.lookup y = some .local := by rfl) (hw : swappedStores [.Tuple [.Name x px, .Name y py] kt pt] (.Tuple [a, b] k2 pt2) B.X.env = pure (some [x, y]) := by rfl)
    (hs : swapsWithSole [.Tuple [.Name x px, .Name y py] kt pt] (.Tuple [a, b] k2 pt2) pos.line B.X.env = pure false := by rfl) (h1 : starEach [a, b] B.X.env = (false, eval a B.X.env) :: starEach [b] B.X.env := by rfl) (h2 : starEach [b] B.X.env = (false, eval b B.X.env) :: starEach [] B.X.env := by rfl) (hh : B.hot = false := by rfl) :
    SW B (.Assign [.Tuple [.Name x px, .Name y py] kt pt] (.Tuple [a, b] k2 pt2) pos) Γ P := fun T σ H D s r =>
  SemS.of (ps_par (B.calm hh) B.nd hi hj hij hx hy (semA) hw hs) ((des_cons ha (des_cons hb des_nil h2) h1).run s fun vs H' hl s' => by
    obtain ⟨W, g⟩ := s'
    obtain ⟨v, w, rfl, hv, hw⟩ := rplTwo g.top
    exact ⟨v, w, rfl, r.nx _ H' _ q (sta_setE [i, j] rfl ⟨W, g⟩)⟩)
theorem sw_par3 {x y z : Str} {d3 : D} {px py pz pt : Pos} {kt k2 : Nat} {pt2 : Pos} (i j l : Nat) {d1 d2 : D} (ha : DE B a Γ d1) (hb : DE B b Γ d2) (hc : DE B c Γ d3) (q : P.nx (((Γ.set i (some (.im d1))).set j (some (.im d2))).set l (some (.im d3)))) (hi : B.X.N[i]? = some x := by rfl) (hj : B.X.N[j]? = some y := by rfl) (hl : B.X.N[l]? = some z := by rfl) (hij : i ≠ j := by decide) (hil : i ≠ l := by decide) (hjl : j ≠ l := by decide)
    (hx : B.X.env.scope.names.lookup x = some .local := by rfl) (hy : B.X.env.scope.names.lookup y = some .local := by rfl) (hz : B.X.env.scope.names.lookup z = some .local := by rfl) (hw : swappedStores [.Tuple [.Name x px, .Name y py, .Name z pz] kt pt] (.Tuple [a, b, c] k2 pt2) B.X.env = pure (some [x, y, z]) := by rfl)
    (hs : swapsWithSole [.Tuple [.Name x px, .Name y py, .Name z pz] kt pt] (.Tuple [a, b, c] k2 pt2) pos.line B.X.env = pure false := by rfl) (h1 : starEach [a, b, c] B.X.env = (false, eval a B.X.env) :: starEach [b, c] B.X.env := by rfl) (h2 : starEach [b, c] B.X.env = (false, eval b B.X.env) :: starEach [c] B.X.env := by rfl) (h3 : starEach [c] B.X.env = (false, eval c B.X.env) :: starEach [] B.X.env := by rfl) (hh : B.hot = false := by rfl) :
    SW B (.Assign [.Tuple [.Name x px, .Name y py, .Name z pz] kt pt] (.Tuple [a, b, c] k2 pt2) pos) Γ P := fun T σ H D s r =>
  SemS.of (ps_par3 (B.calm hh) B.nd hi hj hl hij hil hjl hx hy hz semA hw hs) ((des_cons ha (des_cons hb (des_cons hc des_nil h3) h2) h1).run s fun vs H' hl s' => by
    obtain ⟨W, g⟩ := s'
    obtain ⟨u, v, w, rfl, _⟩ := rplThree g.top
    exact ⟨u, v, w, rfl, r.nx _ H' _ q (sta_setE [i, j, l] rfl ⟨W, g⟩)⟩)
/-- a new list of one's own -/
theorem sw_own (i : Nat) (h : AW B es Γ (fun ds Γ1 => i < Γ1.length ∧ noG Γ1 = true ∧ P.nx (Γ1.set i (some (.ow ds)))) P.ex) (hes : es.length ≤ 1000 := by decide) (hN : B.X.N[i]? = some n := by rfl) (hx : Loc B.X.env.scope n := by first | exact Or.inl rfl | exact Or.inr rfl) (hs : swapsWith (.List es p) (some (.Name n p')) pos.line B.X.env = pure false := by rfl)
    (hf : B.X.fn n = true ∨ B.X.env.scope.names.lookup n = some .local := by first | exact .inl rfl | exact .inr rfl) : SW B (.Assign [.Name n p'] (.List es p) pos) Γ P := fun T σ H D s r =>
  SemS.of (ps_set B.nd hN hx (pe_lst semA) hs hf) (h T σ H _ s (fun vs ds H' Γ' ⟨hi, hng, q⟩ hl s' => ⟨line1000 (by omega), fun a ha => r.nx _ _ _ q (by
    obtain ⟨W, g⟩ := s'
    have kp : Kp W (fun b => W b ∨ b = a) H' (upd H' a (.lst vs)) := ⟨fun b u _ e => same_new ha b u e, fun b z => z.elim .inl fun e => .inr (e ▸ ha)⟩
    exact ⟨_, g.tl.owned ha hi ⟨a, vs, rfl, .inr rfl, g.fresh0 ha, upd_same, RpL.keep kp g.top⟩ hng⟩)⟩) (r.ex σ))
/-- x.append(e) of a list of one's own -/
theorem sw_app {p1 p2 : Pos} (i : Nat) (hi : ∃ ds, Γ[i]? = some (some (.ow ds))) (h : EW B e Γ (fun d Γ1 => ∃ ds, Γ1[i]? = some (some (.ow ds)) ∧ ds.length < 1000000 ∧ P.nx (Γ1.set i (some (.ow (ds ++ [d]))))) P.ex) (hN : B.X.N[i]? = some n := by rfl) (hv : Vis B.X.env.scope n := by first | exact Or.inl rfl | exact Or.inr (Or.inl rfl) | exact Or.inr (Or.inr rfl))
    (hd : (n == ("__debug__" : Str)) = false := by decide) (hc : (n == ("__classdict__" : Str)) = false := by decide) (hb : attributeBase (.Name n p1) "append" B.X.env (eval (.Name n p1) B.X.env) = eval (.Name n p1) B.X.env := by rfl)
    (hfew : ((backTo pos (starEach [e] B.X.env)).all (fun x => !x.1) && (backToKw pos (keywordEach [] B.X.env)).all (fun x => x.1.isSome)
      && decide (([e] : List Expr).length + ([] : List Keyword).length + (if ([] : List Keyword).isEmpty then 0 else 1) < 30)) = true := by rfl)
    (hline : (apos.endLine == pos.line) = true := by rfl) (hse : starEach [e] B.X.env = (false, eval e B.X.env) :: starEach [] B.X.env := by rfl) (hpl : (backTo pos (starEach [] B.X.env)).any (·.1) = false := by rfl)
    (hs : swapsWith (.Call (.Attribute (.Name n p1) "append" apos) [e] [] pos) none p2.line B.X.env = pure false := by rfl) : SW B (.Expr (.Call (.Attribute (.Name n p1) "append" apos) [e] [] pos) p2) Γ P := fun T σ H D s r => by
  obtain ⟨ds0, hi⟩ := hi
  obtain ⟨W0, g0⟩ := id s
  obtain ⟨v, hσ, l, xs0, rfl, wl0, fl, hl0, hr0⟩ := g0.slot i _ hi
  refine SemS.of (ps_expr (pe_bm PySem.F.plainAttrs_list PySem.F.slot_list_append PySem.F.type_list_append mt_append (pe_var hN hv hd hc) (pa_cons semE pa_nil hse) hb hfew hline hse hpl) hs) ⟨.ref l, hσ, .inl ⟨rfl, _, SqL.of hl0⟩, ?_⟩
  refine h T σ H _ s (fun w d H1 Γ1 ⟨ds, hi1, hlen, q⟩ s1 => ?_) (r.ex σ)
  obtain ⟨W, g⟩ := s1
  obtain ⟨v', hσ', l', xs, rfl, wl, fl', hl, hr⟩ := g.slot i _ hi1
  rw [hσ] at hσ'
  cases hσ'
  refine ⟨l, xs, w, rfl, rfl, hl, by rw [hr.length, sizeLine_eq]; omega, r.nx σ _ _ q ?_⟩
  have kp : Kp W W H1 (upd H1 l (.lst (xs ++ [w]))) := ⟨fun b u nb e => by
    rw [upd_ne (fun z => nb (by rw [z]; exact wl))]
    exact e, fun _ z => .inl z⟩
  exact ⟨W, g.tl.chg hi1 trivial (s' := .ow (ds ++ [d])) trivial hσ wl (.inr fl) (by rw [upd_same]; exact fun z => nomatch z) (fun b u nb e => by rw [upd_ne nb]; exact e) ⟨l, _, rfl, wl, fl, upd_same, RpL.keep kp (hr.append (.cons g.top .nil))⟩⟩
/-- x.extend(e), e a list -/
theorem sw_ext {p1 p2 : Pos} (i : Nat) (hi : ∃ ds, Γ[i]? = some (some (.ow ds))) (h : EW B e Γ (fun d Γ1 => ∃ ds es, Γ1[i]? = some (some (.ow ds)) ∧ d = .lst es ∧ ds.length + es.length < 1000000 ∧ P.nx (Γ1.set i (some (.ow (ds ++ es))))) P.ex) (hN : B.X.N[i]? = some n := by rfl) (hv : Vis B.X.env.scope n := by first | exact Or.inl rfl | exact Or.inr (Or.inl rfl) | exact Or.inr (Or.inr rfl))
    (hd : (n == ("__debug__" : Str)) = false := by decide) (hc : (n == ("__classdict__" : Str)) = false := by decide) (hb : attributeBase (.Name n p1) "extend" B.X.env (eval (.Name n p1) B.X.env) = eval (.Name n p1) B.X.env := by rfl)
    (hfew : ((backTo pos (starEach [e] B.X.env)).all (fun x => !x.1) && (backToKw pos (keywordEach [] B.X.env)).all (fun x => x.1.isSome)
      && decide (([e] : List Expr).length + ([] : List Keyword).length + (if ([] : List Keyword).isEmpty then 0 else 1) < 30)) = true := by rfl)
    (hline : (apos.endLine == pos.line) = true := by rfl) (hse : starEach [e] B.X.env = (false, eval e B.X.env) :: starEach [] B.X.env := by rfl) (hpl : (backTo pos (starEach [] B.X.env)).any (·.1) = false := by rfl)
    (hs : swapsWith (.Call (.Attribute (.Name n p1) "extend" apos) [e] [] pos) none p2.line B.X.env = pure false := by rfl) : SW B (.Expr (.Call (.Attribute (.Name n p1) "extend" apos) [e] [] pos) p2) Γ P := fun T σ H D s r => by
  obtain ⟨ds0, hi⟩ := hi
  obtain ⟨W0, g0⟩ := id s
  obtain ⟨v, hσ, l, xs0, rfl, wl0, fl, hl0, hr0⟩ := g0.slot i _ hi
  refine SemS.of (ps_expr (pe_bm PySem.F.plainAttrs_list PySem.F.slot_list_extend PySem.F.type_list_extend mt_extend (pe_var hN hv hd hc) (pa_cons semE pa_nil hse) hb hfew hline hse hpl) hs) ⟨.ref l, hσ, .inl ⟨rfl, _, SqL.of hl0⟩, ?_⟩
  refine h T σ H _ s (fun w d H1 Γ1 ⟨ds, es, hi1, ed, hlen, q⟩ s1 => ?_) (r.ex σ)
  subst ed
  obtain ⟨W, g⟩ := s1
  obtain ⟨v', hσ', l', xs, rfl, wl, fl', hl, hr⟩ := g.slot i _ hi1
  rw [hσ] at hσ'
  cases hσ'
  obtain ⟨b, zs, rfl, _, hb2, nb2, hr2⟩ := rpLst g.top
  refine ⟨l, b, xs, zs, rfl, rfl, hl, hb2, by rw [hr.length, hr2.length, sizeLine_eq]; omega, r.nx σ _ _ q ?_⟩
  have kp : Kp W W H1 (upd H1 l (.lst (xs ++ zs))) := ⟨fun b u nb e => by
    rw [upd_ne (fun z => nb (by rw [z]; exact wl))]
    exact e, fun _ z => .inl z⟩
  exact ⟨W, g.tl.chg hi1 trivial (s' := .ow (ds ++ es)) trivial hσ wl (.inr fl) (by rw [upd_same]; exact fun z => nomatch z) (fun b u nb e => by rw [upd_ne nb]; exact e) ⟨l, _, rfl, wl, fl, upd_same, RpL.keep kp (hr.append hr2)⟩⟩
/-- self.f = e of an object that may change -/
theorem sw_fld {p1 : Pos} {a : Addr} (i : Nat) (h : EW B e Γ (fun d Γ1 => ∃ gs, Γ1[i]? = some (some (.mu a C gs)) ∧ gs.length < 900 ∧ P.nx (Γ1.set i (some (.mu a C (putD f d gs))))) P.ex) (cl : Cls B.X.K C) (na : NoAttr B.X.K C f) (hN : B.X.N[i]? = some n := by rfl) (hv : Vis B.X.env.scope n := by first | exact Or.inl rfl | exact Or.inr (Or.inl rfl) | exact Or.inr (Or.inr rfl))
    (hd : (n == ("__debug__" : Str)) = false := by decide) (hc : (n == ("__classdict__" : Str)) = false := by decide) (hs : swapsWith e (some (.Attribute (.Name n p1) f p')) pos.line B.X.env = pure false := by rfl) : SW B (.Assign [.Attribute (.Name n p1) f p'] e pos) Γ P := fun T σ H D s r =>
  SemS.of (ps_fld (pe_var hN hv hd hc) semE hs) (h T σ H _ s (fun w d H1 Γ1 ⟨gs, hi1, hlen, q⟩ s1 => by
    obtain ⟨W, g⟩ := s1
    obtain ⟨v, hσ, dx, fs, rfl, wa, fa, ha, hf⟩ := g.slot i _ hi1
    refine ⟨.ref a, hσ, a, C, dx, fs, rfl, ha, cl, na, by rw [hf.length]; omega, r.nx σ _ _ q ?_⟩
    have kp : Kp W W H1 (upd H1 a (.ins C dx (putF f w fs))) := ⟨fun b u nb e => by
      rw [upd_ne (fun z => nb (by rw [z]; exact wa))]
      exact e, fun _ z => .inl z⟩
    exact ⟨W, g.tl.chg hi1 trivial (s' := .mu a C (putD f d gs)) trivial hσ wa fa (by rw [upd_same]; exact fun z => nomatch z) (fun b u nb e => by rw [upd_ne nb]; exact e) ⟨dx, _, rfl, wa, fa, upd_same, RpF.keep kp (RpF.put g.top hf)⟩⟩) (r.ex σ))
/-! while -/
theorem sw_while (I : Nat → Env → Prop) (h0 : ∃ m, I m Γ) (h : ∀ m Γ1, I m Γ1 → TW B c Γ1 (fun k Γ2 => (k = true → SsW B body Γ2 { P with nx := fun Γ3 => ∃ m', m' < m ∧ I m' Γ3, ct := fun Γ3 => ∃ m', m' < m ∧ I m' Γ3, bk := P.nx }) ∧ (k = false → P.nx Γ2)) P.ex) (hh : B.hot = false := by rfl) (hz : B.rz = true := by rfl) : SW B (.While c body [] pos) Γ P := fun T σ H D s r =>
  SemS.of (ps_while (B.po hh hz) semT semSs) ⟨fun m σ H => ∃ Γ1, I m Γ1 ∧ B.St H σ Γ1 T, by
    obtain ⟨m, h0⟩ := h0
    exact ⟨m, Γ, h0, s⟩, fun m σ1 H1 ⟨Γ1, hI, s1⟩ => h m Γ1 hI T σ1 H1 _ s1 (fun k H2 Γ2 ⟨h1, h2⟩ s2 => by
      cases k with
      | true =>
        rw [if_pos rfl]
        refine ⟨fun σ' H' => ∃ m', m' < m ∧ ∃ Γ3, I m' Γ3 ∧ B.St H' σ' Γ3 T, fun σ' H' hh => hh, h1 rfl T σ1 H2 _ s2 ⟨?_, r.rt, r.ex, ?_, ?_⟩⟩
        · exact fun σ' H' Γ3 ⟨m', hm, hI'⟩ s3 => ⟨m', hm, Γ3, hI', s3⟩
        · exact r.nx
        · exact fun σ' H' Γ3 ⟨m', hm, hI'⟩ s3 => ⟨m', hm, Γ3, hI', s3⟩
      | false =>
        rw [if_neg Bool.false_ne_true]
        exact r.nx σ1 H2 Γ2 (h2 rfl) s2) (r.ex σ1)⟩
end
end Sd

set_option exponentiation.threshold 256
set_option Elab.async false
set_option linter.all false
set_option maxRecDepth 100000
set_option maxHeartbeats 4000000
namespace Sd
open PySem PySem.Spec PyProof.Rows L2
/-! ## What is walked -/
theorem TmOk.keep {K : PySem.W.Frag} {W W' : Addr → Prop} {H H' : Hp} (k : Kp W W' H H') : ∀ {p : Tm}, TmOk K W H p → TmOk K W' H' p
  | .v _ d, r => Rp.keep k r
  | .x a gs, ⟨fs, e, w, r⟩ => ⟨fs, k.keep _ _ w e, k.out w (by rw [e]; exact fun z => nomatch z), RpF.keep k r⟩
  | .l vs ds, r => RpL.keep k r
def SemI (X : Cx) (tg it : Expr) : TI := fun σ H R => ∀ (pins : List (Addr × Obj)) (s : Shared), Inv X pins σ H s →
  wpAny (model X.prog X.w) X.A (eval it X.env) (fun v s1 => wpAny (model X.prog X.w) X.A (pyIter v) (PIE X pins σ tg R) X.xe s1) X.xe s
theorem semI {X : Cx} {tg it : Expr} : PI X tg it (SemI X tg it) := ⟨fun pins s _ _ _ I h => h pins s I⟩
theorem SemI.of {X : Cx} {tg it : Expr} {t : TI} {σ : L2.St} {H : Hp} {R : It → Hp → Prop} (h : PI X tg it t) (q : t σ H R) : SemI X tg it σ H R := fun pins s I => h.run pins s σ H R I q
/-- J gives the data ds, one a turn, while S stands -/
def Wlk (K : PySem.W.Frag) (J : It) (S : List Tm) (ds : List D) : Prop := ∀ W H, (∀ a, W a → H a ≠ none) → (∀ p ∈ S, TmOk K W H p) →
  (∀ i, i < ds.length → J.go i H) ∧ J.stop ds.length H ∧ ∀ i d x H', ds[i]? = some d → J.yld i H x H' → Same H H' ∧ Rp K W H' x d
def SD (B : Bx) (tg it : Expr) (Γ : Env) (ds : List D) : Prop := ∀ T σ H R, B.St H σ Γ T → (∀ J S H', Wlk B.X.K J S ds → B.St H' σ Γ (S ++ T) → R J H') → SemI B.X tg it σ H R
theorem Sta.l2v {K : PySem.W.Frag} {F : Frame} {H : Hp} {σ : L2.St} {Γ : Env} {T : List Tm} {vs : List V} {d : D} (s : Sta K F H σ Γ (.l vs [d] :: T)) : ∃ v, vs = [v] ∧ Sta K F H σ Γ (.v v d :: T) := by
  obtain ⟨W, g⟩ := s
  obtain ⟨v, rfl, h⟩ := rplOne g.top
  exact ⟨v, rfl, g.tl.with h⟩
section
variable {B : Bx} {tg it a b e : Expr} {Γ : Env} {ds : List D} {p pos : Pos}
theorem wlk_list {K : PySem.W.Frag} {l : Addr} (hs : ∀ W H, Rp K W H (.ref l) (.lst ds) ∨ Rp K W H (.ref l) (.raw ds) → ∃ xs, SqL K H l xs ∧ RpL K W H xs ds) {S : List Tm} (hS : S = [.v (.ref l) (.lst ds)] ∨ S = [.v (.ref l) (.raw ds)]) : Wlk K (Itl K l) S ds := fun W H _ t => by
  have h : Rp K W H (.ref l) (.lst ds) ∨ Rp K W H (.ref l) (.raw ds) := by
    rcases hS with rfl | rfl
    · exact .inl (t _ List.mem_cons_self)
    · exact .inr (t _ List.mem_cons_self)
  obtain ⟨xs, hx, hr⟩ := hs W H h
  refine ⟨fun i hi => ?_, ⟨xs, hx, Nat.le_of_eq hr.length⟩, fun i d x H' hd hy => ?_⟩
  · obtain ⟨v, hv, _⟩ := hr.get (List.getElem?_eq_getElem hi)
    exact ⟨xs, v, hx, hv⟩
  · obtain ⟨rfl, hy⟩ := hy
    obtain ⟨v, hv, hr2⟩ := hr.get hd
    have e := hy xs hx
    rw [hv] at e
    cases e
    exact ⟨Same.refl _, hr2⟩
theorem ex_sq {K : PySem.W.Frag} {W : Addr → Prop} {H : Hp} {l : Addr} (h : Rp K W H (.ref l) (.lst ds) ∨ Rp K W H (.ref l) (.raw ds)) : ∃ xs, SqL K H l xs ∧ RpL K W H xs ds := by
  rcases h with h | h
  · obtain ⟨a, xs, e, hs, _, _, hr⟩ := rpLst h
    cases e
    exact ⟨xs, hs, hr⟩
  · obtain ⟨a, xs, e, hs, hr⟩ := rpRaw h
    cases e
    exact ⟨xs, hs, hr⟩
theorem sd_list (h : DE B it Γ (.lst ds)) : SD B tg it Γ ds := fun T σ H R s r => SemI.of (pi_list semE) (h.run s fun v H1 s1 => by
  obtain ⟨W, g⟩ := id s1
  obtain ⟨l, xs, rfl, hs, _⟩ := rpLst g.top
  exact ⟨l, rfl, ⟨xs, hs⟩, r _ [_] H1 (wlk_list (fun _ _ => ex_sq) (.inl rfl)) s1⟩)
theorem sd_raw (h : DE B it Γ (.raw ds)) : SD B tg it Γ ds := fun T σ H R s r => SemI.of (pi_list semE) (h.run s fun v H1 s1 => by
  obtain ⟨W, g⟩ := id s1
  obtain ⟨l, xs, rfl, hs, _⟩ := rpRaw g.top
  exact ⟨l, rfl, ⟨xs, hs⟩, r _ [_] H1 (wlk_list (fun _ _ => ex_sq) (.inr rfl)) s1⟩)
theorem sd_tup (h : DE B it Γ (.tup ds)) : SD B tg it Γ ds := fun T σ H R s r => SemI.of (pi_tup semE) (h.run s fun v H1 s1 => by
  obtain ⟨W, g⟩ := id s1
  obtain ⟨l, xs, rfl, hs, _⟩ := rpTup g.top
  refine ⟨l, rfl, ⟨xs, hs⟩, r _ [_] H1 (fun W H _ t => ?_) s1⟩
  obtain ⟨l', ys, e, hx, hr⟩ := rpTup (show Rp _ _ _ (.ref l) (.tup ds) from t _ List.mem_cons_self)
  cases e
  refine ⟨fun i hi => ?_, ⟨ys, hx, Nat.le_of_eq hr.length⟩, fun i d x H' hd hy => ?_⟩
  · obtain ⟨v, hv, _⟩ := hr.get (List.getElem?_eq_getElem hi)
    exact ⟨ys, v, hx, hv⟩
  · obtain ⟨rfl, hy⟩ := hy
    obtain ⟨v, hv, hr2⟩ := hr.get hd
    have e := hy ys hx
    rw [hv] at e
    cases e
    exact ⟨Same.refl _, hr2⟩)
/-- a text's signs -/
def signsOf (z : Str) : List D := z.cps.toList.map fun c => .str ⟨#[c]⟩
theorem sd_str {z : Str} (h : DE B it Γ (.str z)) : SD B tg it Γ (signsOf z) := fun T σ H R s r => SemI.of (pi_str semE) (h.run s fun v H1 s1 => by
  refine ⟨z, s1.str', r _ [] H1 (fun W H _ t => ⟨fun i hi => ?_, ?_, fun i d x H' hd hy => ?_⟩) s1.tail⟩
  · show i < z.cps.size
    unfold signsOf at hi
    simpa using hi
  · show z.cps.size ≤ (signsOf z).length
    unfold signsOf
    simp
  · obtain ⟨rfl, c, hc, rfl⟩ := hy
    unfold signsOf at hd
    rw [List.getElem?_map, Array.getElem?_toList, hc] at hd
    cases hd
    exact ⟨Same.refl _, .str _⟩)
def rangeD (lo : Int) (n : Nat) : List D := (List.range n).map fun i => .int (lo + (i : Nat))
theorem wlk_range {K : PySem.W.Frag} {lo : Int} {n : Nat} : Wlk K (Itr lo n) [] (rangeD lo n) := fun W H _ _ => by
  have hl : (rangeD lo n).length = n := by unfold rangeD; simp
  refine ⟨fun i hi => ?_, ?_, fun i d x H' hd hy => ?_⟩
  · show i < n
    rw [hl] at hi
    exact hi
  · show n ≤ _
    rw [hl]
    exact Nat.le_refl n
  · obtain ⟨rfl, rfl⟩ := hy
    unfold rangeD at hd
    have hi : i < n := by
      have z := (List.getElem?_eq_some_iff.mp hd).1
      simpa using z
    rw [List.getElem?_map, List.getElem?_range hi] at hd
    cases hd
    exact ⟨Same.refl _, .int _⟩
theorem sd_range {j : Int} (hm : B.X.mg "range" = none) (h : DE B a Γ (.int j)) (h1 : -(2 ^ 62) ≤ j) (h2 : j < 2 ^ 62) (hg : Gl B.X "range" := by rfl) (hs : starEach [a] B.X.env = [(false, eval a B.X.env)] := by rfl) : SD B tg (.Call (.Name "range" p) [a] [] pos) Γ (rangeD 0 j.toNat) := fun T σ H R s r =>
  SemI.of (pi_range1 hg hm semA hs) ((des_cons h des_nil hs).run s fun vs H1 hl s1 => by
    obtain ⟨v, rfl, s2⟩ := s1.l2v
    cases s2.int'
    exact ⟨j, rfl, h1, h2, r _ [] H1 wlk_range s2.tail⟩)
theorem sd_range2 {i j : Int} (hm : B.X.mg "range" = none) (h : DE B a Γ (.int i)) (h' : DE B b Γ (.int j)) (hb : -(2 ^ 62) ≤ i ∧ i < 2 ^ 62 ∧ -(2 ^ 62) ≤ j ∧ j < 2 ^ 62) (hg : Gl B.X "range" := by rfl) (hs : starEach [a, b] B.X.env = [(false, eval a B.X.env), (false, eval b B.X.env)] := by rfl) (hs2 : starEach [b] B.X.env = [(false, eval b B.X.env)] := by rfl) :
    SD B tg (.Call (.Name "range" p) [a, b] [] pos) Γ (rangeD i (j - i).toNat) := fun T σ H R s r =>
  SemI.of (pi_range2 hg hm semA hs hs2) ((des_cons h (des_cons h' des_nil hs2) (by rw [hs, hs2])).run s fun vs H1 hl s1 => by
    obtain ⟨W, g⟩ := s1
    obtain ⟨v, w, rfl, hv, hw⟩ := rplTwo g.top
    cases rpInt hv
    cases rpInt hw
    exact ⟨i, j, rfl, hb, r _ [] H1 wlk_range ⟨W, g.tl⟩⟩)
/-- numbered -/
def enumD (ds : List D) : List D := ds.mapIdx fun i d => .tup [.int (i : Nat), d]
theorem sd_enum {elts : List Expr} {kk : Nat} {tpos : Pos} (hm : B.X.mg "enumerate" = none) (h : DE B e Γ (.lst ds)) (hg : Gl B.X "enumerate" := by rfl) (hs : starEach [e] B.X.env = [(false, eval e B.X.env)] := by rfl) : SD B (.Tuple elts kk tpos) (.Call (.Name "enumerate" p) [e] [] pos) Γ (enumD ds) := fun T σ H R s r =>
  SemI.of (pi_enum hg hm semA hs) ((des_cons h des_nil hs).run s fun vs H1 hl s1 => by
    obtain ⟨v, rfl, s2⟩ := s1.l2v
    obtain ⟨W, g⟩ := id s2
    obtain ⟨l, xs, rfl, hs, _⟩ := rpLst g.top
    refine ⟨l, xs, rfl, hs, r _ [_] H1 (fun W H wd t => ?_) s2⟩
    have h0 : Rp B.X.K W H (.ref l) (.lst ds) := t _ List.mem_cons_self
    obtain ⟨l', ys, e, hx, _, _, hr⟩ := rpLst h0
    cases e
    have hl : (enumD ds).length = ds.length := by unfold enumD; simp
    refine ⟨fun i hi => ?_, ⟨ys, hx, by rw [hl, hr.length]; exact Nat.le_refl _⟩, fun i d x H' hd hy => ?_⟩
    · rw [hl] at hi
      obtain ⟨v, hv, _⟩ := hr.get (List.getElem?_eq_getElem hi)
      exact ⟨ys, v, hx, hv⟩
    · obtain ⟨q, y, rfl, hq, rfl, hy⟩ := hy
      unfold enumD at hd
      rw [List.getElem?_mapIdx] at hd
      cases hdi : ds[i]? with
      | none =>
        rw [hdi] at hd
        cases hd
      | some z =>
        rw [hdi] at hd
        cases hd
        obtain ⟨v, hv, hr2⟩ := hr.get hdi
        have e := hy ys hx
        rw [hv] at e
        cases e
        exact ⟨same_new hq, .tup (.inl upd_same) (fun z => wd q z hq) (RpL.keep (Kp.same (same_new hq)) (.cons (.int _) (.cons hr2 .nil)))⟩)
end
/-! ## for -/
theorem sw_for {B : Bx} {tg it : Expr} {body : List Stmt} {Γ : Env} {ds : List D} {pos : Pos} {P : Post} (is : List Nat) (es : D → List D) (I : Nat → Env → Prop) (hs : SD B tg it Γ ds) (h0 : I 0 Γ) (ht : ∀ d ∈ ds, TgN B tg d is (es d))
    (hb : ∀ i d Γ1, ds[i]? = some d → I i Γ1 → SsW B body (setE Γ1 is (es d)) { P with nx := I (i + 1), ct := I (i + 1), bk := P.nx }) (hd : ∀ Γ1, I ds.length Γ1 → P.nx Γ1) (hf : ∀ x, foldedSetIterable it B.X.env x = pure x := by intro _; rfl) (hh : B.hot = false := by rfl) (hz : B.rz = true := by rfl) : SW B (.For tg it body [] pos) Γ P := fun T σ H D s r =>
  SemS.of (ps_for (B.po hh hz) (B.calm hh) semI semG semSs hf) (hs T σ H _ s fun J S H1 hw s1 =>
    ⟨fun i m σ2 H2 => i ≤ ds.length ∧ m = ds.length - i ∧ ∃ Γ1, I i Γ1 ∧ B.St H2 σ2 Γ1 (S ++ T), ⟨_, Nat.zero_le _, rfl, Γ, h0, s1⟩, fun i m σ2 H2 ⟨hi, hm, Γ1, hI, s2⟩ => by
      obtain ⟨W, g⟩ := id s2
      obtain ⟨hgo, hst, hy⟩ := hw W H2 g.dom fun p hp => g.tmp p (List.mem_append_left _ hp)
      by_cases hlt : i < ds.length
      · refine .inr ⟨hgo i hlt, fun σ' H' => ∃ Γ3, I (i + 1) Γ3 ∧ B.St H' σ' Γ3 (S ++ T), fun σ' H' hh => ⟨ds.length - (i + 1), by omega, hlt, rfl, hh⟩, fun x H' hyl => ?_⟩
        have hdi : ds[i]? = some ds[i] := List.getElem?_eq_getElem hlt
        obtain ⟨same, hx⟩ := hy i _ x H' hdi hyl
        have tgn := ht ds[i] (List.getElem_mem hlt)
        refine tgn.2 (S ++ T) σ2 H' x _ Γ1 ((g.grow same).with hx) fun vs hl s3 => ?_
        refine hb i ds[i] Γ1 hdi hI (S ++ T) _ H' _ (sta_setE is tgn.1 s3) ⟨?_, ?_, ?_, ?_, ?_⟩
        · exact fun σ' H3 Γ3 q s4 => ⟨Γ3, q, s4⟩
        · exact fun v d σ' H3 Γ3 q s4 => r.rt v d σ' H3 Γ3 q (s4.sub fun p hp => by
            rcases List.mem_cons.mp hp with rfl | hp
            · exact List.mem_cons_self
            · exact List.mem_cons_of_mem _ (List.mem_append_right _ hp))
        · exact fun σ' => (r.ex σ').sub fun p hp => List.mem_append_right _ hp
        · exact fun σ' H3 Γ3 q s4 => r.nx σ' H3 Γ3 q (s4.sub fun p hp => List.mem_append_right _ hp)
        · exact fun σ' H3 Γ3 q s4 => ⟨Γ3, q, s4⟩
      · have e : i = ds.length := by omega
        subst e
        exact .inl ⟨hst, r.nx σ2 H2 Γ1 (hd Γ1 hI) (s2.sub fun p hp => List.mem_append_right _ hp)⟩⟩)
/-! ## Comprehensions -/
def imO : Option Sl → Option Sl
  | some (.im d) => some (.im d)
  | _ => none
def imE (Γ : Env) : Env := Γ.map imO
def wipeE (Γ : Env) : List Nat → Env
  | [] => Γ
  | v :: vs => (wipeE Γ vs).set v none
/-- what a comprehension's block knows of the def's names -/
def blkE (Γ : Env) (vs : List Nat) : Env := wipeE (imE Γ) vs
theorem imE_length (Γ : Env) : (imE Γ).length = Γ.length := List.length_map _
theorem imO_some {o : Option Sl} {s : Sl} (h : imO o = some s) : ∃ d, s = .im d ∧ o = some (.im d) := by
  cases o with
  | none => cases h
  | some x =>
    cases x with
    | im d =>
      cases h
      exact ⟨d, rfl, rfl⟩
    | ow d => cases h
    | mu r C d => cases h
    | xc a d g => cases h
    | g I => cases h
theorem imE_get {Γ : Env} {i : Nat} {s : Sl} (h : (imE Γ)[i]? = some (some s)) : ∃ d, s = .im d ∧ Γ[i]? = some (some (.im d)) := by
  unfold imE at h
  rw [List.getElem?_map] at h
  cases e : Γ[i]? with
  | none =>
    rw [e] at h
    cases h
  | some o =>
    rw [e] at h
    simp only [Option.map_some, Option.some.injEq] at h
    obtain ⟨d, rfl, rfl⟩ := imO_some h
    exact ⟨d, rfl, rfl⟩
theorem wipeE_length (Γ : Env) : ∀ vs : List Nat, (wipeE Γ vs).length = Γ.length
  | [] => rfl
  | v :: vs => by unfold wipeE; rw [List.length_set, wipeE_length Γ vs]
theorem wipeE_get {Γ : Env} {i : Nat} {s : Sl} : ∀ {vs : List Nat}, (wipeE Γ vs)[i]? = some (some s) → Γ[i]? = some (some s) ∧ i ∉ vs
  | [], h => ⟨h, by simp⟩
  | v :: vs, h => by
    unfold wipeE at h
    by_cases hi : v = i
    · subst hi
      by_cases hv : v < (wipeE Γ vs).length
      · rw [List.getElem?_set_self hv] at h
        cases h
      · rw [List.getElem?_eq_none (by simpa using hv)] at h
        cases h
    · rw [List.getElem?_set_ne hi] at h
      obtain ⟨h1, h2⟩ := wipeE_get h
      exact ⟨h1, fun z => (List.mem_cons.mp z).elim (fun e => hi e.symm) h2⟩
theorem wipe_get {σ : L2.St} {i : Nat} : ∀ {vs : List Nat}, (wipe σ vs)[i]? = if i ∈ vs ∧ i < σ.length then some none else σ[i]?
  | [] => by simp [wipe]
  | v :: vs => by
    unfold wipe
    by_cases hi : v = i
    · subst hi
      by_cases hl : v < σ.length
      · rw [List.getElem?_set_self (by rw [wipe_length]; exact hl), if_pos ⟨List.mem_cons_self, hl⟩]
      · rw [if_neg (fun z => hl z.2), List.getElem?_eq_none (by rw [List.length_set, wipe_length]; omega), List.getElem?_eq_none (by omega)]
    · rw [List.getElem?_set_ne hi, wipe_get (vs := vs)]
      have e : (i ∈ v :: vs) ↔ i ∈ vs := ⟨fun z => (List.mem_cons.mp z).elim (fun e => absurd e.symm hi) id, fun z => List.mem_cons_of_mem _ z⟩
      simp only [e]
theorem wipe_set {σ : L2.St} {vs : List Nat} {i : Nat} {x : Option V} (hi : i ∈ vs) : wipe (σ.set i x) vs = wipe σ vs := by
  apply List.ext_getElem?
  intro j
  rw [wipe_get, wipe_get, List.length_set]
  by_cases hj : j ∈ vs ∧ j < σ.length
  · rw [if_pos hj, if_pos hj]
  · rw [if_neg hj, if_neg hj]
    by_cases e : i = j
    · subst e
      have hl : ¬ i < σ.length := fun z => hj ⟨hi, z⟩
      rw [List.getElem?_eq_none (by rw [List.length_set]; omega), List.getElem?_eq_none (by omega)]
    · rw [List.getElem?_set_ne e]
theorem wipe_wipe {σ : L2.St} {vs : List Nat} : wipe (wipe σ vs) vs = wipe σ vs := by
  apply List.ext_getElem?
  intro j
  rw [wipe_get, wipe_get, wipe_length]
  by_cases hj : j ∈ vs ∧ j < σ.length
  · rw [if_pos hj, if_pos hj]
  · rw [if_neg hj, if_neg hj]
theorem wipe_setS {vs : List Nat} : ∀ (is : List Nat) {σ : L2.St} {xs : List V}, (∀ i ∈ is, i ∈ vs) → wipe (setS σ is xs) vs = wipe σ vs
  | [], σ, xs, _ => rfl
  | i :: is, σ, [], _ => rfl
  | i :: is, σ, x :: xs, h => by
    unfold setS
    rw [wipe_setS is (fun j hj => h j (List.mem_cons_of_mem _ hj)), wipe_set (h i List.mem_cons_self)]
/-- the context of a comprehension's block -/
def Bx.blk (B : Bx) (F : Frame) (s : Shared) (H : Hp) (scope : Scope) (cl : List (Str × Addr)) (C : Addr) (fp : List Addr) : Bx where
  X := B.X.blk s H scope (compEnvC scope cl C B.X.env) fp
  F := F
  Wx := fun _ _ _ _ => False
  k := B.k
  cx := B.cx
  pass := fun _ _ _ _ _ _ _ c => absurd c (B.cx0 _ _ _ _ _)
  cx0 := B.cx0
  hot := B.hot
  calm := B.calm
  hd := B.hd
  roomH := B.roomH
  nd := B.nd
  po := fun _ _ => PassesOwn.never
  rz := false
  tk := fun z => nomatch z
def SemTs (X : Cx) (ifs : List Expr) : TT := fun σ H Q => ∀ (pins : List (Addr × Obj)) (s : Shared), Inv X pins σ H s →
  wpAny (model X.prog X.w) X.A (forIn ifs true fun c r => if r = true then do let ok ← isTrue c X.env (eval c X.env); pure (ForInStep.yield ok) else pure (ForInStep.yield r)) (TP X pins σ Q) X.xe s
theorem SemTs.of {X : Cx} {ifs : List Expr} {t : TT} {σ : L2.St} {H : Hp} {Q : Bool → Hp → Prop} (h : PTs X ifs t) (q : t σ H Q) : SemTs X ifs σ H Q := fun pins s I => h.run pins s σ H Q I q
def TsD (B : Bx) (ifs : List Expr) (Γ : Env) (k : Bool) : Prop := ∀ T σ H Q, B.St H σ Γ T → (∀ H', B.St H' σ Γ T → Q k H') → SemTs B.X ifs σ H Q
theorem ts_nil {B : Bx} {Γ : Env} : TsD B [] Γ true := fun T σ H Q s q => SemTs.of pts_nil (q H s)
theorem ts_one {B : Bx} {Γ : Env} {c : Expr} {k : Bool} (h : TD B c Γ k) : TsD B [c] Γ k := fun T σ H Q s q => SemTs.of (pts_one semT) (h.run s fun H' s' => q H' s')
def resD (c : D → Bool) (f : D → D) (ds : List D) : List D := (ds.filter c).map f
theorem take_one {α : Type} : ∀ {l : List α} {i : Nat} {x : α}, l[i]? = some x → l.take (i + 1) = l.take i ++ [x]
  | [], i, x, h => by simp at h
  | a :: l, 0, x, h => by
    simp only [List.getElem?_cons_zero, Option.some.injEq] at h
    subst h
    simp
  | a :: l, i + 1, x, h => by
    simp only [List.getElem?_cons_succ] at h
    simp [take_one h]
theorem resD_take {c : D → Bool} {f : D → D} {ds : List D} {i : Nat} {d : D} (h : ds[i]? = some d) : resD c f (ds.take (i + 1)) = resD c f (ds.take i) ++ (if c d = true then [f d] else []) := by
  unfold resD
  rw [take_one h, List.filter_append, List.map_append]
  cases e : c d with
  | true => simp [e]
  | false => simp [e]
section
variable {B : Bx} {tg it elt : Expr} {ifs : List Expr} {scope : Scope} {own : List (Str × Nat)} {Γ : Env} {ds : List D} {pos : Pos} {is vs : List Nat} {es : D → List D} {c : D → Bool} {f : D → D}
/-- what stands between two turns -/
structure CompI (K : PySem.W.Frag) (W : Addr → Prop) (H1 : Hp) (A : Addr) (acc : List D) (H : Hp) : Prop where
  keep : ∀ b o, H1 b = some o → H b = some o
  at_ : ∃ xs, H A = some (.lst xs) ∧ RpL K (fun a => W a ∨ a = A) H xs acc
theorem comp_core (hs : SD B tg it Γ ds) (hv : own.map (·.2) = vs) (hi : ∀ i ∈ is, i ∈ vs) (hl : ds.length < 1000000)
    (ht : ∀ F s H cl C fp, ∀ d ∈ ds, TgN (B.blk F s H scope cl C fp) tg d is (es d))
    (hc : ∀ F s H cl C fp, ∀ d ∈ ds, TsD (B.blk F s H scope cl C fp) ifs (setE (blkE Γ vs) is (es d)) (c d))
    (he : ∀ F s H cl C fp, ∀ d ∈ ds, c d = true → DE (B.blk F s H scope cl C fp) elt (setE (blkE Γ vs) is (es d)) (f d)) {T : List Tm} {σ : L2.St} {H : Hp} {Q : VK} (s : B.St H σ Γ T) (q : ∀ v H', B.St H' σ Γ (.v v (.lst (resD c f ds)) :: T) → Q v H') :
    tLc (SemI B.X tg it) (fun v σ H Q => ∀ s H2 C cl fp, SemG (B.X.blk s H2 scope (compEnvC scope cl C B.X.env) fp) tg v σ H Q) (fun σ H Q => ∀ s H2 C cl fp, SemTs (B.X.blk s H2 scope (compEnvC scope cl C B.X.env) fp) ifs σ H Q)
      (fun σ H Q => ∀ s H2 C cl fp, SemE (B.X.blk s H2 scope (compEnvC scope cl C B.X.env) fp) elt σ H Q) vs σ H Q := by
  refine hs T σ H _ s fun J S H1 hw s1 A hA => ?_
  obtain ⟨W, g⟩ := s1
  refine ⟨fun i m H2 => i ≤ ds.length ∧ m = ds.length - i ∧ CompI B.X.K W H1 A (resD c f (ds.take i)) H2, ⟨_, Nat.zero_le _, rfl, ⟨same_new hA, [], upd_same, .nil⟩⟩, ?_⟩
  rintro i m H2 ⟨hi2, hm, ci⟩
  have kp : Kp W (fun a => W a ∨ a = A) H1 H2 := ⟨fun b o _ e => ci.keep b o e, fun a z => z.elim .inl fun e => .inr (e ▸ hA)⟩
  obtain ⟨xs, hxs, hr⟩ := ci.at_
  have wd : ∀ a, (W a ∨ a = A) → H2 a ≠ none := fun a z => by
    rcases z with z | z
    · cases e : H1 a with
      | none => exact absurd e (g.dom a z)
      | some o =>
        rw [ci.keep a o e]
        exact fun z => nomatch z
    · rw [z, hxs]
      exact fun z => nomatch z
  obtain ⟨hgo, hst, hy⟩ := hw _ H2 wd fun p hp => (g.tmp p (List.mem_append_left _ hp)).keep kp
  have hlr : (resD c f (ds.take i)).length ≤ ds.length := by
    unfold resD
    rw [List.length_map]
    exact Nat.le_trans (List.length_filter_le _ _) (by rw [List.length_take]; omega)
  by_cases hlt : i < ds.length
  · have hdi : ds[i]? = some ds[i] := List.getElem?_eq_getElem hlt
    have hmem : ds[i] ∈ ds := List.getElem_mem hlt
    generalize ds[i] = d at hdi hmem
    refine .inr ⟨hgo i hlt, fun H' => CompI B.X.K W H1 A (resD c f (ds.take (i + 1))) H', fun H' hh => ⟨ds.length - (i + 1), by omega, hlt, rfl, hh⟩, fun x H' hyl s0 Hb C cl fp => ?_⟩
    obtain ⟨same, hx⟩ := hy i d x H' hdi hyl
    have kq : Kp W (fun a => W a ∨ a = A) H1 H' := ⟨fun b o _ e => same b o (ci.keep b o e), kp.more⟩
    have hxs' : H' A = some (.lst xs) := same A _ hxs
    have gB : Gd B.X.K ⟨fun a => W a ∨ a = A, H', fun _ => False⟩ (fun a => W a ∨ a = A) H' (wipe σ vs) (blkE Γ vs) (.v x d :: [.l xs (resD c f (ds.take i))]) := by
      have wd' : ∀ a, (W a ∨ a = A) → H' a ≠ none := fun a z y => by
        cases e : H2 a with
        | none => exact wd a z e
        | some o =>
          rw [same a o e] at y
          cases y
      refine ⟨fun j sl e => ?_, fun j l sj sl e1 e2 o1 o2 ne => ?_, wd', fun a z => z, wd', fun a z => z.elim, fun b o _ e => e, fun p hp => ?_, ?_, fun k j I sj e1 _ _ => ?_⟩
      · obtain ⟨e1, nv⟩ := wipeE_get e
        obtain ⟨d', rfl, e2⟩ := imE_get e1
        obtain ⟨v, hv, hr'⟩ := g.slot j _ e2
        exact ⟨v, by rw [wipe_get, if_neg (fun z => nv z.1)]; exact hv, Rp.keep kq hr'⟩
      · obtain ⟨e3, _⟩ := wipeE_get e1
        obtain ⟨d', rfl, _⟩ := imE_get e3
        exact o1.elim
      · rcases List.mem_cons.mp hp with rfl | hp
        · exact hx
        · rcases List.mem_cons.mp hp with rfl | hp
          · exact RpL.keep (Kp.same same) hr
          · cases hp
      · show (wipeE (imE Γ) vs).length = _
        rw [wipeE_length, imE_length, wipe_length]
        exact g.len
      · obtain ⟨e3, _⟩ := wipeE_get e1
        obtain ⟨d', z, _⟩ := imE_get e3
        cases z
    refine (ht ⟨fun a => W a ∨ a = A, H', fun _ => False⟩ s0 Hb cl C fp d hmem).2 [.l xs (resD c f (ds.take i))] _ H' x _ (blkE Γ vs) ⟨_, gB⟩ fun ws hlw st2 => ⟨by rw [wipe_setS is hi, wipe_wipe], fun s2 H5 C2 cl2 fp2 => ?_⟩
    refine hc ⟨fun a => W a ∨ a = A, H', fun _ => False⟩ s2 H5 cl2 C2 fp2 d hmem _ _ H' _ (sta_setE is (ht ⟨fun a => W a ∨ a = A, H', fun _ => False⟩ s0 Hb cl C fp d hmem).1 st2) fun H4 st3 => ?_
    have hlen : xs.length < sizeLine := by
      rw [hr.length, sizeLine_eq]
      omega
    cases e : c d with
    | true =>
      rw [if_pos rfl]
      intro s3 H6 C3 cl3 fp3
      refine (he ⟨fun a => W a ∨ a = A, H', fun _ => False⟩ s3 H6 cl3 C3 fp3 d hmem e).run st3 fun y H7 st4 => ?_
      obtain ⟨W5, g5⟩ := st4
      have k5 : Kp W5 (fun a => W a ∨ a = A) H7 H7 := ⟨fun _ _ _ e => e, fun a z => .inl (g5.sub a z)⟩
      have hA7 : H7 A = some (.lst xs) := g5.keep A _ (fun z => z) hxs'
      have k6 : Kp (fun a => W a ∨ a = A) (fun a => W a ∨ a = A) H7 (upd H7 A (.lst (xs ++ [y]))) := ⟨fun b o nb e => by rw [upd_ne (fun z => nb (.inr z))]; exact e, fun _ z => .inl z⟩
      refine ⟨xs, hA7, hlen, ⟨fun b o e => ?_, xs ++ [y], upd_same, ?_⟩⟩
      · rw [upd_ne (ne_of_none e hA)]
        exact g5.keep b o (fun z => z) (same b o (ci.keep b o e))
      · rw [resD_take hdi, if_pos e]
        exact RpL.keep k6 ((RpL.keep k5 g5.snd).append (.cons (Rp.keep k5 g5.top) .nil))
    | false =>
      rw [if_neg Bool.false_ne_true]
      obtain ⟨W5, g5⟩ := st3
      have k5 : Kp W5 (fun a => W a ∨ a = A) H4 H4 := ⟨fun _ _ _ e => e, fun a z => .inl (g5.sub a z)⟩
      refine ⟨fun b o e => g5.keep b o (fun z => z) (same b o (ci.keep b o e)), xs, g5.keep A _ (fun z => z) hxs', ?_⟩
      rw [resD_take hdi, e, if_neg Bool.false_ne_true, List.append_nil]
      exact RpL.keep k5 g5.top
  · have e : i = ds.length := by omega
    subst e
    rw [List.take_length] at hr
    refine .inl ⟨hst, q (.ref A) H2 ?_⟩
    have g' : Gd B.X.K B.F W H1 σ Γ T := { g with tmp := fun p hp => g.tmp p (List.mem_append_right _ hp) }
    exact (g'.grow ci.keep).with (.lst hxs (fun z => g.dom A z hA) (RpL.keep ⟨fun _ _ _ e => e, fun a z => .inl (.inl z)⟩ hr))
theorem de_comp (is vs : List Nat) (es : D → List D) (c : D → Bool) (f : D → D) (hs : SD B tg it Γ ds) (ok : blkC B.X.N B.X.env.scope scope own = true) (hl : ds.length < 1000000)
    (ht : ∀ F s H cl C fp, ∀ d ∈ ds, TgN (B.blk F s H scope cl C fp) tg d is (es d))
    (hc : ∀ F s H cl C fp, ∀ d ∈ ds, TsD (B.blk F s H scope cl C fp) ifs (setE (blkE Γ vs) is (es d)) (c d))
    (he : ∀ F s H cl C fp, ∀ d ∈ ds, c d = true → DE (B.blk F s H scope cl C fp) elt (setE (blkE Γ vs) is (es d)) (f d)) (hv : own.map (·.2) = vs := by rfl) (hi : ∀ i ∈ is, i ∈ vs := by decide) (hf : ∀ x, foldedSetIterable it B.X.env x = pure x := by intro _; rfl) (hh : B.hot = false := by rfl) :
    DE B (.ListComp elt [⟨tg, it, ifs, 0⟩] scope pos) Γ (.lst (resD c f ds)) := de_of fun T σ H Q s q => by
  subst hv
  exact SemE.of (pe_lc (own := own) (B.calm hh) B.nd semI (blkOk_by ok) (fun s H C cl fp => ⟨fun pins s1 σ H1 v u Q I r h => h s H C cl fp pins s1 u I r⟩) (fun s H C cl fp => ⟨fun pins s1 σ H1 Q I h => h s H C cl fp pins s1 I⟩) (fun s H C cl fp => ⟨fun pins s1 σ H1 Q I h => h s H C cl fp pins s1 I⟩) hf)
    (comp_core (own := own) hs rfl hi hl ht hc he s q)
/-- y = [..] -/
theorem sw_setLc {y : Str} {py spos : Pos} {P : Post} (i : Nat) (is vs : List Nat) (es : D → List D) (c : D → Bool) (f : D → D) (hs : SD B tg it Γ ds) (ok : blkC B.X.N B.X.env.scope scope own = true) (hl : ds.length < 1000000)
    (ht : ∀ F s H cl C fp, ∀ d ∈ ds, TgN (B.blk F s H scope cl C fp) tg d is (es d))
    (hc : ∀ F s H cl C fp, ∀ d ∈ ds, TsD (B.blk F s H scope cl C fp) ifs (setE (blkE Γ vs) is (es d)) (c d))
    (he : ∀ F s H cl C fp, ∀ d ∈ ds, c d = true → DE (B.blk F s H scope cl C fp) elt (setE (blkE Γ vs) is (es d)) (f d)) (k : P.nx (Γ.set i (some (.im (.lst (resD c f ds))))))
    (hsw : swapsWith (.ListComp elt [⟨tg, it, ifs, 0⟩] scope pos) (some (.Name y py)) spos.line B.X.env = pure true := by exact sw_true rfl rfl rfl (by decide +kernel)) (hv : own.map (·.2) = vs := by rfl) (hi : ∀ i ∈ is, i ∈ vs := by decide) (hy : B.X.N[i]? = some y := by rfl) (hyl : B.X.env.scope.names.lookup y = some .local := by rfl) (hf : ∀ x, foldedSetIterable it B.X.env x = pure x := by intro _; rfl) (hh : B.hot = false := by rfl) :
    SW B (.Assign [.Name y py] (.ListComp elt [⟨tg, it, ifs, 0⟩] scope pos) spos) Γ P := fun T σ H D s r => by
  subst hv
  exact SemS.of (ps_setLc (own := own) (B.calm hh) B.nd hy hyl hsw semI (blkOk_by ok) (fun s H C cl fp => ⟨fun pins s1 σ H1 v u Q I r h => h s H C cl fp pins s1 u I r⟩) (fun s H C cl fp => ⟨fun pins s1 σ H1 Q I h => h s H C cl fp pins s1 I⟩) (fun s H C cl fp => ⟨fun pins s1 σ H1 Q I h => h s H C cl fp pins s1 I⟩) hf)
    (comp_core (own := own) hs rfl hi hl ht hc he s fun v H' s' => r.nx _ H' _ k s'.store)
end
end Sd

set_option exponentiation.threshold 256
set_option Elab.async false
set_option linter.all false
set_option maxRecDepth 100000
set_option maxHeartbeats 4000000
namespace Sd
open PySem PySem.Spec PyProof.Rows L2
/-! ## Bodies -/
theorem cxN0 {P : Program} {w : World} (l : List PySem.Env) (H : Hp) (s : Shared) (e : Value) (s' : Shared) : ¬ L2N.CX P w l H s E0 e s' := fun h => by
  obtain ⟨_, _, _, _, _, _, _, _, _, _, _, _, z⟩ := h
  exact z
theorem cx0 {P : Program} {w : World} (l : List PySem.Env) (H : Hp) (s : Shared) (e : Value) (s' : Shared) : ¬ L2.CX P w l H s E0 e s' := fun h => by
  obtain ⟨_, _, _, _, _, _, _, _, _, _, _, _, z⟩ := h
  exact z
theorem takes_N {X : Cx} {W : WX} (t : L2.Takes X W) : L2N.Takes X W := fun u s' ⟨a, B, sI, pins, σ, H, cls, d, e, I, nb, up, sky, r⟩ => t u s' ⟨a, B, sI, pins, σ, H, cls, d, e, I, nb, up, (by
  rcases sky with ⟨h1, h2, h3, oe, vs, h4, hz, h5⟩ | x | x
  · exact .inl ⟨h1, h2, h3, oe, vs, h4, hz.zc, h5⟩
  · exact .inr (.inl (L2H.flyingZ_imp (fun o z => z.zc) x))
  · exact .inr (.inr ⟨x.1, x.2.1, x.2.2.1, L2H.tracedZ_imp (fun o z => z.zc) x.2.2.2⟩)), r⟩
/-- the context of a def's body -/
def bxN (P : Program) (w : World) (K : PySem.W.Frag) (mg : Str → Option Value) (base : Heap) (N : List Str) (qual : Str) (sc : Scope) (f : Addr) (cd : Value) (A : Around) (outer : List PySem.Env) (s : Shared) (H : Hp) (E : XK) (k : Nat) (W R : Addr → Prop)
    (room : Room k (A.deeper (envOfC qual sc s.heap.objs.size f cd))) (nd : N.Nodup) : Bx where
  X := cxOf (L2N.CX P w) P w K mg base N qual sc f cd A outer s H E
  F := ⟨W, H, R⟩
  Wx := fun c a _ H => E c a H
  k := k
  cx := L2N.CX P w
  pass := fun σ => L2N.passAt (L2N.takes_of rfl rfl rfl rfl) σ
  rz := true
  tk := fun _ => L2N.takes_of rfl rfl rfl rfl
  cx0 := cxN0
  hot := false
  calm := fun _ => rfl
  hd := fun _ => room.hd
  roomH := L2H.roomH_of room
  nd := nd
  po := fun _ _ => passes_of rfl
/-- .. of a def whose errors may bear a context -/
def bxH (P : Program) (w : World) (K : PySem.W.Frag) (mg : Str → Option Value) (base : Heap) (N : List Str) (qual : Str) (sc : Scope) (f : Addr) (cd : Value) (A : Around) (outer : List PySem.Env) (s : Shared) (H : Hp) (E : XK) (k : Nat) (W R : Addr → Prop)
    (room : Room k (A.deeper (envOfC qual sc s.heap.objs.size f cd))) (nd : N.Nodup) : Bx where
  X := cxOf (L2.CX P w) P w K mg base N qual sc f cd A outer s H E
  F := ⟨W, H, R⟩
  Wx := fun c a _ H => E c a H
  k := k
  cx := L2.CX P w
  pass := fun σ => passAt (takes_of rfl rfl rfl rfl) σ
  rz := true
  tk := fun _ => takes_N (takes_of rfl rfl rfl rfl)
  cx0 := cx0
  hot := false
  calm := fun _ => rfl
  hd := fun _ => room.hd
  roomH := L2H.roomH_of room
  nd := nd
  po := fun _ _ => passes_of rfl
/-- the slots at the start -/
def env0 (N : List Str) (ds : List D) : Env := ds.map (fun d => some (.im d)) ++ List.replicate (N.length - ds.length) none
def envM (N : List Str) (a C : Addr) (gs : List (Str × D)) (ds : List D) : Env := some (.mu a C gs) :: (ds.map (fun d => some (.im d)) ++ List.replicate (N.length - (ds.length + 1)) none)
def postF (r : Res) : Post where
  nx := fun _ => r = .ret .non
  rt := fun d _ => r = .ret d
  ex := fun C gs _ => r = .exc C gs
  bk := fun _ => False
  ct := fun _ => False
def postM (a C : Addr) (gs : List (Str × D)) (r : Res) : Post where
  nx := fun Γ => r = .ret .non ∧ Γ[0]? = some (some (.mu a C gs))
  rt := fun d Γ => r = .ret d ∧ Γ[0]? = some (some (.mu a C gs))
  ex := fun E hs Γ => r = .exc E hs ∧ Γ[0]? = some (some (.mu a C gs))
  bk := fun _ => False
  ct := fun _ => False
section
variable {P : Program} {w : World} {K : PySem.W.Frag} {mg : Str → Option Value} {base : Heap}
theorem start_get {N : List Str} {vs : List V} {i : Nat} {v : V} (h : vs[i]? = some v) : (L2.start N vs)[i]? = some (some v) := by
  unfold L2.start
  rw [List.getElem?_append_left (by rw [List.length_map]; exact (List.getElem?_eq_some_iff.mp h).1), List.getElem?_map, h]
  rfl
theorem start_length {N : List Str} {vs : List V} (h : vs.length ≤ N.length) : (L2.start N vs).length = N.length := by
  unfold L2.start
  rw [List.length_append, List.length_map, List.length_replicate]
  omega
theorem env0_get {N : List Str} {ds : List D} {i : Nat} {s : Sl} (h : (env0 N ds)[i]? = some (some s)) : ∃ d, s = .im d ∧ ds[i]? = some d := by
  unfold env0 at h
  by_cases hi : i < ds.length
  · rw [List.getElem?_append_left (by rw [List.length_map]; exact hi), List.getElem?_map, List.getElem?_eq_getElem hi] at h
    cases h
    exact ⟨_, rfl, List.getElem?_eq_getElem hi⟩
  · rw [List.getElem?_append_right (by rw [List.length_map]; omega), List.getElem?_replicate] at h
    split at h <;> cases h
theorem good0 {W : Addr → Prop} {H : Hp} {N : List Str} {vs : List V} {ds : List D} (wd : ∀ a, W a → H a ≠ none) (r : RpL K W H vs ds) (hl : ds.length ≤ N.length) : Sta K ⟨W, H, fun _ => False⟩ H (L2.start N vs) (env0 N ds) [] := by
  refine ⟨W, fun i s e => ?_, fun i j si sj e1 e2 o1 _ _ => ?_, wd, fun _ z => z, wd, fun _ z => z.elim, fun _ _ _ e => e, fun p hp => absurd hp (by simp), ?_, fun k j I sj e1 _ _ => by obtain ⟨d, z, _⟩ := env0_get e1; cases z⟩
  · obtain ⟨d, rfl, hd⟩ := env0_get e
    obtain ⟨v, hv, h⟩ := r.get hd
    exact ⟨v, start_get hv, h⟩
  · obtain ⟨d, rfl, _⟩ := env0_get e1
    exact o1.elim
  · rw [start_length (by rw [r.length]; exact hl)]
    unfold env0
    rw [List.length_append, List.length_map, List.length_replicate]
    omega
theorem goodM {W : Addr → Prop} {H : Hp} {N : List Str} {C r dx : Addr} {fs : List (Str × V)} {gs : List (Str × D)} {vs : List V} {ds : List D} (wd : ∀ a, W a → H a ≠ none) (wr : W r) (hr : H r = some (.ins C dx fs)) (hf : RpF K W H fs gs) (rr : RpL K W H vs ds) (hl : ds.length + 1 ≤ N.length) :
    Sta K ⟨W, H, fun a => a = r⟩ H (L2.start N (.ref r :: vs)) (envM N r C gs ds) [] := by
  have get : ∀ {i : Nat} {s : Sl}, (envM N r C gs ds)[i]? = some (some s) → (i = 0 ∧ s = .mu r C gs) ∨ ∃ d j, i = j + 1 ∧ s = .im d ∧ ds[j]? = some d := fun {i s} e => by
    cases i with
    | zero =>
      cases e
      exact .inl ⟨rfl, rfl⟩
    | succ j =>
      have e' : (ds.map (fun d => some (Sl.im d)) ++ List.replicate (N.length - (ds.length + 1)) none)[j]? = some (some s) := e
      by_cases hi : j < ds.length
      · rw [List.getElem?_append_left (by rw [List.length_map]; exact hi), List.getElem?_map, List.getElem?_eq_getElem hi] at e'
        cases e'
        exact .inr ⟨_, j, rfl, rfl, List.getElem?_eq_getElem hi⟩
      · rw [List.getElem?_append_right (by rw [List.length_map]; omega), List.getElem?_replicate] at e'
        split at e' <;> cases e'
  refine ⟨W, fun i s e => ?_, fun i j si sj e1 e2 o1 o2 ne => ?_, wd, fun _ z => z, wd, fun a z => by rw [show a = r from z]; exact wr, fun _ _ _ e => e, fun p hp => absurd hp (by simp), ?_, fun k j I sj e1 _ _ => by rcases get e1 with ⟨_, z⟩ | ⟨d, j, _, z, _⟩ <;> cases z⟩
  · rcases get e with ⟨rfl, rfl⟩ | ⟨d, j, rfl, rfl, hd⟩
    · exact ⟨.ref r, start_get rfl, dx, fs, rfl, wr, .inl rfl, hr, hf⟩
    · obtain ⟨v, hv, h⟩ := rr.get hd
      exact ⟨v, start_get (by simpa using hv), h⟩
  · rcases get e1 with ⟨rfl, rfl⟩ | ⟨d, a, rfl, rfl, hd⟩
    · rcases get e2 with ⟨rfl, rfl⟩ | ⟨d, a, rfl, rfl, hd⟩
      · exact absurd rfl ne
      · exact o2.elim
    · exact o1.elim
  · rw [start_length (by rw [List.length_cons, rr.length]; exact hl)]
    unfold envM
    rw [List.length_cons, List.length_append, List.length_map, List.length_replicate]
    omega
/-- the parameters' row is a beginning of the names -/
theorem params_le {N ps : List Str} {sc : Scope} (S : FnScope N ps sc) : ps.length ≤ N.length := by
  have := congrArg List.length S.pre
  rw [List.length_take] at this
  omega
theorem back_rp {W W' : Addr → Prop} {H : Hp} (h : ∀ a, W a → W' a) : Kp W' W H H := ⟨fun _ _ _ e => e, fun a z => .inl (h a z)⟩
theorem real0 {W : Addr → Prop} {H : Hp} {Q : VK} {E : XK} {r : Res} {B : Bx} (hK : B.X.K = K) (hF : B.F = ⟨W, H, fun _ => False⟩) (hW : B.Wx = fun c a _ H => E c a H) (hres : ResK K W (Same H) Q E r) : B.Real [] (postF r) { nx := fun _ H' => Q .non H', rt := Q } := by
  subst hK
  obtain ⟨X, F, Wx, k, cx, p1, p2, p3, p4, p5, p6, p7, p8, p9, p10⟩ := B
  simp only at hF hW hres
  subst hF hW
  refine ⟨fun σ H' Γ e s' => ?_, fun v d σ H' Γ e s' => ?_, fun σ C gs a H' Γ e s' => ?_, fun _ _ _ z => z.elim, fun _ _ _ z => z.elim⟩
  · obtain ⟨W', g⟩ := s'
    have e' : r = .ret .non := e
    subst e'
    exact hres .non H' (fun b o eb => g.keep b o (fun z => z) eb) .non
  · obtain ⟨W', g⟩ := s'
    have e' : r = .ret d := e
    subst e'
    exact hres v H' (fun b o eb => g.keep b o (fun z => z) eb) (Rp.keep (back_rp g.sub) g.top)
  · obtain ⟨W', g⟩ := s'
    have e' : r = .exc C gs := e
    subst e'
    obtain ⟨fs, ha, hw, hf⟩ := g.top
    exact hres a fs H' (fun b o eb => g.keep b o (fun z => z) eb) ha (fun z => hw (g.sub a z)) (RpF.keep (back_rp g.sub) hf)
theorem fn_intro {x qual : Str} {st : Stmt} {f : Addr} {fd : FuncData} {N ps : List Str} {k : Nat} {F : FS} (Fu : Fun K x qual st f fd) (S : FnScope N ps (defScope st)) (hlen : ∀ ds r, F ds r → ds.length = ps.length)
    (hb : ∀ (cd : Value) (A : Around) (outer : List PySem.Env) (s : Shared) (H : Hp) (E : XK) (W : Addr → Prop) (room : Room k (A.deeper (envOfC qual (defScope st) s.heap.objs.size f cd))) (ds : List D) (r : Res), F ds r →
      SsW (bxN P w K mg base N qual (defScope st) f cd A outer s H E k W (fun _ => False) room S.nd) (defBody st) (env0 N ds) (postF r)) : FnOk P w K mg base (L2N.CX P w) (k + 1) f fd ps (spF K F) := by
  obtain ⟨oc, od, kV, doc, pm, an, cdv, ct, osl, rfl, lk, hcd⟩ := Fu.ex
  refine fn_of lk hcd S (fun vs H Q E h => ?_) fun A outer s H vs Q E room h => ?_
  · obtain ⟨W, ds, r, _, hr, hF, _⟩ := h
    exact hr.length.trans (hlen ds r hF)
  · obtain ⟨W, ds, r, wd, hr, hF, hres⟩ := h
    exact ⟨_, semSs, hb cdv A outer s H E W room ds r hF [] _ H _ (good0 wd hr (by rw [hlen ds r hF]; exact params_le S)) (real0 rfl rfl rfl hres)⟩
theorem realM {W : Addr → Prop} {H : Hp} {Q : VK} {E : XK} {r : Res} {B : Bx} {a C : Addr} {gs' : List (Str × D)} (hK : B.X.K = K) (hF : B.F = ⟨W, H, fun b => b = a⟩) (hW : B.Wx = fun c a _ H => E c a H)
    (hres : ResK K W (fun H' => (∀ b o, b ≠ a → H b = some o → H' b = some o) ∧ ∃ dx' fs', H' a = some (.ins C dx' fs') ∧ RpF K W H' fs' gs') Q E r) : B.Real [] (postM a C gs' r) { nx := fun _ H' => Q .non H', rt := Q } := by
  subst hK
  obtain ⟨X, F, Wx, k, cx, p1, p2, p3, p4, p5, p6, p7, p8, p9, p10⟩ := B
  simp only at hF hW hres
  subst hF hW
  have fin : ∀ {σ : L2.St} {H' : Hp} {Γ : Env} {T : List Tm} {W' : Addr → Prop}, Gd X.K ⟨W, H, fun b => b = a⟩ W' H' σ Γ T → Γ[0]? = some (some (.mu a C gs')) →
      (∀ b o, b ≠ a → H b = some o → H' b = some o) ∧ ∃ dx' fs', H' a = some (.ins C dx' fs') ∧ RpF X.K W H' fs' gs' := fun {σ H' Γ T W'} g e => by
    obtain ⟨v, _, dx, fs, _, _, _, ha, hf⟩ := g.slot 0 _ e
    exact ⟨fun b o nb eb => g.keep b o nb eb, dx, fs, ha, RpF.keep (back_rp g.sub) hf⟩
  refine ⟨fun σ H' Γ e s' => ?_, fun v d σ H' Γ e s' => ?_, fun σ C gs b H' Γ e s' => ?_, fun _ _ _ z => z.elim, fun _ _ _ z => z.elim⟩
  · obtain ⟨W', g⟩ := s'
    obtain ⟨e', e0⟩ : r = .ret .non ∧ _ := e
    subst e'
    exact hres .non H' (fin g e0) .non
  · obtain ⟨W', g⟩ := s'
    obtain ⟨e', e0⟩ : r = .ret d ∧ _ := e
    subst e'
    exact hres v H' (fin g e0) (Rp.keep (back_rp g.sub) g.top)
  · obtain ⟨W', g⟩ := s'
    obtain ⟨e', e0⟩ : r = .exc C gs ∧ _ := e
    subst e'
    obtain ⟨fs, ha, hw, hf⟩ := g.top
    exact hres b fs H' (fin g e0) ha (fun z => hw (g.sub b z)) (RpF.keep (back_rp g.sub) hf)
theorem mm_intro {x qual : Str} {st : Stmt} {f C : Addr} {fd : FuncData} {N ps : List Str} {k : Nat} {M : MS} (Fu : Fun K x qual st f fd) (S : FnScope N ps (defScope st)) (hlen : ∀ gs ds gs' r, M gs ds gs' r → ds.length + 1 = ps.length)
    (hb : ∀ (cd : Value) (A : Around) (outer : List PySem.Env) (s : Shared) (H : Hp) (E : XK) (W : Addr → Prop) (a : Addr) (room : Room k (A.deeper (envOfC qual (defScope st) s.heap.objs.size f cd))) (gs : List (Str × D)) (ds : List D) (gs' : List (Str × D)) (r : Res), M gs ds gs' r →
      SsW (bxN P w K mg base N qual (defScope st) f cd A outer s H E k W (fun b => b = a) room S.nd) (defBody st) (envM N a C gs ds) (postM a C gs' r)) : FnOk P w K mg base (L2N.CX P w) (k + 1) f fd ps (spM K C M) := by
  obtain ⟨oc, od, kV, doc, pm, an, cdv, ct, osl, rfl, lk, hcd⟩ := Fu.ex
  refine fn_of lk hcd S (fun vs H Q E h => ?_) fun A outer s H vs Q E room h => ?_
  · obtain ⟨W, r, dx, fs, gs, ws, ds, gs', res, rfl, _, _, _, _, hr, hM, _⟩ := h
    rw [List.length_cons, hr.length]
    exact hlen gs ds gs' res hM
  · obtain ⟨W, r, dx, fs, gs, ws, ds, gs', res, rfl, wr, hr, wd, hf, hw, hM, hres⟩ := h
    exact ⟨_, semSs, hb cdv A outer s H E W r room gs ds gs' res hM [] _ H _ (goodM wd wr hr hf hw (by rw [hlen gs ds gs' res hM]; exact params_le S)) (realM rfl rfl rfl hres)⟩
end
end Sd

set_option exponentiation.threshold 256
set_option Elab.async false
set_option linter.all false
set_option maxRecDepth 100000
set_option maxHeartbeats 4000000
namespace Sd
open PySem PySem.Spec PyProof.Rows L2
/-! ## An except suite, with a name, that raises out of its def -/
section
variable {M : Model} {A A' : Around} {E E2 : Value → Shared → Prop} {s : Shared} {base : Heap} {env : PySem.Env} {outer : List PySem.Env} {L e : Addr} {Z : Obj → Prop}
theorem traced_but {h h' : Heap} {fl : Value} {m : Str → Option Value} (x : HandSPX.TracedZ h base e Z fl) (hn : h.Ns L m) (hs : Heap.SameBut L h h') : HandSPX.TracedZ h' base e Z fl := by
  obtain ⟨oe, vs, T, oT, ts, e1, e2, e3, e4, e5, e6, e7, e8, e9⟩ := x
  obtain ⟨oL, l1, l2, l3, l4, _⟩ := hn
  have far : ∀ {b : Addr} {o : Obj} {ws : Array Value}, h.get? b = some o → o.data = .fields ws → b ≠ L := fun {b o ws} g d z => by
    subst z
    rw [l3] at g
    cases g
    rw [l4] at d
    cases d
  exact ⟨oe, vs, T, oT, ts, (hs.2 e (far e1 e3)).trans e1, e2, e3, e4, e5, e6, (hs.2 T (far e7 e8)).trans e7, e8, e9⟩
/-- it is noted, the name goes, it is passed on, it leaves the def -/
theorem as_raised {n : Str} {pos : Pos} {m : Str → Option Value} {QL : Value → Shared → Prop} {E1 : Value → Shared → Prop} (hf : env.frame = some L) (hL : env.locals = L) (hh : HandSPX.HeldZ base (env :: outer) e Z L s.heap) (hn : s.heap.Ns L m) (hlo : env.kindOf n = some .local)
    (hp : (env.scope.kind == .class || (env.scope.kind == .module && env.locals != env.globals)) = false)
    (hQ : ∀ h' t', HandSPX.FlyingZ base outer e Z h' → (∀ b o, s.heap.get? b = some o → b ≠ L → (∀ vs, o.data ≠ .fields vs) → ∃ sl, h'.get? b = some { o with slots := sl }) → QL (.ref e) { s with heap := h', toks := t' }) :
    wpAny M A' (do bindName env n .none; unbindBehindTheSuite env n pos)
      (fun _ s2 => wpAny M A' (PySem.passOn "try.except-as" (.ref e) env : Sem Flow) (fun _ _ => False) (notedBy M A' env (cameBackBy M A env fun x s3 => wpAny M A (leaving env x) (fun _ s4 => QL x s4) E1 s3)) s2) E2 s := by
  obtain ⟨b1, b0, f1, t1⟩ := hh
  have bL : base.get? L = none := by
    obtain ⟨_, ⟨L', _, f', n', _⟩, _⟩ := f1
    rw [hf] at f'
    rw [Option.some.inj f']
    exact n'
  refine wpAny_nameGoes hlo (by rw [hL]; exact hn) hp fun h2 m2 n2 s2 => ?_
  rw [hL] at n2 s2
  have b2 : base.StaysIn h2 := fun b o hb => (s2.2 b fun q => by rw [q, bL] at hb; cases hb).trans (b1 b o hb)
  have f2 : h2.FunFrames base (env :: outer) := Heap.FunFrames.sameBut s2 n2 f1
  have t2 := traced_but t1 hn s2
  obtain ⟨oe, vs, T, oT, ts, e1, e2, e3, e4, r⟩ := id t2
  unfold PySem.passOn
  refine wpAny_bind (wpAny_field e1 e3 e4 ?_)
  rw [if_neg (show ¬ ((Value.ref T == Value.none) = true) from by simp), hf]
  refine wpAny_bind (HandSPX.setFlight_anyZ (fr := some L) b2 f2 t2 fun h3 b3 f3 t3 u3 => wpAny_throw ?_)
  show wpAny M A' (noteFrame (.ref e) env) _ _ _
  refine HandSPX.againZ hf t3 ?_
  show wpAny M A (do
    if (← field (.ref e) 1) == .none then unsupported "frame.own-activation:exception-without-traceback"
    setFlight (.ref e) env.frame) _ _ _
  obtain ⟨oe', vs', T', oT', ts', g1, g2, g3, g4, r'⟩ := id t3
  refine wpAny_bind (wpAny_field g1 g3 g4 ?_)
  rw [if_neg (show ¬ ((Value.ref T' == Value.none) = true) from by simp), hf]
  refine HandSPX.setFlight_anyZ (fr := some L) b3 f3 t3 fun h4 b4 f4 t4 u4 => ?_
  refine HandSPX.leaves_heldZ hf ⟨b4, b0, f4, t4⟩ fun h5 fl u5 => hQ h5 _ fl fun b o hb nb nf => ?_
  obtain ⟨sl, q⟩ := ((u3.trans u4).trans u5) b o ((s2.2 b nb).trans hb) nf
  exact ⟨sl, q⟩
end
/-- what is wished of a body's one error -/
def wOne (c : Value) (i : Nat) (ts : Addr → Option Addr → L2.St → Hp → Prop) : WX := fun cls d σ H => cls = c ∧ ∀ a, H a = none → ts a d (σ.set i (some (.ref a))) H
/-- the ends of a suite that only raises -/
def noEnds : Ends := { nx := fun _ _ => False, rt := fun _ _ => False, bk := fun _ _ => False, ct := fun _ _ => False }
theorem ps_try_from {X : Cx} {E : XK} {E1 : Value → Shared → Prop} {x n : Str} {c : Value} {i : Nat} {body suite : List Stmt} {b0 : Stmt} {np pos pos' : Pos} {tb : WX → TS} {ts : Addr → Option Addr → L2.St → Hp → Prop} (hs : X.stack = X.env :: X.outer) (hf : X.env.frame = some X.env.locals) (hex : X.ex = []) (hN : X.N.Nodup) (hi : X.N[i]? = some n) (hln : X.env.kindOf n = some .local) (hc : Names X x c)
    (hxe : X.xe = fun e s' => wpAny (model X.prog X.w) X.A (leaving X.env e) (fun _ s'' => L2.CX X.prog X.w X.outer X.H_0 X.s_0 E e s'') E1 s') (hcc : PySem.W.exmOne X.K c c = some true)
    (hb : ∀ (W : WX) (pn : List (Addr × Obj)) (xe : Value → Shared → Prop), L2N.Takes (X.tr pn xe) W → PassesOwn (model X.prog X.w) X.A X.env xe → PSs (X.tr pn xe) body (tb W))
    (hsu : ∀ (a : Addr) (oe : Obj) (d : Option Addr) (pn : List (Addr × Obj)) (xe : Value → Shared → Prop), L2N.Zn c d oe → (∃ vs, oe.data = .fields vs) → L2.Takes { X with A := X.A.mark (some (.ref a)), calm := false, pn := (a, oe) :: pn, xe := xe } (fun cls d _ H => E cls d H) → L2H.HotC { X with A := X.A.mark (some (.ref a)), calm := false, pn := (a, oe) :: pn, xe := xe } →
      PSs { X with A := X.A.mark (some (.ref a)), calm := false, pn := (a, oe) :: pn, xe := xe } (b0 :: suite) (fun _ σ H => ts a d σ H)) :
    PS X (.Try body [.ExceptHandler (some (.Name x np)) (some n) (b0 :: suite) pos'] [] [] pos) (fun D σ H => tb (wOne c i ts) D σ H) := by
  refine ⟨fun pins s σ H D I h => ?_⟩
  have ok := I.ok
  have frm : X.A.frames = some (X.env :: X.outer) := by rw [ok.frames, hs]
  have loc1 : Loc X.env.scope n := .inl hln
  have kd : (X.env.scope.kind == .class || (X.env.scope.kind == .module && X.env.locals != X.env.globals)) = false := by rw [ok.kind]; rfl
  refine wpAny_Try_except ?_
  refine wpAny_mono ((hb (wOne c i ts) (X.pn ++ pins) (fun e s1 => wpAny (model X.prog X.w) X.A (noteFrame e X.env) (fun _ s2 => wpAny (model X.prog X.w) X.A (setFlight e none) (fun _ s3 =>
    wpAny (model X.prog X.w) X.A (handleBy e X.env [.ExceptHandler (some (.Name x np)) (some n) (b0 :: suite) pos']) (SP X pins D) X.xe s3) X.xe s2) X.xe s1) (fun u s' xx => ?_) PassesOwn.looking).run [] s σ H D (I.toTry _) h) (fun f s1 hsp => ?_) (fun e s1 he => he)
  · obtain ⟨a, B, sI, pins', σ', H', cls, d, rfl, J', nb, up, sky, na, os, ag, rfl, hyes⟩ := xx
    have J : Inv X pins σ' H' sI := J'.ofTry ok
    have sky' : Sky B (X.env :: X.outer) a (L2N.Zn cls d) X.env.locals s'.heap := by rw [← hs]; exact sky
    show wpAny (model X.prog X.w) X.A (noteFrame (.ref a) X.env) _ _ _
    refine L2N.Sky.land L2N.Zn.steady frm hf sky' fun h3 fl3 up3 => ?_
    have J3 : Inv X pins σ' H' { s' with heap := h3 } := J.landed nb fl3.1 (up.trans up3) os ag
    obtain ⟨oe3, vs3, he3, hz3, hd3⟩ := fl3.there
    have away : ∀ {h : Heap} {o : Obj} {vs : Array Value}, h.FunFrames B (X.env :: X.outer) → h.get? a = some o → o.data = .fields vs → a ∉ frs (X.env :: X.outer) := fun {h o vs} ff g dd hm => by
      obtain ⟨_, o', g', nf⟩ := ff.mem hm
      rw [g] at g'
      cases g'
      exact nf _ dd
    have nfr := away fl3.2.2.1 he3 hd3
    have nL : a ≠ X.env.locals := fun z => nfr (List.mem_filterMap.mpr ⟨X.env, List.mem_cons_self, by rw [hf, z]⟩)
    have nF : a ∉ X.fs := fun hm => by
      obtain ⟨e, he, q⟩ := List.mem_filterMap.mp hm
      exact nfr (List.mem_filterMap.mpr ⟨e, List.mem_cons_of_mem _ he, q⟩)
    have S3 := J3.suite he3 hd3 na nL nF
    refine wpAny_handleBy_cons (codeAny_handlers_test ?_) (by intro q; cases q)
    have LT : PySem.W.Looks (model X.prog X.w) h3 (typeOf (.ref a)) cls := fun A Q E s k q => wpAny_typeOf_ref (k _ _ he3) (by rw [hz3.1]; exact q)
    have LM := PySem.W.exm_one (M := model X.prog X.w) (J3.kIn) LT hcc
    have test : ∀ {Q : Value → Shared → Prop} {E : Value → Shared → Prop}, Q cls { s' with heap := h3 } → wpAny (model X.prog X.w) (X.A.mark (some (.ref a))) (eval (.Name x np) X.env) Q E { s' with heap := h3 } := fun {Q E} q => by
      obtain ⟨hg, hdb, hm | ⟨hm, hv, hnn⟩⟩ := hc
      · exact ld_glob (X := X.suite a ((a, oe3) :: (X.pn ++ pins))) S3 hg hm q hdb
      · exact ld_blt (X := X.suite a ((a, oe3) :: (X.pn ++ pins))) S3 hg hm hv q hnn hdb
    refine test (LM.here ?_)
    refine codeAny_handlers_suite_as ?_
    refine HandSPX.lands_againZ fl3 fun h4 fl4 up4 => ?_
    have J4 : Inv X pins σ' H' { s' with heap := h4 } := J.landed nb fl4.1 ((up.trans up3).trans up4) os ag
    obtain ⟨oe4, vs4, he4, hz4, hd4⟩ := fl4.there
    have S4 := J4.suite he4 hd4 na nL nF
    refine store_ok (X := X.suite a ((a, oe4) :: (X.pn ++ pins))) (v := .ref a) S4 hN hi loc1 rfl (fun s5 S5 => ?_) (.inr hln)
    -- the suite, and what it raises
    generalize hXS : (fun (y : Value) (s6 : Shared) => AsSuiteRaised (model X.prog X.w) (X.A.mark (some (.ref a))) X.env n pos' (notedBy (model X.prog X.w) (X.A.mark (some (.ref a))) X.env (cameBackBy (model X.prog X.w) X.A X.env X.xe)) y s6) = XS
    have tk : L2.Takes { X with A := X.A.mark (some (.ref a)), calm := false, pn := (a, oe4) :: (X.pn ++ pins), xe := XS } (fun cls d _ H => E cls d H) := fun u6 s6 x6 => by
      obtain ⟨a2, B2, sI2, pn2, σ2, H2, cls2, d2, rfl, I2, nb2, up2, sky2, na2, os2, ag2, w2⟩ := x6
      have I3 : Inv X pins σ2 H2 sI2 := L2H.unsuiteX (q := (a, oe4)) (pn' := pn2) (show Inv (L2H.suiteX X a ((a, oe4) :: (X.pn ++ pins))) pn2 σ2 H2 sI2 from I2.wish X.xe) ok
      subst hXS
      have sky3 : Sky B2 (X.env :: X.outer) a2 (Zc cls2 d2) X.env.locals s6.heap := by rw [← hs]; exact sky2
      obtain ⟨m, hn, _⟩ := id I3.loc
      have rest : ∀ h7, HandSPX.HeldZ B2 (X.env :: X.outer) a2 (Zc cls2 d2) X.env.locals h7 → s6.heap.UpToSlots h7 →
          wpAny (model X.prog X.w) (X.A.mark (some (.ref a))) (do bindName X.env n .none; unbindBehindTheSuite X.env n pos')
            (fun _ s8 => wpAny (model X.prog X.w) (X.A.mark (some (.ref a))) (PySem.passOn "try.except-as" (.ref a2) X.env : Sem Flow) (fun _ _ => False) (notedBy (model X.prog X.w) (X.A.mark (some (.ref a))) X.env (cameBackBy (model X.prog X.w) X.A X.env X.xe)) s8)
            (fun y s8 => wpAny (model X.prog X.w) (X.A.mark (some (.ref a))) (setFlight (.ref a2) none) (fun _ s9 => (notedBy (model X.prog X.w) (X.A.mark (some (.ref a))) X.env (cameBackBy (model X.prog X.w) X.A X.env X.xe)) y s9) (notedBy (model X.prog X.w) (X.A.mark (some (.ref a))) X.env (cameBackBy (model X.prog X.w) X.A X.env X.xe)) s8) { s6 with heap := h7 } := fun h7 hh7 up7 => by
        rw [hxe]
        refine as_raised (s := { s6 with heap := h7 }) hf rfl hh7 (Heap.UpToSlots.ns (up2.trans up7) hn) hln kd fun h8 t8 fl8 k8 => ?_
        have hex' : ∀ b, b ∉ X.ex := fun b hb => by rw [hex] at hb; cases hb
        have nst : ∀ b o, X.s_0.heap.get? b = some o → b ∉ X.fs → b ∉ frs X.stack := fun b o e hb hm => by
          rcases List.mem_cons.mp (I3.stkSub b hm) with z | z
          · have h1 := Heap.lt_size e
            have h2 := ok.above
            rw [z] at h1
            exact absurd (Nat.lt_of_lt_of_le h1 h2) (Nat.lt_irrefl _)
          · exact hb z
        refine ⟨a2, B2, H2, cls2, d2, rfl, fl8, I3.inGround nb2, ⟨fun b o e nn hb => nb2 b o (I3.base.keep b o e nn hb (hex' b)) (nst b o e hb), fun b o e hb => ?_, fun b o e nn => I3.base.free b o e nn (hex' b), fun b o e hb => ?_, I3.base.tups, I3.base.frzs, I3.base.tbls⟩,
          na2, os2.trans I3.os, ag2, w2⟩
        · obtain ⟨_, o1, e1, nf⟩ := ok.funs.mem hb
          rw [e] at e1
          cases e1
          obtain ⟨sl, q1⟩ := I3.base.slot b o e (ok.frf b hb) hb (hex' b)
          obtain ⟨sl2, q2⟩ := (up2.trans up7) b _ q1 nf
          obtain ⟨sl3, q3⟩ := k8 b _ q2 (Nat.ne_of_lt (Nat.lt_of_lt_of_le (Heap.lt_size e) ok.above)) nf
          exact ⟨sl3, q3⟩
        · obtain ⟨o', q1⟩ := I3.base.there b o e (hex' b)
          exact ⟨o', nb2 b o' q1 (nst b o e hb)⟩
      show wpAny (model X.prog X.w) (X.A.mark (some (.ref a))) (noteFrame (.ref a2) X.env) _ _ s6
      have frm2 : (X.A.mark (some (.ref a))).frames = some (X.env :: X.outer) := frm
      rcases sky3 with ⟨hB, hn2, hl, oe, vs, he, hz, hd, h1⟩ | fl | hh
      · exact HandSPX.look_newZ Zc.steady frm2 hl hf he hB hn2 hd h1 hz rest
      · exact HandSPX.looks_onZ Zc.steady frm2 hf fl rest
      · exact HandSPX.againZ hf hh.2.2.2 (rest s6.heap hh (Heap.UpToSlots.refl _))
    have hot : L2H.HotC { X with A := X.A.mark (some (.ref a)), calm := false, pn := (a, oe4) :: (X.pn ++ pins), xe := XS } := ⟨(a, oe4), ⟨rfl, vs4, hd4, hz4.2.2 vs4 hd4⟩, List.mem_cons_self⟩
    have S6 : Inv { X with A := X.A.mark (some (.ref a)), calm := false, pn := (a, oe4) :: (X.pn ++ pins), xe := XS } [] (σ'.set i (some (.ref a))) H' s5 := Inv.unwish (X := { X with A := X.A.mark (some (.ref a)), calm := false, pn := (a, oe4) :: (X.pn ++ pins), xe := XS }) (E := fun _ _ => False) S5
    refine wpAny_mono ((hsu a oe4 d (X.pn ++ pins) XS hz4 ⟨_, hd4⟩ tk hot).run [] s5 _ H' noEnds S6 (hyes a na)) (fun f s6 hsp => ?_) (fun y s6 z => ?_)
    · cases f with
      | next =>
        obtain ⟨_, _, _, q⟩ := hsp
        exact q.elim
      | brk =>
        obtain ⟨_, _, _, q⟩ := hsp
        exact q.elim
      | cont =>
        obtain ⟨_, _, _, q⟩ := hsp
        exact q.elim
      | ret u =>
        obtain ⟨_, _, _, _, _, q⟩ := hsp
        exact q.elim
    · subst hXS
      exact z
  · cases f with
    | next =>
      obtain ⟨σ', H', J', q⟩ := hsp
      exact wpAny_execs_nil ⟨σ', H', J'.ofTry ok, q⟩
    | brk =>
      obtain ⟨σ', H', J', q⟩ := hsp
      exact ⟨σ', H', J'.ofTry ok, q⟩
    | cont =>
      obtain ⟨σ', H', J', q⟩ := hsp
      exact ⟨σ', H', J'.ofTry ok, q⟩
    | ret u =>
      obtain ⟨v, σ', H', J', r, q⟩ := hsp
      exact ⟨v, σ', H', J'.ofTry ok, r, q⟩
end Sd

set_option exponentiation.threshold 256
set_option Elab.async false
set_option linter.all false
set_option maxRecDepth 100000
set_option maxHeartbeats 4000000
namespace Sd
open PySem PySem.Spec PyProof.Rows L2
/-! ## Errors: what a def lets out, made known to those who ask less -/
theorem fn_weak {P : Program} {w : World} {K : PySem.W.Frag} {mg : Str → Option Value} {base : Heap} {k : Nat} {f : Addr} {fd : FuncData} {ps : List Str} {sp : Sp} (F : FnOk P w K mg base (L2N.CX P w) k f fd ps sp) : FnOk P w K mg base (L2.CX P w) k f fd ps sp :=
  ⟨F.len, fun A outer s H args us vs Q E hr he hb hv hs => codeAny_mono (F.run A outer s H args us vs Q E hr he hb hv hs) fun r s' h => by
    cases r with
    | ok fl => cases fl <;> exact h
    | error e =>
      obtain ⟨a, B, H', cls, d, rfl, fl, r⟩ := h
      exact ⟨a, B, H', cls, d, rfl, L2H.flyingZ_imp (fun o z => z.zc) fl, r⟩⟩
theorem Fn.weak {P : Program} {w : World} {K : PySem.W.Frag} {mg : Str → Option Value} {base : Heap} {x : Str} {k : Nat} {F : FS} (h : Fn (L2N.CX P w) P w K mg base x k F) : Fn (L2.CX P w) P w K mg base x k F := let ⟨f, fd, ps, ok, r⟩ := h; ⟨f, fd, ps, fn_weak ok, r⟩
theorem Mf.weak {P : Program} {w : World} {K : PySem.W.Frag} {mg : Str → Option Value} {base : Heap} {C : Addr} {x : Str} {k : Nat} {F : FS} (h : Mf (L2N.CX P w) P w K mg base C x k F) : Mf (L2.CX P w) P w K mg base C x k F := let ⟨f, fd, ps, ok, r⟩ := h; ⟨f, fd, ps, fn_weak ok, r⟩
theorem Mm.weak {P : Program} {w : World} {K : PySem.W.Frag} {mg : Str → Option Value} {base : Heap} {C : Addr} {x : Str} {k : Nat} {F : MS} (h : Mm (L2N.CX P w) P w K mg base C x k F) : Mm (L2.CX P w) P w K mg base C x k F := let ⟨f, fd, ps, ok, r⟩ := h; ⟨f, fd, ps, fn_weak ok, r⟩
theorem Mi.weak {P : Program} {w : World} {K : PySem.W.Frag} {mg : Str → Option Value} {base : Heap} {C : Addr} {x : Str} {k : Nat} {F : MS} (h : Mi (L2N.CX P w) P w K mg base x C k F) : Mi (L2.CX P w) P w K mg base x C k F := let ⟨f, fd, ps, ok, r⟩ := h; ⟨f, fd, ps, fn_weak ok, r⟩

/-! ## A new error: its class's own __init__ -/
/-- an error's dict, the newest field first -/
def xdOf : List Str → List V → List (Str × V) → List (Str × V)
  | n :: ns, v :: vs, acc => xdOf ns vs ((n, v) :: acc)
  | _, _, acc => acc
/-- X.__init__(self, ..): all of names is kept -/
def spX (C : Addr) (names : List Str) : Sp := fun vs H Q E => ∃ (a : Addr) (ws : List V), vs = .ref a :: ws ∧ ws.length = names.length ∧ H a = some (exo a C none) ∧
  ∀ dx, H dx = none → dx ≠ a → ∀ H', (∀ b, b ≠ a → b ≠ dx → H' b = H b) → H' a = some (exo a C (some dx)) → H' dx = some (exd dx (xdOf names ws [])) → Q .non H'
section
variable {X : Cx} {C : Addr} {m : Str} {j : Nat} {p p1 p2 p3 p4 p5 p6 p7 p8 q5 q6 q7 q8 : Pos} {f1 f2 x1 x2 : Str}
/-- what the written part says of an error's class -/
structure ExT (K : PySem.W.Frag) (C : Addr) (names : List Str) : Prop where
  ox : OexC K C
  no : ∀ n ∈ names, PySem.W.findIn K (.ref C) n = some none
  vV : PySem.W.findCls K (.type "ValueError") (.type "type") "__init__" = some (.val (.builtin "ValueError.__init__"))
theorem ex_init1 (T : ExT X.K C [f1]) (hg : Gl X "ValueError") (hm : X.mg "ValueError" = none) (h0 : PE X (.Name "self" p3) (tVar 0)) (h0' : PE X (.Name "self" p5) (tVar 0)) (h1 : PE X (.Name x1 p7) (tVar 1))
    (hc : ∃ pl, eval (.Call (.Attribute (.Name "ValueError" p1) "__init__" p2) [.Name "self" p3, .Constant (.str m) j p4] [] p) X.env = (do
      let ov ← eval (.Name "ValueError" p1) X.env
      standAt p2.atName
      let (f, first) ← holding [ov] (getMethod ov "__init__" pl)
      callWith p f first (backTo p (starEach [.Name "self" p3, .Constant (.str m) j p4] X.env)) (backToKw p (keywordEach [] X.env))))
    (ha : starEach [.Name "self" p3, .Constant (.str m) j p4] X.env = (false, eval (.Name "self" p3) X.env) :: starEach [.Constant (.str m) j p4] X.env := by rfl) (hb : starEach [.Constant (.str m) j p4] X.env = (false, eval (.Constant (.str m) j p4) X.env) :: starEach [] X.env := by rfl)
    (hp : (backTo p (starEach [.Constant (.str m) j p4] X.env)).any (·.1) = false := by rfl) (hs : swapsWith (.Call (.Attribute (.Name "ValueError" p1) "__init__" p2) [.Name "self" p3, .Constant (.str m) j p4] [] p) none p.line X.env = pure false := by rfl)
    (hs2 : swapsWith (.Name x1 p7) (some (.Attribute (.Name "self" p5) f1 p6)) p8.line X.env = pure false := by rfl) {σ : L2.St} {H : Hp} {vs : List V} {Q : VK} {E : XK} (hq : spX C [f1] vs H Q E) (hσ : ∀ (i : Nat) (v : V), vs[i]? = some v → σ[i]? = some (some v)) :
    ∃ t : TS, PSs X [.Expr (.Call (.Attribute (.Name "ValueError" p1) "__init__" p2) [.Name "self" p3, .Constant (.str m) j p4] [] p) p, .Assign [.Attribute (.Name "self" p5) f1 p6] (.Name x1 p7) p8] t ∧ t { nx := fun _ H' => Q .non H', rt := Q } σ H := by
  obtain ⟨pl, hc⟩ := hc
  refine ⟨_, pss_cons (ps_expr (pe_veinit (pl := pl) hg hm T.vV (pa_cons h0 (pa_cons pe_str pa_nil hb) ha) hc ha hp) hs) (pss_one (ps_ost h0' h1 hs2)), ?_⟩
  obtain ⟨a, ws, rfl, hl, ha, k⟩ := hq
  cases ws with
  | nil => cases hl
  | cons v1 ws =>
    cases ws with
    | cons _ _ => cases hl
    | nil =>
      have s0 := hσ 0 (.ref a) rfl
      have s1 := hσ 1 v1 rfl
      refine ⟨.ref a, s0, a, C, [.str m], rfl, by simp, T.ox, ha, v1, s1, .ref a, s0, a, C, rfl, T.ox, T.no f1 (by simp), .inl ⟨ha, fun dx n ne => k dx n ne _ (fun b b1 b2 => ?_) upd_same ?_⟩⟩
      · rw [upd_ne b1, upd_ne b2]
      · rw [upd_ne ne, upd_same]
        rfl
theorem ex_init2 (T : ExT X.K C [f1, f2]) (hg : Gl X "ValueError") (hm : X.mg "ValueError" = none) (h0 : PE X (.Name "self" p3) (tVar 0)) (h0' : PE X (.Name "self" p5) (tVar 0)) (h1 : PE X (.Name x1 p7) (tVar 1)) (h0q : PE X (.Name "self" q5) (tVar 0)) (h2 : PE X (.Name x2 q7) (tVar 2))
    (hc : ∃ pl, eval (.Call (.Attribute (.Name "ValueError" p1) "__init__" p2) [.Name "self" p3, .Constant (.str m) j p4] [] p) X.env = (do
      let ov ← eval (.Name "ValueError" p1) X.env
      standAt p2.atName
      let (f, first) ← holding [ov] (getMethod ov "__init__" pl)
      callWith p f first (backTo p (starEach [.Name "self" p3, .Constant (.str m) j p4] X.env)) (backToKw p (keywordEach [] X.env))))
    (ha : starEach [.Name "self" p3, .Constant (.str m) j p4] X.env = (false, eval (.Name "self" p3) X.env) :: starEach [.Constant (.str m) j p4] X.env := by rfl) (hb : starEach [.Constant (.str m) j p4] X.env = (false, eval (.Constant (.str m) j p4) X.env) :: starEach [] X.env := by rfl)
    (hp : (backTo p (starEach [.Constant (.str m) j p4] X.env)).any (·.1) = false := by rfl) (hs : swapsWith (.Call (.Attribute (.Name "ValueError" p1) "__init__" p2) [.Name "self" p3, .Constant (.str m) j p4] [] p) none p.line X.env = pure false := by rfl)
    (hs2 : swapsWith (.Name x1 p7) (some (.Attribute (.Name "self" p5) f1 p6)) p8.line X.env = pure false := by rfl) (hs3 : swapsWith (.Name x2 q7) (some (.Attribute (.Name "self" q5) f2 q6)) q8.line X.env = pure false := by rfl) {σ : L2.St} {H : Hp} {vs : List V} {Q : VK} {E : XK} (hq : spX C [f1, f2] vs H Q E) (hσ : ∀ (i : Nat) (v : V), vs[i]? = some v → σ[i]? = some (some v)) :
    ∃ t : TS, PSs X [.Expr (.Call (.Attribute (.Name "ValueError" p1) "__init__" p2) [.Name "self" p3, .Constant (.str m) j p4] [] p) p, .Assign [.Attribute (.Name "self" p5) f1 p6] (.Name x1 p7) p8, .Assign [.Attribute (.Name "self" q5) f2 q6] (.Name x2 q7) q8] t ∧ t { nx := fun _ H' => Q .non H', rt := Q } σ H := by
  obtain ⟨pl, hc⟩ := hc
  refine ⟨_, pss_cons (ps_expr (pe_veinit (pl := pl) hg hm T.vV (pa_cons h0 (pa_cons pe_str pa_nil hb) ha) hc ha hp) hs) (pss_cons (ps_ost h0' h1 hs2) (pss_one (ps_ost h0q h2 hs3))), ?_⟩
  obtain ⟨a, ws, rfl, hl, ha, k⟩ := hq
  match ws, hl with
  | [v1, v2], _ =>
    have s0 := hσ 0 (.ref a) rfl
    have s1 := hσ 1 v1 rfl
    have s2 := hσ 2 v2 rfl
    refine ⟨.ref a, s0, a, C, [.str m], rfl, by simp, T.ox, ha, v1, s1, .ref a, s0, a, C, rfl, T.ox, T.no f1 (by simp), .inl ⟨ha, fun dx n ne => ?_⟩⟩
    refine ⟨v2, s2, .ref a, s0, a, C, rfl, T.ox, T.no f2 (by simp), .inr ⟨dx, _, upd_same, by rw [upd_ne ne, upd_same], by simp, k dx n ne _ (fun b b1 b2 => ?_) ?_ ?_⟩⟩
    · rw [upd_ne b2, upd_ne b1, upd_ne b2]
    · rw [upd_ne (Ne.symm ne), upd_same]
    · rw [upd_same]
      rfl
end
/-- X(..), X's own __init__ in both weathers -/
def tMk (C : Addr) (names : List Str) (ta : TA) : L2.St → Hp → XK → Prop := fun σ H Q => ta σ H fun vs H1 => vs.length = names.length ∧ ∀ d, H1 d = none → Q (.ref C) (some d) (upd H1 d (.xd (xdOf names vs [])))
section
variable {X : Cx} {CX : CXT} {x : Str} {e : Expr} {es : List Expr} {ta : TA} {p pos : Pos} {C fI : Addr} {k : Nat} {fd : FuncData} {ps : List Str} {names : List Str}
theorem tMk_of {names : List Str} (hn : names.length ≤ 900) {σ : L2.St} {H : Hp} {Q : XK} {vs : List V} (hl : vs.length = names.length) (q : ∀ d, H d = none → Q (.ref C) (some d) (upd H d (.xd (xdOf names vs [])))) : ∀ a, H a = none → spX C names (.ref a :: (vs ++ [])) (upd H a (exo a C none))
    (fun v H2 => v = .non ∧ ∃ (d : Addr) (fs : List (Str × V)), H2 a = some (exo a C (some d)) ∧ H2 d = some (exd d fs) ∧ H d = none ∧ Q (.ref C) (some d) (upd (del H2 a) d (.xd fs))) (fun _ _ _ => False) := fun a ha => by
  refine ⟨a, vs, by rw [List.append_nil], hl, upd_same, fun dx n ne H' k1 k2 k3 => ⟨rfl, dx, _, k2, k3, ?_, ?_⟩⟩
  · rw [upd_ne ne] at n
    exact n
  · have n' : H dx = none := by
      rw [upd_ne ne] at n
      exact n
    have eq : upd (del H' a) dx (.xd (xdOf names vs [])) = upd H dx (.xd (xdOf names vs [])) := by
      funext b
      by_cases h1 : b = dx
      · rw [h1, upd_same, upd_same]
      · rw [upd_ne h1, upd_ne h1]
        by_cases h2 : b = a
        · rw [h2, del_same, ha]
        · rw [del_ne h2, k1 b h2 h1, upd_ne h2]
    rw [eq]
    exact q dx n'
theorem pmk_N (T : OexC X.K C) (iC : PySem.W.findIn X.K (.ref C) "__init__" = some (some (.ref fI))) (tI : PySem.W.typeIn X.K (.ref fI) = some (.type "function"))
    (F1 : FnOk X.prog X.w X.K X.mg X.base CX k fI fd ps (spX C names)) (hr : Room (k + 1) X.A) (hb : Binds X.K fd ps []) (hx : Passes CX X (fun _ _ _ => False)) (hg : Gl X x) (hm : X.mg x = some (.ref C)) (hn : names.length ≤ 900) (ha : PA X (e :: es) ta)
    (hdb : (x == ("__debug__" : Str)) = false := by decide) (he : starEach (e :: es) X.env = (false, eval e X.env) :: starEach es X.env := by rfl) (hpl : (backTo pos (starEach es X.env)).any (·.1) = false := by rfl) :
    L2N.PMk X (.Call (.Name x p) (e :: es) [] pos) (tMk C names ta) := by
  intro pins s σ H Q I h
  obtain ⟨nm, q, N, bs, bm, sn, sub, ab, col, dd, k0, k1, k2, k3, k5, hC, hbm⟩ := T.cls
  refine wpAny_Call_Name_kw (ld_glob I hg hm ?_ hdb)
  refine PySem.W.callWith_K (h₀ := X.base) I.ok.mod.kin T.kC (thn (ha.run pos pins s σ H _ I h) fun us s1 ⟨vs, H1, I1, r1, hz, q1⟩ => ⟨I1.kIn, ?_⟩) he hpl
  show wpAny _ _ (call (.ref C) us) _ _ _
  obtain ⟨hp, g, dr, tk, os⟩ := s1
  have big : hp.objs.size ≤ hp.objs.size + 1 := Nat.le_succ _
  have hn1 : H1 (hp.objs.size + 1) = none := I1.hok.fresh big
  have hq := tMk_of (C := C) (σ := σ) (Q := Q) hn hz q1 (hp.objs.size + 1) hn1
  have old : ∀ b o, hp.get? b = some o → ((hp.push (PySem.W.kdv_tup us)).push (PySem.HandSPX.excO C hp.objs.size)).get? b = some o := fun b o g => Heap.get?_push_of_some _ (Heap.get?_push_of_some _ g)
  have got : ((hp.push (PySem.W.kdv_tup us)).push (PySem.HandSPX.excO C hp.objs.size)).get? (hp.objs.size + 1) = some (PySem.HandSPX.excO C hp.objs.size) := by heap_get
  have I2 : Inv X pins σ (upd H1 (hp.objs.size + 1) (exo (hp.objs.size + 1) C none)) ⟨(hp.push (PySem.W.kdv_tup us)).push (PySem.HandSPX.excO C hp.objs.size), g, dr, tk, os⟩ := I1.laid (t' := tk) old big (exo_ok got)
  have r2 : Vals (V.ref (hp.objs.size + 1) :: (vs ++ [])) (Value.ref (hp.objs.size + 1) :: us) := by
    rw [List.append_nil]
    exact .cons rfl r1
  have hlen : (Value.ref (hp.objs.size + 1) :: us ++ []).length = ps.length := by
    have z := r2.length
    rw [F1.len _ _ _ _ hq] at z
    rw [List.append_nil]
    exact z.symm
  have few : us.length ≤ sizeLine := by
    rw [← Paired.length r1, hz, sizeLine_eq]
    omega
  have b2 := hb _ (Value.ref (hp.objs.size + 1) :: us) I2.kIn hlen
  rw [List.append_nil] at b2
  refine wpAny_call (PySem.HandSPX.call_own F.excBase_ValueError (fun Y => PySem.HandSPX.refsVE_contains Y bm hbm) (I1.kIn _ _ hC) (PySem.W.looks_findIn I1.kIn iC) (fun self => PySem.W.bind_fn I1.kIn self tI) few
    (codeAny_mono (F1.run _ X.stack _ _ ⟨Value.ref (hp.objs.size + 1) :: us, []⟩ (Value.ref (hp.objs.size + 1) :: us) _ _ (fun _ _ _ => False) (hr.make C us []) (I2.env0.make C us []) b2 r2 hq) fun r s' hq' => ?_))
  cases r with
  | error er => exact hx pins σ _ _ er s' I2 hq'
  | ok fl =>
    cases fl with
    | ret u =>
      obtain ⟨v, H2, os2, bare2, un2, hok2, rv, ev, d, fs, ea, ed, hd1, q2⟩ := hq'
      subst ev
      obtain ⟨h2, g2, d2, t2, os'⟩ := s'
      obtain ⟨t0, G, J, kG, ge, hoe, na⟩ := mk_end0 (d2 := d2) (t2 := t2) I1 big old un2 hok2 os2 bare2 ea ed hd1
      refine ⟨rv, hp.objs.size + 1, _, _, ⟨G, g2, d2, t2, os'⟩, _, .ref C, some d, rfl, J, kG, ge, hoe, ⟨rfl, rfl, fun vs hv => ?_⟩, rfl, rfl, na, rfl, bare2, raises_own T.exC T.tyC, q2⟩
      cases hv
      rfl
    | next => exact False.elim hq'
    | brk => exact False.elim hq'
    | cont => exact False.elim hq'
theorem pmk_H (T : OexC X.K C) (iC : PySem.W.findIn X.K (.ref C) "__init__" = some (some (.ref fI))) (tI : PySem.W.typeIn X.K (.ref fI) = some (.type "function"))
    (F1 : L2H.FnH X.prog X.w X.K X.mg X.base CX k fI fd ps (spX C names)) (hr : L2H.RoomH (k + 1) X.A) (hc : L2H.HotC X) (hb : Binds X.K fd ps []) (hx : Passes CX X (fun _ _ _ => False)) (hg : Gl X x) (hm : X.mg x = some (.ref C)) (hn : names.length ≤ 900)
    (hdb : (x == ("__debug__" : Str)) = false := by decide) (he : starEach (e :: es) X.env = (false, eval e X.env) :: starEach es X.env := by rfl) (hpl : (backTo pos (starEach es X.env)).any (·.1) = false := by rfl) :
    L2H.PMk5 X (.Call (.Name x p) (e :: es) [] pos) (tMk C names (SemA X (e :: es))) := fun pins s σ H Q I h =>
  L2H.pmk5_oexH (ta := SemA X (e :: es)) T iC tI F1 hr hc hb hx hg hm semA hdb he hpl pins s σ H Q I
    (fun pos pins s I => thn (h pos pins s I) fun us s1 ⟨vs, H1, I1, r1, hz, q1⟩ => ⟨vs, H1, I1, r1, by omega, tMk_of (σ := σ) hn hz q1⟩)
end
end Sd

set_option exponentiation.threshold 256
set_option Elab.async false
set_option linter.all false
set_option maxRecDepth 100000
set_option maxHeartbeats 4000000
namespace Sd
open PySem PySem.Spec PyProof.Rows L2
/-! ## Defs called in any weather: p is the error that is handled, or any thing that stands -/
structure FnW (P : Program) (w : World) (K : PySem.W.Frag) (mg : Str → Option Value) (base : Heap) (CX : CXT) (k : Nat) (f : Addr) (fd : FuncData) (ps : List Str) (sp : Addr × Obj → Sp) : Prop where
  len : ∀ p vs H Q E, sp p vs H Q E → vs.length = ps.length
  run : ∀ (A : Around) (outer : List PySem.Env) (s : Shared) (H : Hp) (args : Args) (us : List Value) (vs : List V) (Q : VK) (E : XK) (p : Addr × Obj), L2H.RoomH k A → L2H.PinOk outer H s p → Env0 P w K mg base A outer s H → BindsTo s fd args (ps.zip us) → Vals vs us → sp p vs H Q E →
    codeAny (model P w) A (.call (.ref f) args) (CR CX outer P w H s Q E) s
theorem fnw_of {CX : CXT} {P : Program} {w : World} {K : PySem.W.Frag} {mg : Str → Option Value} {base : Heap} {k : Nat} {f : Addr} {name qual : Str} {params : Arguments} {body : List Stmt} {scope : Scope} {dV kV doc pm cdv ct oc : Value} {an od : Option Addr}
    {osl : Array (Option Value)} {N ps : List Str} {sp : Addr × Obj → Sp} (lk : K.lookup f = some ⟨oc, od, .func (PySem.W.fnOf name qual params body scope dV kV doc pm an cdv ct), osl⟩) (hcd : PySem.W.codeIn K cdv qual = true) (S : FnScope N ps scope)
    (len : ∀ p vs H Q E, sp p vs H Q E → vs.length = ps.length)
    (hbody : ∀ (A : Around) (outer : List PySem.Env) (s : Shared) (H : Hp) (vs : List V) (Q : VK) (E : XK) (p : Addr × Obj), L2H.RoomH k (A.deeper (envOfC qual scope s.heap.objs.size f cdv)) → sp p vs H Q E →
      ∃ t : TS, PSs (L2H.cxH CX P w K mg base N qual scope f cdv A outer s H E p) body t ∧ t { nx := fun _ H' => Q .non H', rt := Q } (L2.start N vs) H) :
    FnW P w K mg base CX (k + 1) f (PySem.W.fnOf name qual params body scope dV kV doc pm an cdv ct) ps sp := by
  refine ⟨len, fun A outer s H args us vs Q E p room pin e0 bd rv hsp => ?_⟩
  have many := len _ _ _ _ _ hsp
  have inK : K.In s.heap := e0.mod.kin.keeps fun b o e => (e0.bs b o e).1
  have lim : s.heap.NoLimit := e0.mod.nolimit.keeps fun b o e => (e0.bs b o e).1
  have kinds : ∀ y ∈ ps.zip us, scope.names.lookup y.1 = some .local ∨ (scope.names.lookup y.1 = some .cell ∧ ((cellsFrom (s.heap.objs.size + 1) scope.names []).lookup y.1).isSome = true) := fun ⟨n, v⟩ hy => by
    cases S.par n (List.of_mem_zip hy).1 with
    | inl q => exact .inl q
    | inr q => exact .inr ⟨q, PySem.W.cellsFrom_some _ _ _ (.inl q)⟩
  refine codeAny_call_function room.depth (inK _ _ lk) rfl S.co S.gen rfl (PySem.W.codeRec_of inK hcd) (bd _ _ _ _ (wpAny_newFunctionEnv_cells S.kind kinds fun env he s1 x => ?_))
  subst he
  obtain ⟨t, ht, hq⟩ := hbody A outer s H vs Q E p (room.deeper _) hsp
  refine ⟨lim.keeps x.toInCall.keep, codeAny_func (wpAny_mono (ht.run [] s1 (L2.start N vs) H _ (L2H.inv_startH S pin e0 many rv x) hq) (fun fl s' hs => ?_) fun e s' hs => hs)⟩
  cases fl with
  | ret u =>
    obtain ⟨v, σ', H', J, r2, q⟩ := hs
    exact ⟨v, H', J.os, J.bare, J.base, J.hok, r2, q⟩
  | next =>
    obtain ⟨σ', H', J, q⟩ := hs
    exact ⟨V.non, H', J.os, J.bare, J.base, J.hok, rfl, q⟩
  | brk =>
    obtain ⟨_, _, _, q⟩ := hs
    exact q.elim
  | cont =>
    obtain ⟨_, _, _, q⟩ := hs
    exact q.elim
theorem pe_callW {X : Cx} {CX : CXT} {k : Nat} {f : Addr} {fd : FuncData} {ps : List Str} {sp : Addr × Obj → Sp} {E : L2.St → XK} {x : Str} {p pos : Pos} {e : Expr} {es : List Expr} {t : TA} {q : Addr × Obj} (F : FnW X.prog X.w X.K X.mg X.base CX k f fd ps sp) (hr : L2H.RoomH k X.A) (hp : q ∈ X.pn)
    (hg : Gl X x) (hm : X.mg x = some (.ref f)) (hk : PySem.W.keepIn X.K (.ref f) = true) (hb : Binds X.K fd ps []) (hx : ∀ σ, PassesAt CX X σ (E σ)) (ha : PA X (e :: es) t)
    (hdb : (x == ("__debug__" : Str)) = false := by decide) (he : starEach (e :: es) X.env = (false, eval e X.env) :: starEach es X.env := by rfl) (hpl : (backTo pos (starEach es X.env)).any (·.1) = false := by rfl) :
    PE X (.Call (.Name x p) (e :: es) [] pos) (fun σ H Q => t σ H fun vs H1 => sp q vs H1 Q (E σ)) := by
  constructor
  intro pins s σ H Q I h
  refine wpAny_Call_Name_kw (ld_glob I hg hm ?_ hdb)
  refine PySem.W.callWith_K (h₀ := X.base) I.ok.mod.kin hk (thn (ha.run pos pins s σ H _ I h) fun us s1 ⟨vs, H1, I1, r, q1⟩ => ⟨I1.kIn, ?_⟩) he hpl
  have many : us.length = ps.length := by rw [← r.length]; exact F.len _ _ _ _ _ q1
  have b := hb s1 us I1.kIn (by rw [List.append_nil]; exact many)
  rw [List.append_nil] at b
  have P1 := I1.pin q (List.mem_append_left _ hp)
  have pin : L2H.PinOk X.stack H1 s1 q := ⟨P1.1, P1.2.1, fun hm => (List.mem_cons.mp (I1.stkSub q.1 hm)).elim P1.2.2.1 P1.2.2.2.1, P1.2.2.2.2⟩
  refine wpAny_call (codeAny_mono (F.run X.A X.stack s1 H1 ⟨us, []⟩ us vs Q (E σ) q hr pin I1.env0 b r q1) fun r s' hq => ?_)
  cases r with
  | error e => exact hx σ pins H1 s1 e s' I1 hq
  | ok fl =>
    cases fl with
    | ret u => exact I1.after hq
    | next => exact hq.elim
    | brk => exact hq.elim
    | cont => exact hq.elim
/-- e.f of an error that stands -/
theorem pe_xfW {X : Cx} {a C dd : Addr} {oe : Obj} {e : Expr} {te : TE} {pos : Pos} {n : Str} (T : XfC X.K C) (no : PySem.W.findIn X.K (.ref C) n = some none) (hp : (a, oe) ∈ X.pn) (hz : Zc (.ref C) (some dd) oe) (hf : ∃ vs, oe.data = .fields vs) (he : PE X e te)
    (hb : attributeBase e n X.env (eval e X.env) = eval e X.env := by rfl) : PE X (.Attribute e n pos) (fun σ H Q => te σ H fun x H1 => x = .ref a ∧ ∃ (fs : List (Str × V)) (v : V), H1 dd = some (.xd fs) ∧ fs.lookup n = some v ∧ Q v H1) := by
  constructor
  intro pins s σ H Q I h
  refine attr_of hb (thn (he.run pins s σ H _ I h) fun u s1 ⟨x, H1, I1, rx, ex, fs, v, ea, l, q⟩ => ?_)
  subst ex
  obtain rfl : u = Value.ref a := rx
  have ha := (I1.pin (a, oe) (List.mem_append_left _ hp)).1
  obtain ⟨vs, hd⟩ := hf
  obtain ⟨mA, hns, hr⟩ := (show ObjOk X.prog X.w H1 s1.heap dd (.xd fs) from I1.hok dd _ ea)
  obtain ⟨od, ho, hl⟩ := lookIn_ns hns
  obtain ⟨u, hu, ru⟩ := RelO.some_of (v := v) (o := mA n) (by rw [← l]; exact hr n)
  have J : PySem.W.InstAt s1.heap a oe C (some od) := ⟨ha, hz.1, by unfold PySem.W.notCls; rw [hd] <;> rfl, by rw [hz.2]; exact ho⟩
  exact HandSPX.exc_get I1.kIn J T.ga T.gg T.exC (PySem.W.findObj_own T.hdC no rfl (by rw [hl, hu])) (handed_of ru) ⟨v, H1, I1.tok _, ru, q⟩
section
variable {B : Bx} {e : Expr} {es : List Expr} {Γ : Env} {R : RE} {Xp : XP} {d : D} {ds : List D} {pos p p1 : Pos} {k : Nat} {F : FS} {n f x : Str} {C a dd : Addr} {gs : List (Str × D)} {oe : Obj} {q : Addr × Obj}
theorem de_xf (i : Nat) (h : Γ[i]? = some (some (.xc a dd gs))) (T : XfC B.X.K C) (no : PySem.W.findIn B.X.K (.ref C) f = some none) (hp : (a, oe) ∈ B.X.pn) (hz : Zc (.ref C) (some dd) oe) (hf : ∃ vs, oe.data = .fields vs) (hl : gs.lookup f = some d) (hN : B.X.N[i]? = some n := by rfl)
    (hv : Vis B.X.env.scope n := by first | exact Or.inl rfl | exact Or.inr (Or.inl rfl) | exact Or.inr (Or.inr rfl)) (hd : (n == ("__debug__" : Str)) = false := by decide) (hc : (n == ("__classdict__" : Str)) = false := by decide)
    (hb : attributeBase (.Name n p1) f B.X.env (eval (.Name n p1) B.X.env) = eval (.Name n p1) B.X.env := by rfl) : DE B (.Attribute (.Name n p1) f pos) Γ d := de_of fun T0 σ H Q s k => by
  obtain ⟨W, g⟩ := s
  obtain ⟨v, e, rfl, fs, hdd, nw, hr⟩ := g.slot i _ h
  obtain ⟨u, hu, ru⟩ := hr.get hl
  exact SemE.of (pe_xfW T no hp hz hf (pe_var hN hv hd hc) hb) ⟨.ref a, e, rfl, fs, u, hdd, hu, k u H (g.with ru)⟩
theorem ew_callW {fA : Addr} {fd : FuncData} {ps : List Str} {sp : Addr × Obj → Sp} (G : FnW B.X.prog B.X.w B.X.K B.X.mg B.X.base B.cx k fA fd ps (fun _ => spF B.X.K F)) (hk : k ≤ B.k := by exact Nat.le_of_ble_eq_true rfl) (hp : q ∈ B.X.pn) (hm : B.X.mg n = some (.ref fA)) (hkp : PySem.W.keepIn B.X.K (.ref fA) = true) (hb : Binds B.X.K fd ps []) (h : AW B (e :: es) Γ (fun ds Γ1 => ∃ r, F ds r ∧ Bx.out R Xp Γ1 r) Xp) (hg : Gl B.X n := by rfl) (hdb : (n == ("__debug__" : Str)) = false := by decide)
    (he : starEach (e :: es) B.X.env = (false, eval e B.X.env) :: starEach es B.X.env := by rfl) (hpl : (backTo pos (starEach es B.X.env)).any (·.1) = false := by rfl) : EW B (.Call (.Name n p) (e :: es) [] pos) Γ R Xp := fun T σ H Q s q x => by
  refine SemE.of (pe_callW G (B.roomH.mono hk) hp hg hm hkp hb B.pass semA hdb he hpl) (h T σ H _ s (fun vs ds H1 Γ1 ⟨r, hF, hr⟩ hv s1 => ?_) x)
  obtain ⟨W, g⟩ := s1
  exact ⟨W, ds, r, g.dom, g.top, hF, res_ok g hr q x⟩
end
/-- the context of such a def's body -/
def bxW (P : Program) (w : World) (K : PySem.W.Frag) (mg : Str → Option Value) (base : Heap) (N : List Str) (qual : Str) (sc : Scope) (f : Addr) (cd : Value) (A : Around) (outer : List PySem.Env) (s : Shared) (H : Hp) (E : XK) (q : Addr × Obj) (k : Nat) (W : Addr → Prop)
    (room : L2H.RoomH k (A.deeper (envOfC qual sc s.heap.objs.size f cd))) (nd : N.Nodup) : Bx where
  X := L2H.cxH (L2.CX P w) P w K mg base N qual sc f cd A outer s H E q
  F := ⟨W, H, fun _ => False⟩
  Wx := fun c a _ H => E c a H
  k := k
  cx := L2.CX P w
  pass := fun σ => passAt (takes_of rfl rfl rfl rfl) σ
  rz := true
  tk := fun _ => takes_N (takes_of rfl rfl rfl rfl)
  cx0 := cx0
  hot := true
  calm := fun z => nomatch z
  hd := fun z => nomatch z
  roomH := room
  nd := nd
  po := fun _ _ => passes_of rfl
section
variable {P : Program} {w : World} {K : PySem.W.Frag} {mg : Str → Option Value} {base : Heap}
theorem fnw_intro {x qual : Str} {st : Stmt} {f : Addr} {fd : FuncData} {N ps : List Str} {k : Nat} {F : FS} (Fu : Fun K x qual st f fd) (S : FnScope N ps (defScope st)) (hlen : ∀ ds r, F ds r → ds.length = ps.length)
    (hb : ∀ (cd : Value) (A : Around) (outer : List PySem.Env) (s : Shared) (H : Hp) (E : XK) (q : Addr × Obj) (W : Addr → Prop) (room : L2H.RoomH k (A.deeper (envOfC qual (defScope st) s.heap.objs.size f cd))) (ds : List D) (r : Res), F ds r →
      SsW (bxW P w K mg base N qual (defScope st) f cd A outer s H E q k W room S.nd) (defBody st) (env0 N ds) (postF r)) : FnW P w K mg base (L2.CX P w) (k + 1) f fd ps (fun _ => spF K F) := by
  obtain ⟨oc, od, kV, doc, pm, an, cdv, ct, osl, rfl, lk, hcd⟩ := Fu.ex
  refine fnw_of lk hcd S (fun p vs H Q E h => ?_) fun A outer s H vs Q E q room h => ?_
  · obtain ⟨W, ds, r, _, hr, hF, _⟩ := h
    exact hr.length.trans (hlen ds r hF)
  · obtain ⟨W, ds, r, wd, hr, hF, hres⟩ := h
    exact ⟨_, semSs, hb cdv A outer s H E q W room ds r hF [] _ H _ (good0 wd hr (by rw [hlen ds r hF]; exact params_le S)) (real0 rfl rfl rfl hres)⟩
/-- what answers an error: of its fields -/
def spR (K : PySem.W.Frag) (C : Addr) (G : List (Str × D) → D → Prop) (p : Addr × Obj) : Sp := fun vs H Q E => ∃ (W : Addr → Prop) (dd : Addr) (fs : List (Str × V)) (gs : List (Str × D)) (r : D), vs = [.ref p.1] ∧ Zc (.ref C) (some dd) p.2 ∧ (∃ vs, p.2.data = .fields vs) ∧ (∀ a, W a → H a ≠ none) ∧ H dd = some (.xd fs) ∧ ¬ W dd ∧ RpF K W H fs gs ∧ G gs r ∧
  ∀ v H', Same H H' → Rp K W H' v r → Q v H'
theorem fnr_intro {x qual : Str} {st : Stmt} {f C : Addr} {fd : FuncData} {n : Str} {N : List Str} {k : Nat} {G : List (Str × D) → D → Prop} (Fu : Fun K x qual st f fd) (S : FnScope (n :: N) [n] (defScope st))
    (hb : ∀ (cd : Value) (A : Around) (outer : List PySem.Env) (s : Shared) (H : Hp) (E : XK) (a dd : Addr) (oe : Obj) (W : Addr → Prop) (room : L2H.RoomH k (A.deeper (envOfC qual (defScope st) s.heap.objs.size f cd))) (gs : List (Str × D)) (r : D), Zc (.ref C) (some dd) oe → (∃ vs, oe.data = .fields vs) → G gs r →
      SsW (bxW P w K mg base (n :: N) qual (defScope st) f cd A outer s H E (a, oe) k W room S.nd) (defBody st) (some (.xc a dd gs) :: List.replicate N.length none) (postF (.ret r))) : FnW P w K mg base (L2.CX P w) (k + 1) f fd [n] (spR K C G) := by
  obtain ⟨oc, od, kV, doc, pm, an, cdv, ct, osl, rfl, lk, hcd⟩ := Fu.ex
  refine fnw_of lk hcd S (fun p vs H Q E h => ?_) fun A outer s H vs Q E q room h => ?_
  · obtain ⟨W, dd, fs, gs, r, rfl, _⟩ := h
    rfl
  · obtain ⟨W, dd, fs, gs, r, rfl, hz, hf, wd, hd, nw, hr, hG, hres⟩ := h
    obtain ⟨a, oe⟩ := q
    refine ⟨_, semSs, hb cdv A outer s H E a dd oe W room gs r hz hf hG [] _ H _ ⟨W, fun i sl e => ?_, fun i j si sj e1 e2 o1 o2 ne => ?_, wd, fun _ z => z, wd, fun _ z => z.elim, fun _ _ _ e => e, fun p hp => absurd hp (by simp), ?_, fun i j I sj e1 e2 o => ?_⟩ (real0 (r := .ret r) rfl rfl rfl hres)⟩
    · cases i with
      | zero =>
        cases e
        exact ⟨.ref a, rfl, rfl, fs, hd, nw, hr⟩
      | succ j =>
        simp only [List.getElem?_cons_succ, List.getElem?_replicate] at e
        split at e <;> cases e
    · cases i with
      | zero =>
        cases e1
        exact o1.elim
      | succ j =>
        simp only [List.getElem?_cons_succ, List.getElem?_replicate] at e1
        split at e1 <;> cases e1
    · rw [start_length (by simp)]
      simp
    · cases i with
      | zero => cases e1
      | succ j =>
        simp only [List.getElem?_cons_succ, List.getElem?_replicate] at e1
        split at e1 <;> cases e1
end

/-! ## raise -/
def xdD : List Str → List D → List (Str × D) → List (Str × D)
  | n :: ns, v :: vs, acc => xdD ns vs ((n, v) :: acc)
  | _, _, acc => acc
theorem xd_rel {K : PySem.W.Frag} {W : Addr → Prop} {H : Hp} : ∀ {ns : List Str} {vs : List V} {ds : List D} {fs : List (Str × V)} {gs : List (Str × D)}, RpL K W H vs ds → RpF K W H fs gs → RpF K W H (xdOf ns vs fs) (xdD ns ds gs)
  | [], _, _, _, _, _, f => f
  | n :: ns, _, _, _, _, .nil, f => f
  | n :: ns, _, _, _, _, .cons h r, f => xd_rel (ns := ns) r (.cons h f)
/-- an error's class; .. that is raised in an except suite -/
def Xc (CX : CXT) (P : Program) (w : World) (K : PySem.W.Frag) (mg : Str → Option Value) (base : Heap) (x : Str) (C : Addr) (k : Nat) (names : List Str) : Prop :=
  ∃ (f : Addr) (fd : FuncData) (ps : List Str), FnOk P w K mg base CX k f fd ps (spX C names) ∧ OexC K C ∧ PySem.W.findIn K (.ref C) "__init__" = some (some (.ref f)) ∧ PySem.W.typeIn K (.ref f) = some (.type "function") ∧ mg x = some (.ref C) ∧ Binds K fd ps [] ∧ names.length ≤ 900
def XcH (CX : CXT) (P : Program) (w : World) (K : PySem.W.Frag) (mg : Str → Option Value) (base : Heap) (x : Str) (C : Addr) (k : Nat) (names : List Str) : Prop :=
  ∃ (f : Addr) (fd : FuncData) (ps : List Str), L2H.FnH P w K mg base CX k f fd ps (spX C names) ∧ OexC K C ∧ PySem.W.findIn K (.ref C) "__init__" = some (some (.ref f)) ∧ PySem.W.typeIn K (.ref f) = some (.type "function") ∧ mg x = some (.ref C) ∧ Binds K fd ps [] ∧ names.length ≤ 900
section
variable {B : Bx} {e : Expr} {es : List Expr} {Γ : Env} {P : Post} {d : D} {ds : List D} {pos p pos2 : Pos} {k : Nat} {n f x : Str} {C : Addr} {names : List Str}
theorem raised_ok {T : List Tm} {σ : L2.St} {H1 : Hp} {Γ1 : Env} {vs : List V} {Xp : XP} (r : B.Ex σ T Xp) (s : B.St H1 σ Γ1 (.l vs ds :: T)) (hl : ds.length = names.length) (h : Xp C (xdD names ds []) Γ1) : vs.length = names.length ∧ ∀ d, H1 d = none → B.Wx (.ref C) (some d) σ (upd H1 d (.xd (xdOf names vs []))) := by
  obtain ⟨W, g⟩ := s
  have gl : RpL B.X.K W H1 vs ds := g.top
  refine ⟨gl.length.trans hl, fun d hd => r C _ d _ Γ1 h ?_⟩
  exact ((g.grow (same_new (o := .xd (xdOf names vs [])) hd)).tl).with ⟨_, upd_same, fun z => g.dom d z hd, xd_rel (RpL.keep (Kp.same (same_new hd)) gl) .nil⟩
theorem sw_raise (G : Xc B.cx B.X.prog B.X.w B.X.K B.X.mg B.X.base x C k names) (hk : k + 1 ≤ B.k := by exact Nat.le_of_ble_eq_true rfl) (h : AW B (e :: es) Γ (fun ds Γ1 => ds.length = names.length ∧ P.ex C (xdD names ds []) Γ1) P.ex) (hh : B.hot = false := by rfl) (hz : B.rz = true := by rfl) (hg : Gl B.X x := by rfl) (hdb : (x == ("__debug__" : Str)) = false := by decide)
    (he : starEach (e :: es) B.X.env = (false, eval e B.X.env) :: starEach es B.X.env := by rfl) (hpl : (backTo pos (starEach es B.X.env)).any (·.1) = false := by rfl) : SW B (.Raise (some (.Call (.Name x p) (e :: es) [] pos)) none pos2) Γ P := fun T σ H D s r => by
  obtain ⟨fI, fd, ps, ok, T1, iC, tI, hm, hb, hn⟩ := G
  refine SemS.of (L2N.ps_raise (B.calm hh) (B.tk hz) (pmk_N T1 iC tI ok ((B.room hh).mono hk) hb B.pass0 hg hm hn semA hdb he hpl)) (h T σ H _ s (fun vs ds H1 Γ1 ⟨hl, q⟩ hv s1 => ?_) (r.ex σ))
  exact raised_ok (r.ex σ) s1 hl q
end
end Sd

set_option exponentiation.threshold 256
set_option Elab.async false
set_option linter.all false
set_option maxRecDepth 100000
set_option maxHeartbeats 4000000
namespace Sd
open PySem PySem.Spec PyProof.Rows L2
/-! ## try -/
/-- the context of a try's body: .. whose errors have no context -/
def Bx.tr (B : Bx) (pn : List (Addr × Obj)) (xe : Value → Shared → Prop) (W : WX) (tk : L2.Takes (B.X.tr pn xe) W) (po : PassesOwn (model B.X.prog B.X.w) B.X.A B.X.env xe) : Bx where
  X := B.X.tr pn xe
  F := B.F
  Wx := W
  k := B.k
  cx := L2.CX B.X.prog B.X.w
  pass := fun σ => passAt tk σ
  cx0 := Sd.cx0
  hot := B.hot
  calm := B.calm
  hd := B.hd
  roomH := B.roomH
  nd := B.nd
  po := fun _ _ => po
  rz := true
  tk := fun _ => takes_N tk
def Bx.trN (B : Bx) (pn : List (Addr × Obj)) (xe : Value → Shared → Prop) (W : WX) (tk : L2N.Takes (B.X.tr pn xe) W) (po : PassesOwn (model B.X.prog B.X.w) B.X.A B.X.env xe) : Bx where
  X := B.X.tr pn xe
  F := B.F
  Wx := W
  k := B.k
  cx := L2N.CX B.X.prog B.X.w
  pass := fun σ => L2N.passAt tk σ
  cx0 := cxN0
  hot := B.hot
  calm := B.calm
  hd := B.hd
  roomH := B.roomH
  nd := B.nd
  po := fun _ _ => po
  rz := true
  tk := fun _ => tk
theorem ps_imp {X : Cx} {st : List Stmt} {t t' : TS} (h : PSs X st t) (k : ∀ D σ H, t' D σ H → t D σ H) : PSs X st t' := ⟨fun pins s σ H D I q => h.run pins s σ H D I (k _ _ _ q)⟩
/-- the slots while the error stands in slot i -/
theorem xc_slot {K : PySem.W.Frag} {F : Frame} {H : Hp} {σ : L2.St} {Γ : Env} {T : List Tm} {i : Nat} {a dd : Addr} {gs : List (Str × D)} (s : Sta K F H σ Γ (.x dd gs :: T)) : Sta K F H (σ.set i (some (.ref a))) (Γ.set i (some (.xc a dd gs))) T := by
  obtain ⟨W, g⟩ := s
  refine ⟨W, fun j t e => ?_, fun j l sj sl e1 e2 o1 o2 ne => ?_, g.dom, g.sub, g.dom0, g.rsub, g.keep, fun p hp => g.tmp p (List.mem_cons_of_mem _ hp), by rw [List.length_set, List.length_set]; exact g.len, only_set g.only (fun o => o) (fun I z => nomatch z)⟩
  · by_cases hj : i = j
    · subst hj
      have hl : i < Γ.length := by
        have z := (List.getElem?_eq_some_iff.mp e).1
        rwa [List.length_set] at z
      rw [List.getElem?_set_self hl] at e
      cases e
      obtain ⟨fs, h1, h2, h3⟩ := g.top
      exact ⟨.ref a, List.getElem?_set_self (by rw [← g.len]; exact hl), rfl, fs, h1, h2, h3⟩
    · rw [List.getElem?_set_ne hj] at e ⊢
      exact g.slot j t e
  · have away : ∀ (j : Nat) (sj : Sl), (Γ.set i (some (Sl.xc a dd gs)))[j]? = some (some sj) → sj.own → i ≠ j := fun j sj e1 o1 z => by
      subst z
      have hl : i < Γ.length := by
        have z := (List.getElem?_eq_some_iff.mp e1).1
        rwa [List.length_set] at z
      rw [List.getElem?_set_self hl] at e1
      cases e1
      exact o1
    have n1 := away j sj e1 o1
    have n2 := away l sl e2 o2
    rw [List.getElem?_set_ne n1] at e1 ⊢
    rw [List.getElem?_set_ne n2] at e2 ⊢
    exact g.sep j l sj sl e1 e2 o1 o2 ne
section
variable {B : Bx} {body : List Stmt} {Γ : Env} {P : Post} {d : D} {ds : List D} {x n y : Str} {C Cy : Addr} {np pos pos' pc pg pe pr p2 p3 cpos : Pos} {k j : Nat}
/-- except C as n: return g(n) -/
theorem sw_try_ret {g : Str} {fA : Addr} {fd : FuncData} {ps : List Str} {G : List (Str × D) → D → Prop} (i : Nat) (F : FnW B.X.prog B.X.w B.X.K B.X.mg B.X.base (L2.CX B.X.prog B.X.w) k fA fd ps (spR B.X.K C G)) (hk : k ≤ B.k := by exact Nat.le_of_ble_eq_true rfl) (hm : B.X.mg g = some (.ref fA)) (hkp : PySem.W.keepIn B.X.K (.ref fA) = true) (hbd : Binds B.X.K fd ps [])
    (hcc : PySem.W.exmOne B.X.K (.ref C) (.ref C) = some true) (hx : B.X.mg x = some (.ref C))
    (hb : ∀ pn xe W tk po, SsW (B.tr pn xe W tk po) body Γ { P with ex := fun C' gs Γ' => C' = C ∧ i < Γ'.length ∧ ∃ r, G gs r ∧ P.rt r Γ' })
    (hs : B.X.stack = B.X.env :: B.X.outer := by rfl) (hf : B.X.env.frame = some B.X.env.locals := by rfl) (hi : B.X.N[i]? = some n := by rfl) (hln : B.X.env.kindOf n = some .local := by rfl) (hgx : Gl B.X x := by rfl) (hdx : (x == ("__debug__" : Str)) = false := by decide) (hg : Gl B.X g := by rfl) (hdg : (g == ("__debug__" : Str)) = false := by decide)
    (hv : Vis B.X.env.scope n := by first | exact Or.inl rfl | exact Or.inr (Or.inl rfl) | exact Or.inr (Or.inr rfl)) (hd : (n == ("__debug__" : Str)) = false := by decide) (hc : (n == ("__classdict__" : Str)) = false := by decide)
    (he : starEach [.Name n pe] B.X.env = (false, eval (.Name n pe) B.X.env) :: starEach [] B.X.env := by rfl) (hpl : (backTo pc (starEach [] B.X.env)).any (·.1) = false := by rfl) (hnx : ∀ Γ, ¬ P.nx Γ) (hbk : ∀ Γ, ¬ P.bk Γ) (hct : ∀ Γ, ¬ P.ct Γ) :
    SW B (.Try body [.ExceptHandler (some (.Name x np)) (some n) [.Return (some (.Call (.Name g pg) [.Name n pe] [] pc)) pr] pos'] [] [] pos) Γ P := fun T σ H D s r => by
  refine SemS.of (ps_try_as (i := i) (tb := fun W => fun D' σ' H' => ∀ pn xe tk po, SsW (B.tr pn xe W tk po) body Γ { P with ex := fun C' gs Γ' => C' = C ∧ i < Γ'.length ∧ ∃ r, G gs r ∧ P.rt r Γ' } → SemSs (B.X.tr pn xe) body D' σ' H')
    (ts := fun a cls d => fun D' σ' H' => cls = .ref C ∧ ∃ dd, d = some dd ∧ σ'[i]? = some (some (.ref a)) ∧ ∃ W fs gs r, (∀ b, W b → H' b ≠ none) ∧ H' dd = some (.xd fs) ∧ ¬ W dd ∧ RpF B.X.K W H' fs gs ∧ G gs r ∧ ∀ v H2, Same H' H2 → Rp B.X.K W H2 v r → D'.rt v H2)
    (Wout := fun _ _ _ _ => False) hs hf B.nd hi hln ⟨hgx, hdx, .inl hx⟩ takes0 (fun W pn xe tk po => ⟨fun pins s0 σ0 H0 D0 I h => h pn xe tk po (hb pn xe W tk po) pins s0 I⟩) (fun a oe cls d pn hz hf' => ?_)) ?_
  · refine ps_imp (pss_one (ps_ret (pe_callW (X := B.X.suite a ((a, oe) :: pn)) (q := (a, oe)) (E := WE fun _ _ _ _ => False) F (B.roomH.mono hk |> fun z => ⟨z.dp, z.un⟩) List.mem_cons_self hg hm hkp hbd (fun σ => passAt takes0 σ) (pa_cons (pe_var (X := B.X.suite a ((a, oe) :: pn)) hi hv hd hc) pa_nil he) hdg he hpl))) ?_
    rintro D' σ' H' ⟨rfl, dd, rfl, hσ, W, fs, gs, r', wd, hdd, nw, hr, hG, q⟩
    exact ⟨.ref a, hσ, W, dd, fs, gs, r', rfl, hz, hf', wd, hdd, nw, hr, hG, q⟩
  · intro pn xe tk po h
    refine h T σ H _ s ⟨fun σ' H' Γ' z => (hnx _ z).elim, r.rt, fun σ' C' gs a H' Γ' ⟨e1, il, r', hG, hrt⟩ s' => ?_, fun σ' H' Γ' z => (hbk _ z).elim, fun σ' H' Γ' z => (hct _ z).elim⟩
    subst e1
    refine ⟨true, hcc, fun _ a0 ha0 => ⟨rfl, a, rfl, ?_, ?_⟩, fun z => nomatch z⟩
    · obtain ⟨W, g⟩ := id s'
      exact List.getElem?_set_self (by rw [← g.len]; exact il)
    · obtain ⟨W, g⟩ := s'
      obtain ⟨fs, h1, h2, h3⟩ := g.top
      exact ⟨W, fs, gs, r', g.dom, h1, h2, h3, hG, fun v H2 same hv => r.rt v r' σ' H2 Γ' hrt ((g.tl.grow same).with hv)⟩
/-- the context of an except suite that raises -/
def Bx.hotS (B : Bx) (a : Addr) (oe : Obj) (pn : List (Addr × Obj)) (xe : Value → Shared → Prop) (E : XK) (tk : L2.Takes { B.X with A := B.X.A.mark (some (.ref a)), calm := false, pn := (a, oe) :: pn, xe := xe } (fun cls d _ H => E cls d H)) (F : Frame) : Bx where
  X := { B.X with A := B.X.A.mark (some (.ref a)), calm := false, pn := (a, oe) :: pn, xe := xe }
  F := F
  Wx := fun cls d _ H => E cls d H
  k := B.k
  cx := L2.CX B.X.prog B.X.w
  pass := fun σ => passAt tk σ
  cx0 := Sd.cx0
  hot := true
  calm := fun z => nomatch z
  hd := fun z => nomatch z
  roomH := ⟨B.roomH.dp, B.roomH.un⟩
  nd := B.nd
  po := fun z => nomatch z
  rz := true
  tk := fun _ => takes_N tk
/-- except C as n: raise y(..) from None -/
theorem sw_try_from {E : XK} {E1 : Value → Shared → Prop} {e : Expr} {es : List Expr} {names : List Str} (i : Nat) (G : XcH (L2.CX B.X.prog B.X.w) B.X.prog B.X.w B.X.K B.X.mg B.X.base y Cy k names) (hk : k + 1 ≤ B.k := by exact Nat.le_of_ble_eq_true rfl) (hcc : PySem.W.exmOne B.X.K (.ref C) (.ref C) = some true) (hx : B.X.mg x = some (.ref C))
    (hb : ∀ pn xe W tk po, SsW (B.trN pn xe W tk po) body Γ (P.exs fun C' gs Γ' => C' = C ∧ i < Γ'.length ∧ ∀ a dd oe pn xe tk F, Zc (.ref C) (some dd) oe → (∃ vs, oe.data = .fields vs) → AW (B.hotS a oe pn xe E tk F) (e :: es) (Γ'.set i (some (.xc a dd gs))) (fun ds Γ1 => ds.length = names.length ∧ P.ex Cy (xdD names ds []) Γ1) noX))
    (hW : B.Wx = fun cls d _ H => E cls d H := by rfl) (hxe : B.X.xe = fun e s' => wpAny (model B.X.prog B.X.w) B.X.A (leaving B.X.env e) (fun _ s'' => L2.CX B.X.prog B.X.w B.X.outer B.X.H_0 B.X.s_0 E e s'') E1 s' := by rfl) (hex : B.X.ex = [] := by rfl)
    (hs : B.X.stack = B.X.env :: B.X.outer := by rfl) (hf : B.X.env.frame = some B.X.env.locals := by rfl) (hi : B.X.N[i]? = some n := by rfl) (hln : B.X.env.kindOf n = some .local := by rfl) (hgx : Gl B.X x := by rfl) (hdx : (x == ("__debug__" : Str)) = false := by decide) (hg : Gl B.X y := by rfl) (hdg : (y == ("__debug__" : Str)) = false := by decide)
    (he : starEach (e :: es) B.X.env = (false, eval e B.X.env) :: starEach es B.X.env := by rfl) (hpl : (backTo pc (starEach es B.X.env)).any (·.1) = false := by rfl) :
    SW B (.Try body [.ExceptHandler (some (.Name x np)) (some n) [.Raise (some (.Call (.Name y pg) (e :: es) [] pc)) (some (.Constant .none j cpos)) pr] pos'] [] [] pos) Γ P := fun T σ H D s r => by
  obtain ⟨fI, fd, ps, ok, T1, iC, tI, hm, hbd, hn⟩ := G
  refine SemS.of (ps_try_from (E := E) (i := i) (tb := fun W => fun D' σ' H' => ∀ pn xe tk po, (∀ Xp, SsW (B.trN pn xe W tk po) body Γ { P with ex := Xp } → SsW (B.trN pn xe W tk po) body Γ { P with ex := Xp }) → SemSs (B.X.tr pn xe) body D' σ' H')
    (ts := fun a d σ' H' => ∃ dd, d = some dd ∧ ∀ oe pn xe, Zc (.ref C) (some dd) oe → (∃ vs, oe.data = .fields vs) → L2.Takes { B.X with A := B.X.A.mark (some (.ref a)), calm := false, pn := (a, oe) :: pn, xe := xe } (fun cls d _ H => E cls d H) →
      tMk Cy names (SemA { B.X with A := B.X.A.mark (some (.ref a)), calm := false, pn := (a, oe) :: pn, xe := xe } (e :: es)) σ' H' fun cls d H2 => E cls d H2)
    hs hf hex B.nd hi hln ⟨hgx, hdx, .inl hx⟩ hxe hcc (fun W pn xe tk po => ⟨fun pins s0 σ0 H0 D0 I h => h pn xe tk po (fun _ z => z) pins s0 I⟩) (fun a oe d pn xe hz hf' tk hot => ?_)) ?_
  · refine ps_imp (pss_one (L2H.ps_raiseHN hot tk (pmk_H T1 iC tI ok (L2H.RoomH.mono ⟨B.roomH.dp, B.roomH.un⟩ hk) hot hbd (fun _ _ _ _ _ _ _ h => absurd h (Sd.cx0 _ _ _ _ _)) hg hm hn hdg he hpl))) ?_
    rintro D' σ' H' ⟨dd, rfl, q⟩
    exact q oe pn xe hz.zc hf' tk
  · intro pn xe tk po _
    refine hb pn xe _ tk po T σ H _ s ⟨r.nx, r.rt, fun σ' C' gs a H' Γ' ⟨e1, il, h⟩ s' => ?_, r.bk, r.ct⟩
    subst e1
    refine ⟨rfl, fun a0 ha0 => ⟨a, rfl, fun oe pn2 xe2 hz hf2 tk2 => ?_⟩⟩
    obtain ⟨W, g⟩ := id s'
    refine h a0 a oe pn2 xe2 tk2 B.F hz hf2 T _ H' _ (xc_slot s') (fun vs ds H1 Γ1 ⟨hl, q⟩ hv s1 => ?_) .no
    have rx : (B.hotS a0 oe pn2 xe2 E tk2 B.F).Ex (σ'.set i (some (.ref a0))) T P.ex := fun C2 gs2 b H2 Γ2 z s2 => by
      have w := r.ex (σ'.set i (some (.ref a0))) C2 gs2 b H2 Γ2 z s2
      rw [hW] at w
      exact w
    exact raised_ok (B := B.hotS a0 oe pn2 xe2 E tk2 B.F) rx s1 hl q
end
end Sd

set_option exponentiation.threshold 256
set_option Elab.async false
set_option linter.all false
set_option maxRecDepth 100000
set_option maxHeartbeats 4000000
namespace Sd
open PySem PySem.Spec PyProof.Rows L2
/-! ## dicts -/
def keyD : Key → D
  | .inl i => .int i
  | .inr x => .str x
def valD (kvs : List (Key × D)) (k : Key) : Option D := (kvs.find? fun kv => decide (kv.1 = k)).map (·.2)
def putKD (kvs : List (Key × D)) (k : Key) (v : D) : List (Key × D) := if (kvs.any fun kv => decide (kv.1 = k)) = true then kvs.map (fun kv => if kv.1 = k then (kv.1, v) else kv) else kvs ++ [(k, v)]
def mergeKD (kvs more : List (Key × D)) : List (Key × D) := more.foldl (fun acc kv => putKD acc kv.1 kv.2) kvs
section
variable {K : PySem.W.Frag} {W : Addr → Prop} {H : Hp}
theorem rpKey {k : Key} : Rp K W H (kV k) (keyD k) := by cases k with
  | inl i => exact .int i
  | inr x => exact .str x
theorem rpKey' {v : V} {k : Key} (h : Rp K W H v (keyD k)) : v = kV k := by cases k with
  | inl i => exact rpInt h
  | inr x => exact rpStr h
theorem RpK.get {k : Key} : ∀ {vs : List (Key × V)} {ds : List (Key × D)}, RpK K W H vs ds → (∀ d, valD ds k = some d → ∃ v, valV vs k = some v ∧ Rp K W H v d) ∧ (valD ds k = none → valV vs k = none)
  | [], [], _ => ⟨fun d h => by simp [valD] at h, fun _ => rfl⟩
  | (f, v) :: vs, (_, d) :: ds, .cons h r => by
    by_cases e : f = k
    · refine ⟨fun d' h' => ⟨v, valV_pos e, ?_⟩, fun h' => ?_⟩
      · have : valD ((f, d) :: ds) k = some d := by simp [valD, List.find?_cons, e]
        rw [this] at h'
        cases h'
        exact h
      · have : valD ((f, d) :: ds) k = some d := by simp [valD, List.find?_cons, e]
        rw [this] at h'
        cases h'
    · have e1 : valD ((f, d) :: ds) k = valD ds k := by simp [valD, List.find?_cons, e]
      have e2 : valV ((f, v) :: vs) k = valV vs k := valV_neg e
      rw [e1, e2]
      exact RpK.get r
theorem RpK.any {k : Key} : ∀ {vs : List (Key × V)} {ds : List (Key × D)}, RpK K W H vs ds → (vs.any fun kv => decide (kv.1 = k)) = ds.any fun kv => decide (kv.1 = k)
  | _, _, .nil => rfl
  | _, _, .cons h r => by rw [List.any_cons, List.any_cons, RpK.any r]
theorem RpK.mapK {k : Key} {v : V} {d : D} (hv : Rp K W H v d) : ∀ {vs : List (Key × V)} {ds : List (Key × D)}, RpK K W H vs ds → RpK K W H (vs.map fun kv => if kv.1 = k then (kv.1, v) else kv) (ds.map fun kv => if kv.1 = k then (kv.1, d) else kv)
  | _, _, .nil => .nil
  | (f, x) :: vs, (_, y) :: ds, .cons h r => by
    rw [List.map_cons, List.map_cons]
    by_cases e : f = k
    · rw [if_pos e, if_pos e]
      exact .cons hv (RpK.mapK hv r)
    · rw [if_neg e, if_neg e]
      exact .cons h (RpK.mapK hv r)
theorem RpK.app {k : Key} {v : V} {d : D} (hv : Rp K W H v d) : ∀ {vs : List (Key × V)} {ds : List (Key × D)}, RpK K W H vs ds → RpK K W H (vs ++ [(k, v)]) (ds ++ [(k, d)])
  | _, _, .nil => .cons hv .nil
  | _, _, .cons h r => .cons h (RpK.app hv r)
theorem RpK.put {k : Key} {v : V} {d : D} (hv : Rp K W H v d) {vs : List (Key × V)} {ds : List (Key × D)} (r : RpK K W H vs ds) : RpK K W H (putK vs k v) (putKD ds k d) := by
  unfold putK putKD
  rw [r.any]
  split
  · exact r.mapK hv
  · exact r.app hv
theorem RpK.merge : ∀ {ms : List (Key × V)} {ns : List (Key × D)} {vs : List (Key × V)} {ds : List (Key × D)}, RpK K W H ms ns → RpK K W H vs ds → RpK K W H (mergeK vs ms) (mergeKD ds ns)
  | _, _, _, _, .nil, r => r
  | (f, v) :: ms, (_, d) :: ns, vs, ds, .cons h m, r => (RpK.merge m (RpK.put h r) : RpK K W H (mergeK (putK vs f v) ms) (mergeKD (putKD ds f d) ns))
end
section
variable {B : Bx} {o e f : Expr} {Γ : Env} {x d : D} {kvs : List (Key × D)} {k : Key} {apos pos : Pos}
theorem pairs_of {K : PySem.W.Frag} {W : Addr → Prop} {H : Hp} : ∀ {kvs : List (Key × D)} {vs : List V}, RpL K W H vs (kvs.map fun kv => .tup [keyD kv.1, kv.2]) → ∃ (ps : List Addr) (ms : List (Key × V)), vs = ps.map V.ref ∧ Paired (fun p kv => SqT K H p [kV kv.1, kv.2]) ps ms ∧ RpK K W H ms kvs
  | [], _, h => by
    cases rplNil h
    exact ⟨[], [], rfl, .nil, .nil⟩
  | (k, d) :: kvs, _, h => by
    cases h with
    | cons h r =>
      obtain ⟨ps, ms, rfl, hp, hk⟩ := pairs_of (kvs := kvs) r
      obtain ⟨a, xs, rfl, hs, hx⟩ := rpTup h
      obtain ⟨u, w, rfl, hu, hw⟩ := rplTwo hx
      cases rpKey' hu
      exact ⟨a :: ps, (k, w) :: ms, rfl, .cons hs hp, .cons hw hk⟩
theorem cd_dict (hh : B.hot = false := by rfl) : CD B (.type "dict") [.lst (kvs.map fun kv => .tup [keyD kv.1, kv.2])] (.dic (mergeKD [] kvs)) := cd_of fun T σ Γ W vs H Q g q => by
  obtain ⟨u, rfl, hu⟩ := rplOne g.top
  obtain ⟨l, xs, rfl, hs, _, _, hr⟩ := rpLst hu
  obtain ⟨ps, ms, rfl, hp, hk⟩ := pairs_of hr
  refine SemC.of (call_dictP (B.calm hh)) ⟨l, ps, ms, rfl, hs, hp, fun p hn => q _ _ ?_⟩
  exact (g.grow (same_new hn)).tl.with (.dic upd_same (fun z => g.dom p z hn) (RpK.keep (Kp.same (same_new hn)) (RpK.merge hk .nil)))
theorem de_get2 (ho : DE B o Γ (.dic kvs)) (he : DE B e Γ (keyD k)) (hf : DE B f Γ d) (m : M2 B.X o "get" apos e f pos := by exact ⟨rfl, rfl, rfl, rfl⟩) : DE B (.Call (.Attribute o "get" apos) [e, f] [] pos) Γ ((valD kvs k).getD d) := de_of fun T σ H Q s q =>
  SemE.of (pe_dget2 (by have := B.un64; omega) semE semE semE m) (ho.run s fun v H1 s1 => by
    obtain ⟨W1, g1⟩ := id s1
    obtain ⟨a, ks, rfl, ha⟩ : ∃ a ks, v = .ref a ∧ H1 a = some (.dK ks) := by
      have h : Rp _ _ _ v (.dic kvs) := g1.top
      cases h with
      | dic h n r => exact ⟨_, _, rfl, h⟩
    refine ⟨a, rfl, .inl ⟨ks, .inl ha⟩, he.run s1 fun w H2 s2 => hf.run s2 fun z H3 s3 => ?_⟩
    obtain ⟨W, g⟩ := s3
    have h1 : Rp _ _ _ (.ref a) (.dic kvs) := g.tmp _ (List.mem_cons_of_mem _ (List.mem_cons_of_mem _ List.mem_cons_self))
    have h2 := rpKey' (show Rp _ _ _ w (keyD k) from g.snd)
    subst h2
    cases h1 with
    | dic ha3 n r =>
      refine ⟨_, .inl ⟨_, k, .inl ha3, rfl, rfl⟩, ?_⟩
      obtain ⟨r1, r2⟩ := RpK.get (k := k) r
      cases e : valD kvs k with
      | none =>
        rw [r2 e]
        rw [e] at q
        exact q _ H3 (g.tl.tl.tl.with (p := .v _ _) g.top)
      | some d' =>
        obtain ⟨v', e', hv⟩ := r1 d' e
        rw [e']
        rw [e] at q
        exact q _ H3 (g.tl.tl.tl.with (p := .v _ _) hv))
end
end Sd

set_option exponentiation.threshold 256
set_option Elab.async false
set_option linter.all false
set_option maxRecDepth 100000
set_option maxHeartbeats 4000000
namespace Sd
open PySem PySem.Spec PyProof.Rows L2
/-! ## Comprehensions over what stands for plain data -/
open Classical in
/-- g, read off what stands for its arguments -/
noncomputable def offD {α : Type} (xs : List α) (e : α → D) (g : α → D) (d : D) : D := if h : ∃ x, x ∈ xs ∧ e x = d then g (Classical.choose h) else .non
open Classical in
noncomputable def offB {α : Type} (xs : List α) (e : α → D) (c : α → Bool) (d : D) : Bool := if h : ∃ x, x ∈ xs ∧ e x = d then c (Classical.choose h) else false
section
variable {α : Type} {xs : List α} {e : α → D} {g : α → D} {c : α → Bool}
theorem offD_at (inj : ∀ x y, e x = e y → x = y) {x : α} (h : x ∈ xs) : offD xs e g (e x) = g x := by
  unfold offD
  have z : ∃ y, y ∈ xs ∧ e y = e x := ⟨x, h, rfl⟩
  rw [dif_pos z, inj _ _ (Classical.choose_spec z).2]
theorem offB_at (inj : ∀ x y, e x = e y → x = y) {x : α} (h : x ∈ xs) : offB xs e c (e x) = c x := by
  unfold offB
  have z : ∃ y, y ∈ xs ∧ e y = e x := ⟨x, h, rfl⟩
  rw [dif_pos z, inj _ _ (Classical.choose_spec z).2]
theorem resD_off (inj : ∀ x y, e x = e y → x = y) : resD (offB xs e c) (offD xs e g) (xs.map e) = (xs.filter c).map g := by
  unfold resD
  have h1 : ∀ ys : List α, (∀ y ∈ ys, y ∈ xs) → ((ys.map e).filter (offB xs e c)).map (offD xs e g) = (ys.filter c).map g := fun ys => by
    induction ys with
    | nil => intro _; rfl
    | cons y ys ih =>
      intro h
      have hy := h y List.mem_cons_self
      have r := ih fun z hz => h z (List.mem_cons_of_mem _ hz)
      rw [List.map_cons, List.filter_cons, List.filter_cons, offB_at inj hy]
      cases c y with
      | true =>
        rw [if_pos rfl, if_pos rfl, List.map_cons, List.map_cons, offD_at inj hy, r]
      | false =>
        rw [if_neg Bool.false_ne_true, if_neg Bool.false_ne_true, r]
  exact h1 xs fun _ h => h
theorem filter_true (xs : List α) : xs.filter (fun _ => true) = xs := List.filter_eq_self.mpr fun _ _ => rfl
variable {B : Bx} {tg it elt : Expr} {ifs : List Expr} {scope : Scope} {own : List (Str × Nat)} {Γ : Env} {pos : Pos} {is vs : List Nat} {es : D → List D}
/-- [elt for tg in it if cond] -/
theorem de_compE (is vs : List Nat) (es : α → List D) (e : α → D) (inj : ∀ x y, e x = e y → x = y) (c : α → Bool) (g : α → D) (hs : SD B tg it Γ (xs.map e)) (ok : blkC B.X.N B.X.env.scope scope own = true) (hl : xs.length < 1000000)
    (ht : ∀ F s H cl C fp, ∀ x ∈ xs, TgN (B.blk F s H scope cl C fp) tg (e x) is (es x))
    (hc : ∀ F s H cl C fp, ∀ x ∈ xs, TsD (B.blk F s H scope cl C fp) ifs (setE (blkE Γ vs) is (es x)) (c x))
    (he : ∀ F s H cl C fp, ∀ x ∈ xs, c x = true → DE (B.blk F s H scope cl C fp) elt (setE (blkE Γ vs) is (es x)) (g x)) (hv : own.map (·.2) = vs := by rfl) (hi : ∀ i ∈ is, i ∈ vs := by decide) (hf : ∀ x, foldedSetIterable it B.X.env x = pure x := by intro _; rfl) (hh : B.hot = false := by rfl) :
    DE B (.ListComp elt [⟨tg, it, ifs, 0⟩] scope pos) Γ (.lst ((xs.filter c).map g)) := by
  have back : ∀ d ∈ xs.map e, ∃ x, x ∈ xs ∧ d = e x := fun d hd => let ⟨x, h, q⟩ := List.mem_map.mp hd; ⟨x, h, q.symm⟩
  have esD : ∃ es' : D → List D, ∀ x ∈ xs, es' (e x) = es x := by
    refine ⟨open Classical in fun d => if h : ∃ x, x ∈ xs ∧ e x = d then es (Classical.choose h) else [], fun x hx => ?_⟩
    have z : ∃ y, y ∈ xs ∧ e y = e x := ⟨x, hx, rfl⟩
    dsimp only
    rw [dif_pos z, inj _ _ (Classical.choose_spec z).2]
  obtain ⟨es', hes⟩ := esD
  rw [← resD_off (g := g) (c := c) inj]
  refine de_comp is vs es' (offB xs e c) (offD xs e g) hs ok (by rw [List.length_map]; exact hl) (fun F s H cl C fp d hd => ?_) (fun F s H cl C fp d hd => ?_) (fun F s H cl C fp d hd hcd => ?_) hv hi hf hh
  · obtain ⟨x, hx, rfl⟩ := back d hd
    rw [hes x hx]
    exact ht F s H cl C fp x hx
  · obtain ⟨x, hx, rfl⟩ := back d hd
    rw [hes x hx, offB_at inj hx]
    exact hc F s H cl C fp x hx
  · obtain ⟨x, hx, rfl⟩ := back d hd
    rw [offB_at inj hx] at hcd
    rw [hes x hx, offD_at inj hx]
    exact he F s H cl C fp x hx hcd
/-- [elt for x in it] -/
theorem de_mapE {y : Str} {py : Pos} (v : Nat) (e : α → D) (inj : ∀ x y, e x = e y → x = y) (g : α → D) (hs : SD B (.Name y py) it Γ (xs.map e)) (ok : blkC B.X.N B.X.env.scope scope own = true) (hl : xs.length < 1000000)
    (hx : ∀ (F : Frame) s H cl C fp, Loc (B.blk F s H scope cl C fp).X.env.scope y := by intros; first | exact Or.inl rfl | exact Or.inr rfl) (hfn : ∀ (F : Frame) s H cl C fp, (B.blk F s H scope cl C fp).X.env.scope.names.lookup y = some .local := by intros; rfl)
    (he : ∀ F s H cl C fp, ∀ x ∈ xs, DE (B.blk F s H scope cl C fp) elt ((blkE Γ [v]).set v (some (.im (e x)))) (g x)) (hv : own.map (·.2) = [v] := by rfl) (hy : B.X.N[v]? = some y := by rfl) (hf : ∀ x, foldedSetIterable it B.X.env x = pure x := by intro _; rfl) (hh : B.hot = false := by rfl) :
    DE B (.ListComp elt [⟨.Name y py, it, [], 0⟩] scope pos) Γ (.lst (xs.map g)) := by
  have r := de_compE (B := B) (ifs := []) (own := own) (elt := elt) (pos := pos) [v] [v] (fun x => [e x]) e inj (fun _ => true) g hs ok hl (fun F s H cl C fp x _ => tg_name v hy (hx F s H cl C fp) (.inr (hfn F s H cl C fp))) (fun F s H cl C fp x _ => ts_nil) (fun F s H cl C fp x hx' _ => he F s H cl C fp x hx') hv (by simp) hf hh
  rw [filter_true] at r
  exact r
/-- y = [elt for tg in it if cond] -/
theorem sw_compE {P : Post} {y : Str} {py spos : Pos} (i : Nat) (is vs : List Nat) (es : α → List D) (e : α → D) (inj : ∀ x y, e x = e y → x = y) (c : α → Bool) (g : α → D) (hs : SD B tg it Γ (xs.map e)) (ok : blkC B.X.N B.X.env.scope scope own = true) (hl : xs.length < 1000000)
    (ht : ∀ F s H cl C fp, ∀ x ∈ xs, TgN (B.blk F s H scope cl C fp) tg (e x) is (es x))
    (hc : ∀ F s H cl C fp, ∀ x ∈ xs, TsD (B.blk F s H scope cl C fp) ifs (setE (blkE Γ vs) is (es x)) (c x))
    (he : ∀ F s H cl C fp, ∀ x ∈ xs, c x = true → DE (B.blk F s H scope cl C fp) elt (setE (blkE Γ vs) is (es x)) (g x)) (k : P.nx (Γ.set i (some (.im (.lst ((xs.filter c).map g))))))
    (hsw : swapsWith (.ListComp elt [⟨tg, it, ifs, 0⟩] scope pos) (some (.Name y py)) spos.line B.X.env = pure true := by exact sw_true rfl rfl rfl (by decide +kernel)) (hv : own.map (·.2) = vs := by rfl) (hi : ∀ i ∈ is, i ∈ vs := by decide) (hy : B.X.N[i]? = some y := by rfl) (hyl : B.X.env.scope.names.lookup y = some .local := by rfl)
    (hf : ∀ x, foldedSetIterable it B.X.env x = pure x := by intro _; rfl) (hh : B.hot = false := by rfl) : SW B (.Assign [.Name y py] (.ListComp elt [⟨tg, it, ifs, 0⟩] scope pos) spos) Γ P := by
  have back : ∀ d ∈ xs.map e, ∃ x, x ∈ xs ∧ d = e x := fun d hd => let ⟨x, h, q⟩ := List.mem_map.mp hd; ⟨x, h, q.symm⟩
  have esD : ∃ es' : D → List D, ∀ x ∈ xs, es' (e x) = es x := by
    refine ⟨open Classical in fun d => if h : ∃ x, x ∈ xs ∧ e x = d then es (Classical.choose h) else [], fun x hx => ?_⟩
    have z : ∃ y, y ∈ xs ∧ e y = e x := ⟨x, hx, rfl⟩
    dsimp only
    rw [dif_pos z, inj _ _ (Classical.choose_spec z).2]
  obtain ⟨es', hes⟩ := esD
  rw [← resD_off (g := g) (c := c) inj] at k
  refine sw_setLc i is vs es' (offB xs e c) (offD xs e g) hs ok (by rw [List.length_map]; exact hl) (fun F s H cl C fp d hd => ?_) (fun F s H cl C fp d hd => ?_) (fun F s H cl C fp d hd hcd => ?_) k hsw hv hi hy hyl hf hh
  · obtain ⟨x, hx, rfl⟩ := back d hd
    rw [hes x hx]
    exact ht F s H cl C fp x hx
  · obtain ⟨x, hx, rfl⟩ := back d hd
    rw [hes x hx, offB_at inj hx]
    exact hc F s H cl C fp x hx
  · obtain ⟨x, hx, rfl⟩ := back d hd
    rw [offB_at inj hx] at hcd
    rw [hes x hx, offD_at inj hx]
    exact he F s H cl C fp x hx hcd
theorem sw_mapE {P : Post} {y z : Str} {py spos pz : Pos} (i : Nat) (v : Nat) (e : α → D) (inj : ∀ x y, e x = e y → x = y) (g : α → D) (hs : SD B (.Name z pz) it Γ (xs.map e)) (ok : blkC B.X.N B.X.env.scope scope own = true) (hl : xs.length < 1000000)
    (hx : ∀ (F : Frame) s H cl C fp, Loc (B.blk F s H scope cl C fp).X.env.scope z := by intros; first | exact Or.inl rfl | exact Or.inr rfl) (hfn : ∀ (F : Frame) s H cl C fp, (B.blk F s H scope cl C fp).X.env.scope.names.lookup z = some .local := by intros; rfl)
    (he : ∀ F s H cl C fp, ∀ x ∈ xs, DE (B.blk F s H scope cl C fp) elt ((blkE Γ [v]).set v (some (.im (e x)))) (g x)) (k : P.nx (Γ.set i (some (.im (.lst (xs.map g))))))
    (hsw : swapsWith (.ListComp elt [⟨.Name z pz, it, [], 0⟩] scope pos) (some (.Name y py)) spos.line B.X.env = pure true := by exact sw_true rfl rfl rfl (by decide +kernel)) (hv : own.map (·.2) = [v] := by rfl) (hz : B.X.N[v]? = some z := by rfl) (hy : B.X.N[i]? = some y := by rfl) (hyl : B.X.env.scope.names.lookup y = some .local := by rfl)
    (hf : ∀ x, foldedSetIterable it B.X.env x = pure x := by intro _; rfl) (hh : B.hot = false := by rfl) : SW B (.Assign [.Name y py] (.ListComp elt [⟨.Name z pz, it, [], 0⟩] scope pos) spos) Γ P := by
  rw [← filter_true xs] at k
  exact sw_compE (ifs := []) (own := own) (elt := elt) (pos := pos) i [v] [v] (fun x => [e x]) e inj (fun _ => true) g hs ok hl (fun F s H cl C fp x _ => tg_name v hz (hx F s H cl C fp) (.inr (hfn F s H cl C fp))) (fun F s H cl C fp x _ => ts_nil) (fun F s H cl C fp x hx' _ => he F s H cl C fp x hx') k hsw hv (by simp) hy hyl hf hh
end
theorem cd_allP {α : Type} {B : Bx} {xs : List α} {p : α → Bool} (hh : B.hot = false := by rfl) : CD B (.builtin "all") [.lst (xs.map fun x => .bl (p x))] (.bl (xs.all p)) := by
  have r := cd_all (B := B) (bs := xs.map p) hh
  rw [List.map_map, List.all_map] at r
  exact r
theorem cd_anyP {α : Type} {B : Bx} {xs : List α} {p : α → Bool} (hh : B.hot = false := by rfl) : CD B (.builtin "any") [.lst (xs.map fun x => .bl (p x))] (.bl (xs.any p)) := by
  have r := cd_any (B := B) (bs := xs.map p) hh
  rw [List.map_map, List.any_map] at r
  exact r
theorem int_inj {x y : Nat} (h : D.int (0 + (x : Nat)) = D.int (0 + (y : Nat))) : x = y := by
  injection h with h
  omega
theorem rangeD0 (n : Nat) : rangeD 0 n = (List.range n).map fun (i : Nat) => D.int (0 + (i : Nat)) := rfl
theorem rangeDi (lo : Int) (n : Nat) : rangeD lo n = (List.range n).map fun (i : Nat) => D.int (lo + (i : Nat)) := rfl
theorem intL_inj {lo : Int} {x y : Nat} (h : D.int (lo + (x : Nat)) = D.int (lo + (y : Nat))) : x = y := by
  injection h with h
  omega
theorem sign_inj {x y : Nat} (h : D.str ⟨#[x]⟩ = D.str ⟨#[y]⟩) : x = y := by
  injection h with h
  injection h with h
  have := congrArg Array.toList h
  simpa using this
end Sd

set_option exponentiation.threshold 256
set_option maxHeartbeats 200000
set_option maxRecDepth 512
set_option Elab.async false
set_option linter.all false
namespace Sd
open PySem PySem.Spec PyProof.Rows L2
def topS (i : Nat) : Stmt := PySem.Challenge.pw_seamdrafts_s02_print_of.main.body.getD i (.Pass ⟨0, 0, 0, 0⟩)
def clsBody : Stmt → List Stmt
  | .ClassDef _ _ _ b _ _ _ _ _ _ _ => b
  | _ => []
def topM (i j : Nat) : Stmt := (clsBody (topS i)).getD j (.Pass ⟨0, 0, 0, 0⟩)
abbrev m_TextFault_init : Stmt := topM 1 0
abbrev m_Refused_init : Stmt := topM 2 0
abbrev s_require : Stmt := topS 3
abbrev s_text_of : Stmt := topS 17
abbrev s_bytes_of : Stmt := topS 18
abbrev m_Token_init : Stmt := topM 19 0
abbrev m_Token_says : Stmt := topM 19 1
abbrev s_run_of : Stmt := topS 20
abbrev s_number_at : Stmt := topS 21
abbrev s_token_at : Stmt := topS 22
abbrev s_tokens_of : Stmt := topS 23
abbrev m_Reader_init : Stmt := topM 33 0
abbrev m_Reader_is_at_end : Stmt := topM 33 1
abbrev m_Reader_here : Stmt := topM 33 2
abbrev m_Reader_allow : Stmt := topM 33 3
abbrev m_Reader_take : Stmt := topM 33 4
abbrev m_Reader_comes : Stmt := topM 33 5
abbrev m_Reader_need : Stmt := topM 33 6
abbrev m_Reader_own_name : Stmt := topM 33 7
abbrev m_Reader_parts_within : Stmt := topM 33 8
abbrev m_Reader_place_node : Stmt := topM 33 9
abbrev m_Reader_pair : Stmt := topM 33 10
abbrev m_Reader_sum_at : Stmt := topM 33 11
abbrev m_Reader_product : Stmt := topM 33 12
abbrev m_Reader_factor : Stmt := topM 33 13
abbrev m_Reader_within : Stmt := topM 33 14
abbrev m_Reader_piece : Stmt := topM 33 15
abbrev m_Reader_seam : Stmt := topM 33 16
abbrev m_Reader_given_name : Stmt := topM 33 17
abbrev m_Reader_one_statement : Stmt := topM 33 18
abbrev s_statements_of : Stmt := topS 34
abbrev s_digits_printed : Stmt := topS 38
abbrev s_bracketed : Stmt := topS 39
abbrev s_row_printed : Stmt := topS 40
abbrev s_within_printed : Stmt := topS 41
abbrev s_tokens_in : Stmt := topS 42
abbrev s_names_printed : Stmt := topS 43
abbrev s_statement_tokens : Stmt := topS 44
abbrev s_joined : Stmt := topS 45
abbrev s_printed : Stmt := topS 46
abbrev s_told : Stmt := topS 51
abbrev s_told_text : Stmt := topS 52
abbrev s_refused : Stmt := topS 53
abbrev s_want_short : Stmt := topS 54
abbrev s_draft_in : Stmt := topS 55
abbrev s_answer_print : Stmt := topS 56
abbrev s_print_of : Stmt := topS 57
end Sd

set_option exponentiation.threshold 256
set_option maxHeartbeats 200000
set_option maxRecDepth 512
set_option Elab.async false
set_option linter.all false
namespace Sd
/-- of n bits at most, above and below -/
def Sz (n : Nat) (q : Rat) : Prop := q.num.natAbs < 2 ^ n ∧ q.den < 2 ^ n
theorem Sz.mono {m n : Nat} {q : Rat} (h : Sz m q) (k : m ≤ n) : Sz n q :=
  ⟨Nat.lt_of_lt_of_le h.1 (Nat.pow_le_pow_right (by omega) k), Nat.lt_of_lt_of_le h.2 (Nat.pow_le_pow_right (by omega) k)⟩
theorem rat_ext {a b : Rat} (h1 : a.num = b.num) (h2 : a.den = b.den) : a = b := Rat.ext h1 h2
/-- what is in lowest terms is the number -/
theorem rat_of {q : Rat} {n : Int} {d : Nat} (hd : d ≠ 0) (hr : n.natAbs.Coprime d) (e : q = (n : Rat) / (d : Rat)) : q.num = n ∧ q.den = d := by
  have h : q = Rat.mk' n d hd hr := by
    rw [e, ← Rat.mkRat_eq_div, ← Rat.normalize_eq_mkRat hd, Rat.normalize_eq]
    apply Rat.ext
    · simp [Nat.Coprime.gcd_eq_one hr]
    · simp [Nat.Coprime.gcd_eq_one hr]
  rw [h]
  exact ⟨rfl, rfl⟩
/-! ## the sum -/
theorem add_parts (a b : Rat) : (a + b).num = (a.num * (b.den / a.den.gcd b.den : Nat) + b.num * (a.den / a.den.gcd b.den : Nat)) / (((a.num * (b.den / a.den.gcd b.den : Nat) + b.num * (a.den / a.den.gcd b.den : Nat)).natAbs.gcd (a.den.gcd b.den) : Nat) : Int) ∧
    (a + b).den = a.den / a.den.gcd b.den * (b.den / (a.num * (b.den / a.den.gcd b.den : Nat) + b.num * (a.den / a.den.gcd b.den : Nat)).natAbs.gcd (a.den.gcd b.den)) := by
  have aux := Rat.add.aux a b (g := a.den.gcd b.den) rfl rfl rfl
  simp only at aux
  generalize hg : a.den.gcd b.den = g at aux ⊢
  have gpos : 0 < g := hg ▸ Nat.gcd_pos_of_pos_left _ a.den_pos
  have da : g ∣ a.den := hg ▸ Nat.gcd_dvd_left _ _
  have db : g ∣ b.den := hg ▸ Nat.gcd_dvd_right _ _
  obtain ⟨x, hx⟩ := da
  obtain ⟨y, hy⟩ := db
  have e1 : a.den / g = x := by rw [hx, Nat.mul_div_cancel_left _ gpos]
  have e2 : b.den / g = y := by rw [hy, Nat.mul_div_cancel_left _ gpos]
  rw [e1, e2] at aux ⊢
  generalize hn : a.num * (y : Int) + b.num * (x : Int) = n at aux ⊢
  have hN : a.num * (b.den : Int) + b.num * (a.den : Int) = n * (g : Int) := by
    rw [hx, hy, ← hn]
    push_cast
    rw [Int.add_mul, Int.mul_assoc, Int.mul_assoc, Int.mul_comm (y : Int), Int.mul_comm (x : Int)]
  have hD : a.den * b.den = (x * b.den) * g := by
    rw [hx, Nat.mul_comm g x, Nat.mul_assoc, Nat.mul_comm g, Nat.mul_assoc]
  generalize hg1 : n.natAbs.gcd g = g1 at aux ⊢
  have g1pos : 0 < g1 := hg1 ▸ Nat.gcd_pos_of_pos_right _ gpos
  have hG : (a.num * (b.den : Int) + b.num * (a.den : Int)).natAbs.gcd (a.den * b.den) = g1 * g := by
    rw [hN, hD, Int.natAbs_mul, Int.natAbs_natCast, Nat.gcd_mul_right, ← aux]
  have dg : g1 ∣ g := hg1 ▸ Nat.gcd_dvd_right _ _
  constructor
  · rw [Rat.num_add, hG, hN]
    push_cast
    exact Int.mul_ediv_mul_of_pos_left _ _ (by omega)
  · rw [Rat.den_add, hG, hD, Nat.mul_div_mul_right _ _ gpos, Nat.mul_div_assoc]
    exact Nat.dvd_trans dg ⟨y, hy⟩
/-! ## the product -/
theorem mul_parts (a b : Rat) : (a * b).num = a.num / (Int.gcd a.num b.den : Int) * (b.num / (Int.gcd b.num a.den : Int)) ∧ (a * b).den = a.den / Int.gcd b.num a.den * (b.den / Int.gcd a.num b.den) := by
  have e : a * b = Rat.mul a b := rfl
  rw [e, Rat.mul]
  simp [Int.divExact_eq_tdiv, Int.gcd]
theorem inv_parts {a : Rat} (h : a ≠ 0) : (a.num < 0 → a⁻¹.num = -(a.den : Int) ∧ a⁻¹.den = a.num.natAbs) ∧ (¬ a.num < 0 → a⁻¹.num = a.den ∧ a⁻¹.den = a.num.natAbs) := by
  have e : a⁻¹ = Rat.inv a := rfl
  rw [e, Rat.inv]
  refine ⟨fun k => ?_, fun k => ?_⟩
  · rw [dif_pos k]
    exact ⟨rfl, rfl⟩
  · rw [dif_neg k]
    have n0 : a.num ≠ 0 := fun z => h (Rat.num_eq_zero.mp z)
    have k2 : a.num > 0 := by omega
    rw [dif_pos k2]
    exact ⟨rfl, rfl⟩
/-! ## sizes -/
theorem pow_lt {a b x y : Nat} (h1 : a < 2 ^ x) (h2 : b < 2 ^ y) : a * b < 2 ^ (x + y) := by
  rw [Nat.pow_add]
  rcases Nat.eq_zero_or_pos b with e | e
  · rw [e, Nat.mul_zero]
    exact Nat.mul_pos (Nat.pow_pos (by omega)) (Nat.pow_pos (by omega))
  · exact Nat.lt_of_lt_of_le (Nat.mul_lt_mul_of_pos_right h1 e) (Nat.mul_le_mul_left _ (Nat.le_of_lt h2))
theorem Sz.neg {n : Nat} {a : Rat} (h : Sz n a) : Sz n (-a) := by
  refine ⟨?_, ?_⟩
  · rw [Rat.neg_num, Int.natAbs_neg]
    exact h.1
  · rw [Rat.neg_den]
    exact h.2
theorem Sz.add {m n : Nat} {a b : Rat} (h : Sz m a) (k : Sz n b) : Sz (m + n + 1) (a + b) := by
  have pn : ∀ x y : Nat, x < 2 ^ (m + n) → y < 2 ^ (m + n) → x + y < 2 ^ (m + n + 1) := fun x y h1 h2 => by rw [Nat.pow_succ]; omega
  obtain ⟨e1, e2⟩ := add_parts a b
  refine ⟨?_, ?_⟩
  · rw [e1]
    refine Nat.lt_of_le_of_lt (Int.natAbs_ediv_le_natAbs _ _) (Nat.lt_of_le_of_lt (Int.natAbs_add_le _ _) (pn _ _ ?_ ?_))
    · rw [Int.natAbs_mul, Int.natAbs_natCast]
      exact pow_lt h.1 (Nat.lt_of_le_of_lt (Nat.div_le_self _ _) k.2)
    · rw [Int.natAbs_mul, Int.natAbs_natCast, Nat.add_comm]
      exact pow_lt k.1 (Nat.lt_of_le_of_lt (Nat.div_le_self _ _) h.2)
  · rw [e2]
    exact Nat.lt_of_lt_of_le (pow_lt (Nat.lt_of_le_of_lt (Nat.div_le_self _ _) h.2) (Nat.lt_of_le_of_lt (Nat.div_le_self _ _) k.2)) (Nat.pow_le_pow_right (by omega) (by omega))
theorem Sz.sub {m n : Nat} {a b : Rat} (h : Sz m a) (k : Sz n b) : Sz (m + n + 1) (a - b) := by
  rw [Rat.sub_eq_add_neg]
  exact h.add k.neg
theorem Sz.mul {m n : Nat} {a b : Rat} (h : Sz m a) (k : Sz n b) : Sz (m + n) (a * b) := by
  obtain ⟨e1, e2⟩ := mul_parts a b
  refine ⟨?_, ?_⟩
  · rw [e1, Int.natAbs_mul]
    exact pow_lt (Nat.lt_of_le_of_lt (Int.natAbs_ediv_le_natAbs _ _) h.1) (Nat.lt_of_le_of_lt (Int.natAbs_ediv_le_natAbs _ _) k.1)
  · rw [e2]
    exact pow_lt (Nat.lt_of_le_of_lt (Nat.div_le_self _ _) h.2) (Nat.lt_of_le_of_lt (Nat.div_le_self _ _) k.2)
theorem Sz.inv {n : Nat} {a : Rat} (h : Sz n a) : Sz n a⁻¹ := by
  by_cases e : a = 0
  · subst e
    rw [Rat.inv_zero]
    exact h
  · obtain ⟨p, q⟩ := inv_parts e
    by_cases c : a.num < 0
    · obtain ⟨e1, e2⟩ := p c
      exact ⟨by rw [e1, Int.natAbs_neg, Int.natAbs_natCast]; exact h.2, by rw [e2]; exact h.1⟩
    · obtain ⟨e1, e2⟩ := q c
      exact ⟨by rw [e1, Int.natAbs_natCast]; exact h.2, by rw [e2]; exact h.1⟩
theorem Sz.div {m n : Nat} {a b : Rat} (h : Sz m a) (k : Sz n b) : Sz (m + n) (a / b) := by
  rw [Rat.div_def]
  exact h.mul k.inv
theorem Sz.log {n : Nat} {i : Int} (h : i.natAbs < 2 ^ n) (hn : 0 < n) : i.natAbs.log2 < n := by
  rcases Nat.eq_zero_or_pos i.natAbs with e | e
  · rw [e]
    simpa using hn
  · exact (Nat.log2_lt (by omega)).mpr h
theorem rat_lt (a b : Rat) : a < b ↔ a.num * b.den < b.num * a.den := Rat.lt_iff a b
end Sd

set_option exponentiation.threshold 256
set_option Elab.async false
set_option linter.all false
set_option maxRecDepth 100000
set_option maxHeartbeats 4000000
namespace Sd
open PySem PySem.Spec PyProof.Rows L2
/-- what stands of a def of the module -/
def FunT (K : PySem.W.Frag) (mg : Str → Option Value) (x : Str) (st : Stmt) (ps : List Str) : Prop := ∃ (f : Addr) (fd : FuncData), Fun K x x st f fd ∧ mg x = some (.ref f) ∧ PySem.W.keepIn K (.ref f) = true ∧ Binds K fd ps []
abbrev FnN (P : Program) (w : World) (K : PySem.W.Frag) (mg : Str → Option Value) (base : Heap) (x : Str) (k : Nat) (F : FS) : Prop := Fn (L2N.CX P w) P w K mg base x k F
abbrev FnC (P : Program) (w : World) (K : PySem.W.Frag) (mg : Str → Option Value) (base : Heap) (x : Str) (k : Nat) (F : FS) : Prop := Fn (L2.CX P w) P w K mg base x k F
abbrev numD (q : Rat) : D := .tup [.int q.num, .int (q.den : Int)]
section
variable {P : Program} {w : World} {K : PySem.W.Frag} {mg : Str → Option Value} {base : Heap}
theorem fnN {x : Str} {st : Stmt} {ps : List Str} {k : Nat} {F : FS} (T : FunT K mg x st ps) (h : ∀ f fd, Fun K x x st f fd → FnOk P w K mg base (L2N.CX P w) k f fd ps (spF K F)) : FnN P w K mg base x k F :=
  let ⟨f, fd, a, b, c, d⟩ := T; ⟨f, fd, ps, h f fd a, b, c, d⟩
theorem fnC {x : Str} {st : Stmt} {ps : List Str} {k : Nat} {F : FS} (T : FunT K mg x st ps) (h : ∀ f fd, Fun K x x st f fd → FnOk P w K mg base (L2.CX P w) k f fd ps (spF K F)) : FnC P w K mg base x k F :=
  let ⟨f, fd, a, b, c, d⟩ := T; ⟨f, fd, ps, h f fd a, b, c, d⟩
theorem cmul {m n : Nat} {i j : Int} (h : i.natAbs < 2 ^ m) (k : j.natAbs < 2 ^ n) (hm : 0 < m) (hn : 0 < n) (s : m + n ≤ 100000) : CMulW i j := by
  have := Sz.log h hm
  have := Sz.log k hn
  show i.natAbs.log2 + j.natAbs.log2 < 1000000
  omega
theorem cdiv {n : Nat} {j : Nat} (h : j < 2 ^ n) (hp : 0 < j) (hn : 0 < n) (s : n ≤ 8500) : ∀ i, CDivW i (j : Int) := fun i => by
  have := Sz.log (i := (j : Int)) h hn
  exact ⟨by omega, by omega⟩
theorem lt_of_le_pow {a b n : Nat} (h : a ≤ b) (k : b < 2 ^ n) : a < 2 ^ n := Nat.lt_of_le_of_lt h k
end
end Sd

set_option Elab.async false
set_option linter.all false
set_option maxRecDepth 100000
set_option maxHeartbeats 4000000
set_option exponentiation.threshold 10000
namespace Sd
open PySem PySem.Spec PyProof.Rows L2
abbrev Pt := SeamNum.Point
abbrev ptD (p : Pt) : D := .tup [numD p.1, numD p.2]
def SzP (n : Nat) (p : Pt) : Prop := Sz n p.1 ∧ Sz n p.2
theorem SzP.mono {m n : Nat} {p : Pt} (h : SzP m p) (k : m ≤ n) : SzP n p := ⟨h.1.mono k, h.2.mono k⟩
theorem SzP.less {m n : Nat} {p q : Pt} (h : SzP m p) (k : SzP n q) : SzP (m + n + 1) (SeamNum.less p q) := ⟨h.1.sub k.1, h.2.sub k.2⟩
theorem SzP.plus {m n : Nat} {p q : Pt} (h : SzP m p) (k : SzP n q) : SzP (m + n + 1) (SeamNum.plus p q) := ⟨h.1.add k.1, h.2.add k.2⟩
theorem SzP.times {m n : Nat} {p : Pt} {t : Rat} (h : SzP m p) (k : Sz n t) : SzP (m + n) (SeamNum.times t p) := by
  rw [Nat.add_comm]
  exact ⟨k.mul h.1, k.mul h.2⟩
theorem sz_cross {m n : Nat} {p q : Pt} (h : SzP m p) (k : SzP n q) : Sz (2 * (m + n) + 1) (SeamNum.cross p q) := by
  have := (h.1.mul k.2).sub (h.2.mul k.1)
  rw [show 2 * (m + n) + 1 = m + n + (m + n) + 1 by omega]
  exact this
theorem sz_dot {m n : Nat} {p q : Pt} (h : SzP m p) (k : SzP n q) : Sz (2 * (m + n) + 1) (SeamNum.dot p q) := by
  have := (h.1.mul k.1).add (h.2.mul k.2)
  rw [show 2 * (m + n) + 1 = m + n + (m + n) + 1 by omega]
  exact this
theorem ixpa {p : Pt} : IxD (ptD p) 0 (numD p.1) := rfl
theorem ixpb {p : Pt} : IxD (ptD p) 1 (numD p.2) := rfl
end Sd

set_option Elab.async false
set_option linter.all false
set_option maxRecDepth 100000
set_option maxHeartbeats 4000000
set_option exponentiation.threshold 10000
namespace Sd
open PySem PySem.Spec PyProof.Rows L2
/-- corners as they stand -/
abbrev rowD (r : List Pt) : D := .lst (r.map fun p => ptD p)
abbrev edgeD (e : Pt × Pt) : D := .tup [ptD e.1, ptD e.2]
/-- corner i -/
abbrev cor (r : List Pt) (i : Nat) : Pt := SeamPoly.at_ r i
def SzR (n : Nat) (r : List Pt) : Prop := ∀ p ∈ r, SzP n p
theorem cor_lt {r : List Pt} {i : Nat} (h : i < r.length) : r[i]? = some (cor r i) := by
  unfold cor SeamPoly.at_
  rw [Nat.mod_eq_of_lt h, List.getElem?_eq_getElem h, List.getD_eq_getElem?_getD, List.getElem?_eq_getElem h]
  rfl
theorem cor_mod (r : List Pt) (i : Nat) : cor r (i % r.length) = cor r i := by
  unfold cor SeamPoly.at_
  rw [Nat.mod_mod]
theorem cor_mem {r : List Pt} (i : Nat) (h : 0 < r.length) : cor r i ∈ r := by
  have := cor_lt (r := r) (i := i % r.length) (Nat.mod_lt _ h)
  rw [cor_mod] at this
  exact List.mem_of_getElem? this
theorem atI_nat {α : Type} {l : List α} {i : Nat} (h : i < l.length) : atI l (i : Int) = l[i]? := by
  unfold atI ixN
  have h1 : ¬ ((i : Int) < 0) := by omega
  have h2 : ¬ ((i : Int) < 0 ∨ (l.length : Int) ≤ (i : Int)) := by omega
  simp [h1, h2, h]
theorem ix_row {r : List Pt} {i : Nat} (h : i < r.length) : IxD (rowD r) (i : Int) (ptD (cor r i)) := by
  show atI (r.map fun p => ptD p) (i : Int) = some (ptD (cor r i))
  rw [atI_nat (by rw [List.length_map]; exact h), List.getElem?_map, cor_lt h]
  rfl
theorem tg_two {B : Bx} {p1 p2 tp : Pos} {kk : Nat} {n m : Str} {d e : D} (i j : Nat) (hh : B.hot = false := by rfl) (hN : B.X.N[i]? = some n := by rfl) (hx : Loc B.X.env.scope n := by first | exact Or.inl rfl | exact Or.inr rfl) (hf : B.X.fn n = true ∨ B.X.env.scope.names.lookup n = some .local := by first | exact .inl rfl | exact .inr rfl)
    (hN2 : B.X.N[j]? = some m := by rfl) (hx2 : Loc B.X.env.scope m := by first | exact Or.inl rfl | exact Or.inr rfl) (hf2 : B.X.fn m = true ∨ B.X.env.scope.names.lookup m = some .local := by first | exact .inl rfl | exact .inr rfl)
    (hs : (assignEach [.Name n p1, .Name m p2] B.X.env).map (·.2) = assign (.Name n p1) B.X.env :: (assignEach [.Name m p2] B.X.env).map (·.2) := by rfl) (hs2 : (assignEach [.Name m p2] B.X.env).map (·.2) = assign (.Name m p2) B.X.env :: (assignEach [] B.X.env).map (·.2) := by rfl)
    (hn : (assignEach [.Name n p1, .Name m p2] B.X.env).length = 2 := by rfl) (hst : (assignEach [.Name n p1, .Name m p2] B.X.env).findIdx? (·.1) = none := by rfl) : TgN B (.Tuple [.Name n p1, .Name m p2] kk tp) (.tup [d, e]) [i, j] [d, e] :=
  tg_tup [i, j] (pgs_cons (pg_name B.nd hN hx hf) (pgs_cons (pg_name B.nd hN2 hx2 hf2) pgs_nil hs2) hs) rfl hn hst hh
end Sd

set_option Elab.async false
set_option linter.all false
set_option maxRecDepth 100000
set_option maxHeartbeats 4000000
set_option exponentiation.threshold 10000
namespace Sd
open PySem PySem.Spec PyProof.Rows L2
theorem eqv_num (a b : Rat) : PyData.eqv (toPy (numD a)) (toPy (numD b)) = decide (a = b) := by
  show ((a.num == b.num) && (((a.den : Int) == (b.den : Int)) && true)) = _
  rw [Bool.and_true]
  by_cases h : a = b
  · subst h
    simp
  · rw [decide_eq_false h]
    cases e1 : (a.num == b.num) with
    | false => rfl
    | true =>
      cases e2 : ((a.den : Int) == (b.den : Int)) with
      | false => rfl
      | true =>
        have h1 : a.num = b.num := by simpa using e1
        have h3 : (a.den : Int) = (b.den : Int) := by simpa using e2
        have h2 : a.den = b.den := by omega
        exact absurd (Rat.ext h1 h2) h
theorem eqv_pt (p q : Pt) : PyData.eqv (toPy (ptD p)) (toPy (ptD q)) = decide (p = q) := by
  have e : PyData.eqv (toPy (ptD p)) (toPy (ptD q)) = (PyData.eqv (toPy (numD p.1)) (toPy (numD q.1)) && (PyData.eqv (toPy (numD p.2)) (toPy (numD q.2)) && true)) := rfl
  rw [e, eqv_num, eqv_num, Bool.and_true]
  by_cases h : p = q
  · subst h
    simp
  · rw [decide_eq_false h]
    by_cases h1 : p.1 = q.1
    · have h2 : ¬ p.2 = q.2 := fun z => h (Prod.ext h1 z)
      rw [decide_eq_false h2, Bool.and_false]
    · rw [decide_eq_false h1, Bool.false_and]
theorem od_eqNum {B : Bx} {a b : Rat} : OD B (compareOp .Eq) (numD a) (numD b) (.bl (decide (a = b))) := by
  rw [← eqv_num]
  exact od_eqD rfl rfl rfl rfl
theorem od_neNum {B : Bx} {a b : Rat} : OD B (compareOp .NotEq) (numD a) (numD b) (.bl (!decide (a = b))) := by
  rw [← eqv_num]
  exact od_neD rfl rfl rfl rfl
theorem od_eqPt {B : Bx} {p q : Pt} : OD B (compareOp .Eq) (ptD p) (ptD q) (.bl (decide (p = q))) := by
  rw [← eqv_pt]
  exact od_eqD rfl rfl rfl rfl
end Sd

set_option exponentiation.threshold 256
set_option Elab.async false
set_option linter.all false
set_option maxRecDepth 100000
set_option maxHeartbeats 4000000
namespace Sd
open PySem PySem.Spec PyProof.Rows L2 PySem.NumText PySem.Calls
/-! ## int(text), of more than 640 signs too -/
theorem nodig_of {K : PySem.W.Frag} {h : Heap} (X : K.In h) (e : PySem.W.nsIn K cStatics "sys.int_max_str_digits" = some none) (hl : h.NoLimit) : h.NoDigits := by
  obtain ⟨mc, hn, _⟩ := hl
  exact ⟨mc, hn, PySem.W.ns_none_of X hn e⟩
theorem wp_far {M : Model} {A : Around} {E : Value → Shared → Prop} {s : Shared} {Q : Value → Shared → Prop} {v : Value} {text : List Nat} {n : Int} (nd : s.heap.NoDigits)
    (hs : ¬ (text.takeWhile (· != 0)).length ≤ 640) (hr : (int_private% "readNumeral") 4300 10 (text.takeWhile (· != 0)) = (int_private% "Numeral.value") n)
    (ha : ((text.takeWhile (· != 0)).length == text.length) = true) (h : Q (.int n s.toks) { s with toks := s.toks + 1 }) :
    wpAny M A ((int_private% "intFromText") v text 10) Q E s := by
  obtain ⟨mc, hns, hnone⟩ := nd
  obtain ⟨hp, g, d, tk, os⟩ := s
  have lim : ∀ {Q' : Nat → Shared → Prop}, Q' 4300 ⟨hp, g, d, tk, os⟩ → wpAny M A Builtin.intMaxStrDigits Q' E ⟨hp, g, d, tk, os⟩ := fun {Q'} q => by
    unfold Builtin.intMaxStrDigits
    refine wpAny_bind (wpAny_nsGet hns ?_)
    rw [hnone]
    exact wpAny_pure q
  repeat (any_goals (first
    | assumption
    | (with_reducible refine wpAny_ite_false (decide_eq_false hs) ?_)
    | (with_reducible refine wpAny_ite_true (decide_eq_true ha) ?_)
    | (with_reducible refine lim ?_)
    | wp_step))
  all_goals (try rw [hr])
  all_goals (try dsimp only)
  repeat (any_goals (first
    | assumption
    | (with_reducible refine wpAny_ite_true (decide_eq_true ha) ?_)
    | wp_step))
structure Hid (p : Prop) : Prop where
  out : p
theorem meets_far {x : PySem.Str} {u : Tok} {n : Int} (hl : x.length ≤ 4300) (hn : PySem.intText? x = some n) : Meets (Builtin.«int.__new__» ⟨[.type "int", .str x u], []⟩) (fun _ R s => s.heap.NoDigits ∧ R (.ok (.ret (.int n s.toks))) { s with toks := s.toks + 1 }) := by
  by_cases h640 : x.length ≤ 640
  · exact (PySem.W.KIN.gives_text h640 hn).meets.of_imp fun A R s h => h.2
  · intro prog w A R s h
    obtain ⟨nd, h⟩ := h
    obtain ⟨hp, g, d, tk, os⟩ := s
    have f1 := F.conv_sub_int
    have f2 := F.madeHere_int
    have f3 := PySem.W.KIN.str_int
    have f4 := PySem.W.KIN.str_idx
    have f5 := PySem.W.KIN.str_trunc
    have f6 : typeOf (.str x u) = pure (.type "str") := rfl
    have key : (¬ (numSeenOf x).length ≤ 640 ∧ (int_private% "readNumeral") 4300 10 (numSeenOf x) = (int_private% "Numeral.value") n ∧ ((numSeenOf x).length == (numTextOf x).length) = true) ∨ ((numSeenOf x).length ≤ 640 ∧ (int_private% "readNumeral") 0 10 (numSeenOf x) = (int_private% "Numeral.value") n ∧ ((numSeenOf x).length == (numTextOf x).length) = true) := by
      by_cases hs : (numSeenOf x).length ≤ 640
      · rcases read0 x hs with ⟨m, h1, h2, h3⟩ | ⟨h1, _⟩
        · rw [hn] at h1
          cases h1
          exact .inr ⟨hs, h3, h2⟩
        · rw [hn] at h1
          cases h1
      · rcases read4300 x (by rw [sizeLine_eq]; omega) with ⟨m, h1, h2, h3⟩ | ⟨h1, _⟩
        · rw [hn] at h1
          cases h1
          exact .inl ⟨hs, h3, h2⟩
        · rw [hn] at h1
          cases h1
    have hk := Hid.mk key
    clear key hn hl h640
    repeat (any_goals (first
      | assumption
      | ((with_reducible show wpAny _ _ ((int_private% "intFromText") _ _ _) _ _ _); refine (Or.elim hk.out (fun k => wp_far nd k.1 k.2.1 k.2.2 ?_) (fun k => PySem.W.KIN.wp_text k.1 k.2.1 k.2.2 ?_)))
      | wp_step))
    all_goals first | exact h | skip
theorem call_far {X : Cx} (e : PySem.W.nsIn X.K cStatics "sys.int_max_str_digits" = some none) : CallR X (.type "int") (fun xs H Q => ∃ a n, xs = [.str a] ∧ PySem.intText? a = some n ∧ a.length ≤ 4300 ∧ Q (.int n) H) := by
  intro pins s σ H xs us Q I rs h
  obtain ⟨a, n, rfl, hn, hl, h⟩ := h
  cases rs with
  | cons r1 rs =>
    cases rs
    obtain ⟨t, rfl⟩ := r1
    exact PySem.call_int_1 (meets_far hl hn) ⟨nodig_of I.kIn e I.nolimit, rfl, .int n, H, I.tok _, ⟨_, rfl⟩, h⟩
theorem cd_intS {B : Bx} {a : Str} {n : Int} (e : PySem.W.nsIn B.X.K cStatics "sys.int_max_str_digits" = some none) (hn : PySem.intText? a = some n) (hl : a.length ≤ 4300) : CD B (.type "int") [.str a] (.int n) := cd_of fun T σ Γ W vs H Q g q => by
  obtain ⟨u, rfl, hu⟩ := rplOne g.top
  cases rpStr hu
  exact SemC.of (call_far e) ⟨a, n, rfl, hn, hl, q _ H (g.tl.with (.int _))⟩
end Sd

set_option exponentiation.threshold 256
set_option Elab.async false
set_option linter.all false
set_option maxRecDepth 100000
set_option maxHeartbeats 4000000
namespace Sd
open PySem PySem.Spec PyProof.Rows L2
/-! ## Texts as rows of signs -/
abbrev S (l : List Nat) : Str := SX.S l
abbrev tx (l : List Nat) : D := .str (S l)
theorem S_inj {a b : List Nat} (h : S a = S b) : a = b := SX.S_inj h
theorem S_len (l : List Nat) : (S l).length = l.length := SX.S_len l
theorem S_eq {a b : List Nat} : decide (S a = S b) = decide (a = b) := decide_eq_decide.mpr ⟨S_inj, fun h => h ▸ rfl⟩
theorem tx_inj {a b : List Nat} (h : tx a = tx b) : a = b := by
  injection h with h
  exact S_inj h
/-- before and behind the first c -/
def cutN (c : Nat) : List Nat → List Nat × Option (List Nat)
  | [] => ([], none)
  | x :: r => if x = c then ([], some r) else ((x :: (cutN c r).1), (cutN c r).2)
theorem pre1 (c x : Nat) (r : List Nat) : TL.pre [c] (x :: r) = decide (x = c) := by
  show ((x :: r).take 1 == [c]) = _
  rw [List.take_succ_cons, List.take_zero]
  by_cases h : x = c
  · subst h
    simp
  · rw [decide_eq_false h]
    simp [h]
theorem par_cut (c : Nat) : ∀ (l acc : List Nat), TL.par [c] acc l = (cutN c l).2.map fun q => (acc ++ (cutN c l).1, q)
  | [], acc => rfl
  | x :: r, acc => by
    by_cases h : x = c
    · rw [TL.par_hit (by rw [pre1]; exact decide_eq_true h)]
      unfold cutN
      rw [if_pos h]
      simp
    · rw [TL.par_miss (by rw [pre1]; exact decide_eq_false h), par_cut c r]
      have e : cutN c (x :: r) = ((x :: (cutN c r).1), (cutN c r).2) := if_neg h
      rw [e]
      cases (cutN c r).2 with
      | none => rfl
      | some q => simp
theorem cut_none (c : Nat) : ∀ l : List Nat, (cutN c l).2 = none → (cutN c l).1 = l
  | [], _ => rfl
  | x :: r, h => by
    by_cases e : x = c
    · have q : cutN c (x :: r) = ([], some r) := if_pos e
      rw [q] at h
      cases h
    · have q : cutN c (x :: r) = ((x :: (cutN c r).1), (cutN c r).2) := if_neg e
      rw [q] at h ⊢
      show x :: (cutN c r).1 = _
      rw [cut_none c r h]
theorem partition_cut (c : Nat) (l : List Nat) : Txt.partition (S l) (S [c]) = (match (cutN c l).2 with
    | none => (S (cutN c l).1, S [], S [])
    | some q => (S (cutN c l).1, S [c], S q)) := by
  have p := par_cut c l []
  cases e : (cutN c l).2 with
  | none =>
    rw [e] at p
    rw [cut_none c l e]
    exact SX.partition_none (by simp) p
  | some q =>
    rw [e] at p
    exact SX.partition_some (by simp) (by rw [p]; simp)
theorem cut_len (c : Nat) : ∀ l : List Nat, (cutN c l).1.length ≤ l.length ∧ ∀ q, (cutN c l).2 = some q → q.length ≤ l.length
  | [] => ⟨Nat.le_refl _, fun q h => by cases h⟩
  | x :: r => by
    obtain ⟨a, b⟩ := cut_len c r
    by_cases e : x = c
    · have q : cutN c (x :: r) = ([], some r) := if_pos e
      rw [q]
      exact ⟨Nat.zero_le _, fun z h => by cases h; simp⟩
    · have q : cutN c (x :: r) = ((x :: (cutN c r).1), (cutN c r).2) := if_neg e
      rw [q]
      refine ⟨by simpa using a, fun z h => ?_⟩
      have := b z h
      rw [List.length_cons]
      omega
/-- between c's -/
def splN (c : Nat) : List Nat → List (List Nat)
  | [] => [[]]
  | x :: r => if x = c then [] :: splN c r else match splN c r with
    | [] => [[x]]
    | p :: ps => (x :: p) :: ps
theorem splN_ne (c : Nat) : ∀ l : List Nat, splN c l ≠ []
  | [], h => by cases h
  | x :: r, h => by
    unfold splN at h
    split at h
    · cases h
    · split at h <;> cases h
theorem spl_splN (c : Nat) : ∀ (l acc : List Nat), ∃ p ps, splN c l = p :: ps ∧ TL.spl [c] 0 acc l = (acc ++ p) :: ps
  | [], acc => ⟨[], [], rfl, by rw [List.append_nil]; exact TL.spl_nil [c] 0 acc⟩
  | x :: r, acc => by
    by_cases h : x = c
    · obtain ⟨p, ps, e1, e2⟩ := spl_splN c r []
      refine ⟨[], splN c r, if_pos h, ?_⟩
      rw [TL.spl_hit (by rw [pre1]; exact decide_eq_true h), List.append_nil]
      show acc :: TL.spl [c] 0 [] r = _
      rw [e2, e1, List.nil_append]
    · obtain ⟨p, ps, e1, e2⟩ := spl_splN c r (acc ++ [x])
      have e : splN c (x :: r) = (x :: p) :: ps := by
        unfold splN
        rw [if_neg h, e1]
      refine ⟨x :: p, ps, e, ?_⟩
      rw [TL.spl_miss (by rw [pre1]; exact decide_eq_false h), e2]
      simp
theorem split_splN {c : Nat} (hc : c < 256) (l : List Nat) : Txt.split (S l) (S [c]) = (splN c l).map S := by
  rw [SX.split_S (by simp) (by simp [hc])]
  obtain ⟨p, ps, e1, e2⟩ := spl_splN c l []
  rw [e2, e1, List.nil_append]
theorem starts1 (c : Nat) (l : List Nat) : Txt.startswith (S l) (S [c]) = decide (l.head? = some c) := by
  unfold Txt.startswith
  rw [StrLaws.subAt_eq, S_len, S_len]
  cases l with
  | nil => rfl
  | cons x r =>
    simp only [List.length_cons, List.length_nil, List.drop_zero]
    have h1 : decide (0 + (0 + 1) ≤ r.length + 1) = true := decide_eq_true (by omega)
    rw [h1, Bool.true_and]
    show ((x :: r).take 1 == [c]) = _
    rw [show ((x :: r).take 1 == [c]) = TL.pre [c] (x :: r) from rfl, pre1]
    refine decide_eq_decide.mpr ⟨fun h => by rw [h]; rfl, fun h => by simpa using h⟩
theorem cutS_from (l : List Nat) (k : Nat) : cutS (S l) (some (k : Int)) none = S (l.drop k) := by
  unfold cutS
  rw [S_len, HT.sIx_none, HT.sIx_nat]
  show S ((l.drop (min k l.length)).take (l.length - min k l.length)) = _
  rw [List.take_of_length_le (by rw [List.length_drop]; omega)]
  by_cases h : k ≤ l.length
  · rw [Nat.min_eq_left h]
  · rw [Nat.min_eq_right (by omega), List.drop_length, List.drop_of_length_le (by omega)]
theorem signs_S (l : List Nat) : signsOf (S l) = l.map fun c => tx [c] := rfl
theorem ix_S {l : List Nat} {c : Nat} {i : Nat} (hl : l.length ≤ 1000000) (h : l[i]? = some c) : IxD (tx l) (i : Int) (tx [c]) := by
  refine ⟨by rw [S_len, sizeLine_eq]; omega, c, ?_, rfl⟩
  have : i < l.length := (List.getElem?_eq_some_iff.mp h).1
  show atI l (i : Int) = some c
  unfold atI ixN
  have h1 : ¬ ((i : Int) < 0) := by omega
  have h2 : ¬ ((i : Int) < 0 ∨ (l.length : Int) ≤ (i : Int)) := by omega
  simp [h1, h2, this]
  rw [List.getElem?_eq_getElem this] at h
  exact Option.some.inj h
end Sd

set_option Elab.async false
set_option linter.all false
set_option maxRecDepth 100000
set_option maxHeartbeats 4000000
set_option exponentiation.threshold 10000
namespace Sd
open PySem PySem.Spec PyProof.Rows L2
def isDig (c : Nat) : Bool := decide (48 ≤ c) && decide (c ≤ 57)
def digits (l : List Nat) : Bool := !decide (l = []) && l.all isDig
def plain (l : List Nat) : Bool := digits l && (!decide (l.head? = some 48) || decide (l = [48]))
/-- the value of digits -/
abbrev valN (l : List Nat) : Nat := NumText.digitsVal l
theorem dig_in (c : Nat) : decide (c ∈ (Str.ofString "0123456789").cps.toList) = isDig c := by
  have e : (Str.ofString "0123456789").cps.toList = [48, 49, 50, 51, 52, 53, 54, 55, 56, 57] := by decide +kernel
  rw [e]
  unfold isDig
  rw [← Bool.decide_and]
  refine decide_eq_decide.mpr ⟨fun h => ?_, fun h => ?_⟩
  · simp only [List.mem_cons, List.not_mem_nil, or_false] at h
    omega
  · simp only [List.mem_cons, List.not_mem_nil, or_false]
    omega
theorem digits_all {l : List Nat} (h : digits l = true) : NumText.AllDigits l ∧ l ≠ [] := by
  unfold digits at h
  rw [Bool.and_eq_true] at h
  refine ⟨fun c hc => ?_, by simpa using h.1⟩
  have := List.all_eq_true.mp h.2 c hc
  unfold isDig at this
  simpa using this
theorem plain_digits {l : List Nat} (h : plain l = true) : digits l = true := by
  unfold plain at h
  rw [Bool.and_eq_true] at h
  exact h.1
theorem int_S {l : List Nat} (h : digits l = true) (hl : l.length ≤ 4300) : PySem.intText? (S l) = some ((valN l : Nat) : Int) := intText_digits (x := S l) (digits_all h).1 (digits_all h).2 (by rw [S_len]; exact hl)
theorem int_neg {l : List Nat} (h : digits l = true) (hl : l.length + 1 ≤ 4300) : PySem.intText? (S (45 :: l)) = some (-((valN l : Nat) : Int)) := intText_neg (x := S (45 :: l)) rfl (digits_all h).1 (digits_all h).2 (by rw [S_len]; exact hl)
theorem val_pos {l : List Nat} (h : plain l = true) (h0 : l ≠ [48]) : 0 < valN l := by
  obtain ⟨a, b⟩ := digits_all (plain_digits h)
  cases l with
  | nil => exact absurd rfl b
  | cons c r =>
    have hc := a c List.mem_cons_self
    have : c ≠ 48 := fun e => by
      subst e
      unfold plain at h
      rw [Bool.and_eq_true] at h
      simp [h0] at h
    exact NumText.digitsVal_pos (by omega)
def aboveN (h : List Nat) : List Nat := if h.head? = some 45 then h.drop 1 else h
def numN (h : List Nat) : Int := if h.head? = some 45 then -(valN (aboveN h) : Int) else valN (aboveN h)
/-- a number of what stands before the line, the line, what stands behind it -/
def numOf (h ln bl : List Nat) : Option Rat :=
  if (!plain (aboveN h) || (decide (h = [45, 48]) || (!decide (ln = []) && (!plain bl || (decide (bl = [48]) || decide (bl = [49])))))) = true then none
  else if (decide (Int.gcd (numN h) (if ln = [] then 1 else valN bl : Nat) = 1) && (decide ((numN h).natAbs ≤ 2 ^ 62) && decide ((if ln = [] then 1 else valN bl) ≤ 2 ^ 62))) = true then some (mkRat (numN h) (if ln = [] then 1 else valN bl)) else none
def lineN (z : List Nat × Option (List Nat)) : List Nat := match z.2 with
  | none => []
  | some _ => [47]
/-- what a number's text tells -/
def numIn (l : List Nat) : Option Rat := numOf (cutN 47 l).1 (lineN (cutN 47 l)) ((cutN 47 l).2.getD [])
theorem part_num (l : List Nat) : Txt.partition (S l) (S [47]) = (S (cutN 47 l).1, S (lineN (cutN 47 l)), S ((cutN 47 l).2.getD [])) := by
  rw [partition_cut]
  unfold lineN
  cases (cutN 47 l).2 with
  | none => rfl
  | some q => rfl
theorem mk_numD {n : Int} {d : Nat} (hd : 0 < d) (h : Int.gcd n d = 1) : numD (mkRat n d) = .tup [.int n, .int (d : Int)] := by
  have c : n.natAbs.Coprime d := by
    exact h
  obtain ⟨e1, e2⟩ := rat_of (q := mkRat n d) (by omega) c (by rw [Rat.mkRat_eq_div])
  show D.tup [.int (mkRat n d).num, .int ((mkRat n d).den : Int)] = _
  rw [e1, e2]
def optD : Option Rat → D
  | none => .non
  | some q => numD q
theorem tg_three {B : Bx} {p1 p2 p3 tp : Pos} {kk : Nat} {n m o : Str} {d e f : D} (i j k : Nat) (hh : B.hot = false := by rfl) (hN : B.X.N[i]? = some n := by rfl) (hx : Loc B.X.env.scope n := by first | exact Or.inl rfl | exact Or.inr rfl) (hf : B.X.fn n = true ∨ B.X.env.scope.names.lookup n = some .local := by first | exact .inl rfl | exact .inr rfl)
    (hN2 : B.X.N[j]? = some m := by rfl) (hx2 : Loc B.X.env.scope m := by first | exact Or.inl rfl | exact Or.inr rfl) (hf2 : B.X.fn m = true ∨ B.X.env.scope.names.lookup m = some .local := by first | exact .inl rfl | exact .inr rfl)
    (hN3 : B.X.N[k]? = some o := by rfl) (hx3 : Loc B.X.env.scope o := by first | exact Or.inl rfl | exact Or.inr rfl) (hf3 : B.X.fn o = true ∨ B.X.env.scope.names.lookup o = some .local := by first | exact .inl rfl | exact .inr rfl)
    (hs : (assignEach [.Name n p1, .Name m p2, .Name o p3] B.X.env).map (·.2) = assign (.Name n p1) B.X.env :: (assignEach [.Name m p2, .Name o p3] B.X.env).map (·.2) := by rfl) (hs2 : (assignEach [.Name m p2, .Name o p3] B.X.env).map (·.2) = assign (.Name m p2) B.X.env :: (assignEach [.Name o p3] B.X.env).map (·.2) := by rfl)
    (hs3 : (assignEach [.Name o p3] B.X.env).map (·.2) = assign (.Name o p3) B.X.env :: (assignEach [] B.X.env).map (·.2) := by rfl)
    (hn : (assignEach [.Name n p1, .Name m p2, .Name o p3] B.X.env).length = 3 := by rfl) (hst : (assignEach [.Name n p1, .Name m p2, .Name o p3] B.X.env).findIdx? (·.1) = none := by rfl) : TgN B (.Tuple [.Name n p1, .Name m p2, .Name o p3] kk tp) (.tup [d, e, f]) [i, j, k] [d, e, f] :=
  tg_tup [i, j, k] (pgs_cons (pg_name B.nd hN hx hf) (pgs_cons (pg_name B.nd hN2 hx2 hf2) (pgs_cons (pg_name B.nd hN3 hx3 hf3) pgs_nil hs3) hs2) hs) rfl hn hst hh
end Sd

set_option exponentiation.threshold 256
set_option Elab.async false
set_option linter.all false
set_option maxRecDepth 100000
set_option maxHeartbeats 4000000
namespace Sd
open PySem PySem.Spec PyProof.Rows L2
/-! ## Objects made: their fields as they stand -/
def spI (C : Addr) (names : List Str) : Sp := fun vs H Q E => ∃ (a dx : Addr) (ws : List V), vs = .ref a :: ws ∧ ws.length = names.length ∧ H a = some (.ins C dx []) ∧ ∀ H', (∀ b, b ≠ a → H' b = H b) → H' a = some (.ins C dx (names.zip ws)) → Q .non H'
def F_init (names : List Str) : MS := fun gs ds gs' r => gs = [] ∧ ds.length = names.length ∧ gs' = names.zip ds ∧ r = .ret .non
theorem rpF_zip {K : PySem.W.Frag} {W : Addr → Prop} {H : Hp} : ∀ {names : List Str} {vs : List V} {ds : List D}, RpL K W H vs ds → RpF K W H (names.zip vs) (names.zip ds)
  | [], _, _, _ => .nil
  | n :: ns, _, _, .nil => .nil
  | n :: ns, _, _, .cons h r => .cons h (rpF_zip r)
theorem spI_spM {K : PySem.W.Frag} {C : Addr} {names : List Str} {vs : List V} {H : Hp} {Q : VK} {E : XK} (h : spM K C (F_init names) vs H Q E) : spI C names vs H Q E := by
  obtain ⟨W, r, dx, fs, gs, ws, ds, gs', res, rfl, wr, hr, wd, hf, hw, ⟨rfl, hl, rfl, rfl⟩, k⟩ := h
  cases hf
  refine ⟨r, dx, ws, rfl, hw.length.trans hl, hr, fun H' k1 k2 => k .non H' ⟨fun b o nb e => by rw [k1 b nb]; exact e, dx, _, k2, ?_⟩ .non⟩
  refine rpF_zip (RpL.keep ⟨fun b o nb e => ?_, fun _ z => .inl z⟩ hw)
  rw [k1 b (fun z => nb (z ▸ wr))]
  exact e
section
variable {X : Cx} {C : Addr} {f1 f2 f3 x1 x2 x3 : Str} {p5 p6 p7 p8 q5 q6 q7 q8 r5 r6 r7 r8 : Pos}
theorem init2 (cl : Cls X.K C) (n1 : NoAttr X.K C f1) (n2 : NoAttr X.K C f2) (hne : f1 ≠ f2) (h0 : PE X (.Name "self" p5) (tVar 0)) (h1 : PE X (.Name x1 p7) (tVar 1)) (h0q : PE X (.Name "self" q5) (tVar 0)) (h2 : PE X (.Name x2 q7) (tVar 2))
    (hs2 : swapsWith (.Name x1 p7) (some (.Attribute (.Name "self" p5) f1 p6)) p8.line X.env = pure false := by rfl) (hs3 : swapsWith (.Name x2 q7) (some (.Attribute (.Name "self" q5) f2 q6)) q8.line X.env = pure false := by rfl)
    {σ : L2.St} {H : Hp} {vs : List V} {Q : VK} {E : XK} (hq : spI C [f1, f2] vs H Q E) (hσ : ∀ (i : Nat) (v : V), vs[i]? = some v → σ[i]? = some (some v)) :
    ∃ t : TS, PSs X [.Assign [.Attribute (.Name "self" p5) f1 p6] (.Name x1 p7) p8, .Assign [.Attribute (.Name "self" q5) f2 q6] (.Name x2 q7) q8] t ∧ t { nx := fun _ H' => Q .non H', rt := Q } σ H := by
  refine ⟨_, pss_cons (ps_fld h0 h1 hs2) (pss_one (ps_fld h0q h2 hs3)), ?_⟩
  obtain ⟨a, dx, ws, rfl, hl, ha, k⟩ := hq
  match ws, hl with
  | [v1, v2], _ =>
    have s0 := hσ 0 (.ref a) rfl
    have s1 := hσ 1 v1 rfl
    have s2 := hσ 2 v2 rfl
    have e : putF f2 v2 (putF f1 v1 []) = [(f1, v1), (f2, v2)] := by simp [putF, hne]
    refine ⟨v1, s1, .ref a, s0, a, C, dx, [], rfl, ha, cl, n1, by simp, v2, s2, .ref a, s0, a, C, dx, _, rfl, upd_same, cl, n2, by simp [putF], k _ (fun b nb => ?_) ?_⟩
    · rw [upd_ne nb, upd_ne nb]
    · rw [upd_same, e]
      rfl
theorem init3 (cl : Cls X.K C) (n1 : NoAttr X.K C f1) (n2 : NoAttr X.K C f2) (n3 : NoAttr X.K C f3) (h12 : f1 ≠ f2) (h13 : f1 ≠ f3) (h23 : f2 ≠ f3) (h0 : PE X (.Name "self" p5) (tVar 0)) (h1 : PE X (.Name x1 p7) (tVar 1)) (h0q : PE X (.Name "self" q5) (tVar 0)) (h2 : PE X (.Name x2 q7) (tVar 2)) (h0r : PE X (.Name "self" r5) (tVar 0)) (h3 : PE X (.Name x3 r7) (tVar 3))
    (hs2 : swapsWith (.Name x1 p7) (some (.Attribute (.Name "self" p5) f1 p6)) p8.line X.env = pure false := by rfl) (hs3 : swapsWith (.Name x2 q7) (some (.Attribute (.Name "self" q5) f2 q6)) q8.line X.env = pure false := by rfl) (hs4 : swapsWith (.Name x3 r7) (some (.Attribute (.Name "self" r5) f3 r6)) r8.line X.env = pure false := by rfl)
    {σ : L2.St} {H : Hp} {vs : List V} {Q : VK} {E : XK} (hq : spI C [f1, f2, f3] vs H Q E) (hσ : ∀ (i : Nat) (v : V), vs[i]? = some v → σ[i]? = some (some v)) :
    ∃ t : TS, PSs X [.Assign [.Attribute (.Name "self" p5) f1 p6] (.Name x1 p7) p8, .Assign [.Attribute (.Name "self" q5) f2 q6] (.Name x2 q7) q8, .Assign [.Attribute (.Name "self" r5) f3 r6] (.Name x3 r7) r8] t ∧ t { nx := fun _ H' => Q .non H', rt := Q } σ H := by
  refine ⟨_, pss_cons (ps_fld h0 h1 hs2) (pss_cons (ps_fld h0q h2 hs3) (pss_one (ps_fld h0r h3 hs4))), ?_⟩
  obtain ⟨a, dx, ws, rfl, hl, ha, k⟩ := hq
  match ws, hl with
  | [v1, v2, v3], _ =>
    have s0 := hσ 0 (.ref a) rfl
    have s1 := hσ 1 v1 rfl
    have s2 := hσ 2 v2 rfl
    have s3 := hσ 3 v3 rfl
    have e : putF f3 v3 (putF f2 v2 (putF f1 v1 [])) = [(f1, v1), (f2, v2), (f3, v3)] := by simp [putF, h12, h13, h23]
    refine ⟨v1, s1, .ref a, s0, a, C, dx, [], rfl, ha, cl, n1, by simp, v2, s2, .ref a, s0, a, C, dx, _, rfl, upd_same, cl, n2, by simp [putF], v3, s3, .ref a, s0, a, C, dx, _, rfl, upd_same, cl, n3, by simp [putF, h12], k _ (fun b nb => ?_) ?_⟩
    · rw [upd_ne nb, upd_ne nb, upd_ne nb]
    · rw [upd_same, e]
      rfl
end
/-! ## A thing of many places, one's own -/
abbrev Gh := PySem.W.Frag → (Addr → Prop) → Hp → V → List Addr → Prop
section
variable {K : PySem.W.Frag} {F : Frame} {W : Addr → Prop} {H H' : Hp} {σ : L2.St} {Γ : Env} {T : List Tm}
theorem Gd.chgG {i : Nat} {I I' : Gh} {v : V} {fp fp' : List Addr} (g : Gd K F W H σ Γ T) (hi : Γ[i]? = some (some (.g I))) (hσ : σ[i]? = some (some v)) (hm : MonoG I') (own : ∀ a ∈ fp, W a ∧ (F.R a ∨ F.H0 a = none)) (keep : ∀ b o, b ∉ fp → H b = some o → H' b = some o)
    (hI' : I' K (fun a => W a ∨ a ∈ fp') H' v fp') (new : ∀ a ∈ fp', a ∈ fp ∨ H a = none) (there : ∀ a, a ∈ fp ∨ a ∈ fp' → H' a ≠ none) : Gd K F (fun a => W a ∨ a ∈ fp') H' σ (Γ.set i (some (.g I'))) T := by
  have kp : Kp W (fun a => W a ∨ a ∈ fp') H H' := ⟨fun b o nb e => keep b o (fun z => nb (own b z).1) e, fun a z => z.elim .inl fun z => (new a z).elim (fun q => .inl (own a q).1) .inr⟩
  have hl : i < Γ.length := (List.getElem?_eq_some_iff.mp hi).1
  have far : ∀ (j : Nat) (sj : Sl), (Γ.set i (some (Sl.g I')))[j]? = some (some sj) → i ≠ j → ¬ sj.own := fun j sj e ne o => by
    rw [List.getElem?_set_ne ne] at e
    exact ne (g.only i j I sj hi e o)
  refine ⟨fun j t e => ?_, fun j l sj sl e1 e2 o1 o2 ne => ?_, fun b wb z => ?_, fun a z => .inl (g.sub a z), g.dom0, g.rsub, fun b o nb e => ?_, fun p hp => ?_, by rw [List.length_set]; exact g.len, fun m j J sj e1 e2 oj => ?_⟩
  · by_cases hj : i = j
    · subst hj
      rw [List.getElem?_set_self hl] at e
      cases e
      refine ⟨v, hσ, hm, fp', hI', fun a ha => ⟨.inr ha, ?_⟩⟩
      rcases new a ha with q | q
      · exact (own a q).2
      · exact .inr (g.fresh0 q)
    · have no := far j t e hj
      rw [List.getElem?_set_ne hj] at e
      obtain ⟨u, e1, e2⟩ := g.slot j t e
      refine ⟨u, e1, ?_⟩
      cases t with
      | im d => exact Rp.keep kp e2
      | xc b d gs =>
        obtain ⟨e, fs, q, w, r⟩ := e2
        exact ⟨e, fs, kp.keep _ _ w q, kp.out w (by rw [q]; exact fun z => nomatch z), RpF.keep kp r⟩
      | ow ds => exact absurd trivial no
      | mu r C gs => exact absurd trivial no
      | g J => exact absurd trivial no
  · by_cases h1 : i = j
    · exact absurd o2 (far l sl e2 (fun z => ne (h1.symm.trans z)))
    · exact absurd o1 (far j sj e1 h1)
  · by_cases hb : b ∈ fp ∨ b ∈ fp'
    · exact there b hb z
    · rcases wb with wb | wb
      · cases q : H b with
        | none => exact g.dom b wb q
        | some o =>
          rw [keep b o (fun y => hb (.inl y)) q] at z
          cases z
      · exact hb (.inr wb)
  · refine keep b o (fun z => ?_) (g.keep b o nb e)
    rcases (own b z).2 with r | r
    · exact nb r
    · rw [r] at e; cases e
  · exact (g.tmp p hp).keep kp
  · by_cases h1 : i = m
    · by_cases h2 : i = j
      · exact h1.symm.trans h2
      · exact absurd oj (far j sj e2 h2)
    · exact absurd trivial (far m (.g J) e1 h1)
end
/-- what is looked at as data -/
def ViewG (I : Gh) (d : D) : Prop := ∀ K W H v fp, I K W H v fp → Rp K (fun a => W a ∧ a ∉ fp) H v d
def Bx.frame (B : Bx) (F : Frame) : Bx := { B with F := F }
section
variable {B : Bx} {e : Expr} {Γ : Env} {d x : D} {rest : List Stmt} {P : Post}
/-- data that need no heap -/
def bare : D → Bool
  | .non => true
  | .bl _ => true
  | .int _ => true
  | .str _ => true
  | _ => false
theorem bare_any {K : PySem.W.Frag} {W W' : Addr → Prop} {H H' : Hp} {v : V} (hb : bare x = true) (h : Rp K W H v x) : Rp K W' H' v x := by
  cases h with
  | non => exact .non
  | bl b => exact .bl b
  | int i => exact .int i
  | str s => exact .str s
  | _ => cases hb
/-- the slots, the thing seen as data -/
theorem view_ok {K : PySem.W.Frag} {F : Frame} {W : Addr → Prop} {H : Hp} {σ : L2.St} {T : List Tm} {i : Nat} {I : Gh} (g : Gd K F W H σ Γ T) (hi : Γ[i]? = some (some (.g I))) (hv : ViewG I d) :
    ∃ W' : Addr → Prop, (∀ a, W' a → H a ≠ none) ∧ Sta K ⟨W', H, fun _ => False⟩ H σ (Γ.set i (some (.im d))) [] ∧ ∃ fp : List Addr, (∀ a, W' a ↔ W a ∧ a ∉ fp) ∧ ∀ a ∈ fp, W a ∧ (F.R a ∨ F.H0 a = none) := by
  obtain ⟨v, hσ, hm, fp, hI, own⟩ := g.slot i _ hi
  have hl : i < Γ.length := (List.getElem?_eq_some_iff.mp hi).1
  have kp : Kp W (fun a => W a ∧ a ∉ fp) H H := ⟨fun _ _ _ e => e, fun a z => .inl z.1⟩
  have wd : ∀ a, (W a ∧ a ∉ fp) → H a ≠ none := fun a z => g.dom a z.1
  have far : ∀ (j : Nat) (sj : Sl), (Γ.set i (some (Sl.im d)))[j]? = some (some sj) → ¬ sj.own := fun j sj e o => by
    by_cases hj : i = j
    · subst hj
      rw [List.getElem?_set_self hl] at e
      cases e
      exact o
    · rw [List.getElem?_set_ne hj] at e
      exact hj (g.only i j I sj hi e o)
  refine ⟨fun a => W a ∧ a ∉ fp, wd, ⟨fun a => W a ∧ a ∉ fp, fun j t e => ?_, fun j l sj sl e1 _ o1 _ _ => absurd o1 (far j sj e1), wd, fun _ z => z, wd, fun _ z => z.elim, fun _ _ _ e => e, fun p hp => absurd hp (by simp), by rw [List.length_set]; exact g.len, fun m j J sj e1 _ _ => absurd trivial (far m (.g J) e1)⟩, fp, fun a => Iff.rfl, own⟩
  have no := far j t e
  by_cases hj : i = j
  · subst hj
    rw [List.getElem?_set_self hl] at e
    cases e
    exact ⟨v, hσ, hv _ _ _ _ _ hI⟩
  · rw [List.getElem?_set_ne hj] at e
    obtain ⟨u, e1, e2⟩ := g.slot j t e
    refine ⟨u, e1, ?_⟩
    cases t with
    | im d => exact Rp.keep kp e2
    | xc b d gs =>
      obtain ⟨e, fs, q, w, r⟩ := e2
      exact ⟨e, fs, q, fun z => w z.1, RpF.keep kp r⟩
    | ow ds => exact absurd trivial no
    | mu r C gs => exact absurd trivial no
    | g J => exact absurd trivial no
theorem de_view (i : Nat) {I : Gh} (hi : Γ[i]? = some (some (.g I))) (hv : ViewG I d) (hb : bare x = true) (h : ∀ F, DE (B.frame F) e (Γ.set i (some (.im d))) x) : DE B e Γ x := de_of fun T σ H Q s q => by
  obtain ⟨W, g⟩ := s
  obtain ⟨W', _, s', _⟩ := view_ok g hi hv
  refine (h ⟨W', H, fun _ => False⟩).run s' fun v H1 s1 => ?_
  obtain ⟨W1, g1⟩ := s1
  exact q v H1 ((g.grow fun b o e => g1.keep b o (fun z => z) e).with (bare_any hb g1.top))
theorem td_view (i : Nat) {I : Gh} {k : Bool} (hi : Γ[i]? = some (some (.g I))) (hv : ViewG I d) (h : ∀ F, TD (B.frame F) e (Γ.set i (some (.im d))) k) : TD B e Γ k := td_of fun T σ H Q s q => by
  obtain ⟨W, g⟩ := s
  obtain ⟨W', _, s', _⟩ := view_ok g hi hv
  refine (h ⟨W', H, fun _ => False⟩).run s' fun H1 s1 => ?_
  obtain ⟨W1, g1⟩ := s1
  exact q H1 ⟨W, g.grow fun b o e => g1.keep b o (fun z => z) e⟩
/-- from now on it is data -/
theorem ss_gfreeze (i : Nat) {I : Gh} (hi : Γ[i]? = some (some (.g I))) (hv : ViewG I d) (hR : ∀ a, ¬ B.F.R a) (h : SsW B rest (Γ.set i (some (.im d))) P) : SsW B rest Γ P := fun T σ H D s r => by
  obtain ⟨W, g⟩ := s
  obtain ⟨W', wd, ⟨W2, g2⟩, fp, hw, own⟩ := view_ok g hi hv
  have s2 : ∀ a, W2 a → H a ≠ none := g2.dom
  have kp : Kp W W' H H := ⟨fun _ _ _ e => e, fun a z => .inl ((hw a).mp z).1⟩
  have kp2 : Kp W2 W' H H := ⟨fun _ _ _ e => e, fun a z => .inl (g2.sub a z)⟩
  refine h T σ H D ⟨W', fun j t e => ?_, g2.sep, wd, fun a z => ?_, g.dom0, fun a z => absurd z (hR a), g.keep, fun p hp => (g.tmp p hp).keep kp, g2.len, g2.only⟩ r
  · obtain ⟨u, e1, e2⟩ := g2.slot j t e
    refine ⟨u, e1, ?_⟩
    have hl : i < Γ.length := (List.getElem?_eq_some_iff.mp hi).1
    cases t with
    | im d => exact Rp.keep kp2 e2
    | xc b d gs =>
      obtain ⟨e, fs, q, w, r⟩ := e2
      exact ⟨e, fs, q, fun z => w (g2.sub _ z), RpF.keep kp2 r⟩
    | ow ds =>
      exfalso
      by_cases hj : i = j
      · subst hj
        rw [List.getElem?_set_self hl] at e
        cases e
      · rw [List.getElem?_set_ne hj] at e
        exact hj (g.only i j I _ hi e trivial)
    | mu r C gs =>
      exfalso
      by_cases hj : i = j
      · subst hj
        rw [List.getElem?_set_self hl] at e
        cases e
      · rw [List.getElem?_set_ne hj] at e
        exact hj (g.only i j I _ hi e trivial)
    | g J =>
      exfalso
      by_cases hj : i = j
      · subst hj
        rw [List.getElem?_set_self hl] at e
        cases e
      · rw [List.getElem?_set_ne hj] at e
        exact hj (g.only i j I _ hi e trivial)
  · refine (hw a).mpr ⟨g.sub a z, fun q => ?_⟩
    rcases (own a q).2 with r | r
    · exact hR a r
    · exact g.dom0 a z r
end
end Sd

set_option exponentiation.threshold 256
set_option Elab.async false
set_option linter.all false
set_option maxRecDepth 100000
set_option maxHeartbeats 4000000
namespace Sd
open PySem PySem.Spec PyProof.Rows L2
/-! ## Lines: pieces, each with a row of corners that grows; seams; whether it is over -/
structure RS where
  ps : List (D × D × List D)
  ss : List D
  ov : Bool
def pcD (Cp : Addr) (p : D × D × List D) : D := .obj Cp [("name", p.1), ("grain", p.2.1), ("corners", .lst p.2.2)]
def rsD (Cl Cp : Addr) (s : RS) : D := .obj Cl [("pieces", .lst (s.ps.map (pcD Cp))), ("seams", .lst s.ss), ("is_over", .bl s.ov)]
inductive PcL (K : PySem.W.Frag) (W : Addr → Prop) (H : Hp) (Cp : Addr) : List V → List (D × D × List D) → List Addr → Prop
  | nil : PcL K W H Cp [] [] []
  | cons {a c dx : Addr} {n g : V} {cs : List V} {dn dg : D} {dcs : List D} {xs : List V} {ps : List (D × D × List D)} {fq : List Addr} : H a = some (.ins Cp dx [("name", n), ("grain", g), ("corners", .ref c)]) → H c = some (.lst cs) → Rp K W H n dn → Rp K W H g dg → RpL K W H cs dcs →
      PcL K W H Cp xs ps fq → PcL K W H Cp (.ref a :: xs) ((dn, dg, dcs) :: ps) (a :: c :: fq)
def LinG (Cl Cp r : Addr) (s : RS) : Gh := fun K W H v fp => ∃ (dx lp ls : Addr) (xs ys : List V) (fq : List Addr), v = .ref r ∧ H r = some (.ins Cl dx [("pieces", .ref lp), ("seams", .ref ls), ("is_over", .bl s.ov)]) ∧ H lp = some (.lst xs) ∧ H ls = some (.lst ys) ∧ RpL K W H ys s.ss ∧
  PcL K W H Cp xs s.ps fq ∧ fp = r :: lp :: ls :: fq ∧ fp.Nodup
theorem PcL.keep {K : PySem.W.Frag} {W W' : Addr → Prop} {H H' : Hp} {Cp : Addr} (k : Kp W W' H H') : ∀ {xs : List V} {ps : List (D × D × List D)} {fq : List Addr}, (∀ a ∈ fq, ∀ o, H a = some o → H' a = some o) → PcL K W H Cp xs ps fq → PcL K W' H' Cp xs ps fq
  | _, _, _, _, .nil => .nil
  | _, _, _, h, .cons h1 h2 h3 h4 h5 r => .cons (h _ List.mem_cons_self _ h1) (h _ (List.mem_cons_of_mem _ List.mem_cons_self) _ h2) (Rp.keep k h3) (Rp.keep k h4) (RpL.keep k h5) (PcL.keep k (fun a ha => h a (List.mem_cons_of_mem _ (List.mem_cons_of_mem _ ha))) r)
theorem lin_mono {Cl Cp r : Addr} {s : RS} : MonoG (LinG Cl Cp r s) := fun K W W' H H' v fp k hk ⟨dx, lp, ls, xs, ys, fq, e, h1, h2, h3, h4, h5, ef, nd⟩ => by
  subst ef
  exact ⟨dx, lp, ls, xs, ys, fq, e, hk _ (by simp) _ h1, hk _ (by simp) _ h2, hk _ (by simp) _ h3, RpL.keep k h4, PcL.keep k (fun a ha => hk a (by simp [ha])) h5, rfl, nd⟩
theorem pc_view {K : PySem.W.Frag} {W : Addr → Prop} {H : Hp} {Cp : Addr} {fp : List Addr} : ∀ {xs : List V} {ps : List (D × D × List D)} {fq : List Addr}, (∀ a ∈ fq, a ∈ fp) → PcL K W H Cp xs ps fq → RpL K (fun a => W a ∧ a ∉ fp) H xs (ps.map (pcD Cp))
  | _, _, _, _, .nil => .nil
  | _, _, _, h, .cons h1 h2 h3 h4 h5 r =>
    have kp : Kp W (fun a => W a ∧ a ∉ fp) H H := ⟨fun _ _ _ e => e, fun a z => .inl z.1⟩
    .cons (.obj h1 (fun z => z.2 (h _ List.mem_cons_self)) (.cons (Rp.keep kp h3) (.cons (Rp.keep kp h4) (.cons (.lst h2 (fun z => z.2 (h _ (List.mem_cons_of_mem _ List.mem_cons_self))) (RpL.keep kp h5)) .nil))))
      (pc_view (fun a ha => h a (List.mem_cons_of_mem _ (List.mem_cons_of_mem _ ha))) r)
theorem lin_view {Cl Cp r : Addr} {s : RS} : ViewG (LinG Cl Cp r s) (rsD Cl Cp s) := fun K W H v fp ⟨dx, lp, ls, xs, ys, fq, e, h1, h2, h3, h4, h5, ef, nd⟩ => by
  subst e
  have kp : Kp W (fun a => W a ∧ a ∉ fp) H H := ⟨fun _ _ _ e => e, fun a z => .inl z.1⟩
  have m : ∀ a, a = r ∨ a = lp ∨ a = ls → a ∈ fp := fun a ha => by rw [ef]; rcases ha with rfl | rfl | rfl <;> simp
  exact .obj h1 (fun z => z.2 (m _ (.inl rfl))) (.cons (.lst h2 (fun z => z.2 (m _ (.inr (.inl rfl)))) (pc_view (fun a ha => by rw [ef]; simp [ha]) h5)) (.cons (.lst h3 (fun z => z.2 (m _ (.inr (.inr rfl)))) (RpL.keep kp h4)) (.cons (.bl _) .nil)))
theorem PcL.snoc {K : PySem.W.Frag} {W : Addr → Prop} {H : Hp} {Cp a c dx : Addr} {n g : V} {cs : List V} {dn dg : D} {dcs : List D} (h1 : H a = some (.ins Cp dx [("name", n), ("grain", g), ("corners", .ref c)])) (h2 : H c = some (.lst cs)) (h3 : Rp K W H n dn) (h4 : Rp K W H g dg) (h5 : RpL K W H cs dcs) :
    ∀ {xs : List V} {ps : List (D × D × List D)} {fq : List Addr}, PcL K W H Cp xs ps fq → PcL K W H Cp (xs ++ [.ref a]) (ps ++ [(dn, dg, dcs)]) (fq ++ [a, c])
  | _, _, _, .nil => .cons h1 h2 h3 h4 h5 .nil
  | _, _, _, .cons g1 g2 g3 g4 g5 r => .cons g1 g2 g3 g4 g5 (PcL.snoc h1 h2 h3 h4 h5 r)
theorem PcL.len {K : PySem.W.Frag} {W : Addr → Prop} {H : Hp} {Cp : Addr} : ∀ {xs : List V} {ps : List (D × D × List D)} {fq : List Addr}, PcL K W H Cp xs ps fq → xs.length = ps.length
  | _, _, _, .nil => rfl
  | _, _, _, .cons _ _ _ _ _ r => congrArg (· + 1) r.len
theorem PcL.mem {K : PySem.W.Frag} {W : Addr → Prop} {H : Hp} {Cp : Addr} : ∀ {xs : List V} {ps : List (D × D × List D)} {fq : List Addr}, PcL K W H Cp xs ps fq → ∀ a ∈ fq, H a ≠ none
  | _, _, _, .nil, a, ha => absurd ha (by simp)
  | _, _, _, .cons h1 h2 _ _ _ r, a, ha => by
    rcases List.mem_cons.mp ha with rfl | ha
    · rw [h1]; exact fun z => nomatch z
    · rcases List.mem_cons.mp ha with rfl | ha
      · rw [h2]; exact fun z => nomatch z
      · exact r.mem a ha
/-- the last piece gets a corner -/
def addC (d : D) : List (D × D × List D) → List (D × D × List D)
  | [] => []
  | [p] => [(p.1, p.2.1, p.2.2 ++ [d])]
  | p :: q :: r => p :: addC d (q :: r)
/-- the last piece's row -/
theorem PcL.last {K : PySem.W.Frag} {W : Addr → Prop} {H : Hp} {Cp : Addr} : ∀ {xs : List V} {ps : List (D × D × List D)} {fq : List Addr}, PcL K W H Cp xs ps fq → fq.Nodup → ps ≠ [] →
    ∃ (a c dx : Addr) (n g : V) (cs : List V) (dcs : List D), xs.getLast? = some (.ref a) ∧ H a = some (.ins Cp dx [("name", n), ("grain", g), ("corners", .ref c)]) ∧ H c = some (.lst cs) ∧ a ∈ fq ∧ c ∈ fq ∧ RpL K W H cs dcs ∧ (∃ p, ps.getLast? = some p ∧ p.2.2 = dcs) ∧
      ∀ (W' : Addr → Prop) (H' : Hp) (y : V) (d : D), Kp W W' H H' → (∀ b ∈ fq, b ≠ c → ∀ o, H b = some o → H' b = some o) → H' c = some (.lst (cs ++ [y])) → Rp K W' H' y d → PcL K W' H' Cp xs (addC d ps) fq
  | _, _, _, .nil, _, ne => absurd rfl ne
  | _, _, _, .cons (a := a) (c := c) (xs := xs) (ps := ps) (fq := fq) (dn := dn) (dg := dg) (dcs := dcs) (n := n) (g := g) (cs := cs) (dx := dx) h1 h2 h3 h4 h5 r, nd, _ => by
    have ndr : fq.Nodup := (List.nodup_cons.mp (List.nodup_cons.mp nd).2).2
    cases ps with
    | nil =>
      cases r with
      | nil =>
        refine ⟨a, c, dx, n, g, cs, dcs, rfl, h1, h2, by simp, by simp, h5, ⟨_, rfl, rfl⟩, fun W' H' y d k keep hc hy => ?_⟩
        have nac : a ≠ c := fun z => (List.nodup_cons.mp nd).1 (by rw [z]; simp)
        exact .cons (keep a (by simp) nac _ h1) hc (Rp.keep k h3) (Rp.keep k h4) ((RpL.keep k h5).append (.cons hy .nil)) .nil
    | cons p ps =>
      obtain ⟨a2, c2, dx2, n2, g2, cs2, dcs2, e1, e2, e3, e4, e5, e6, ⟨p2, e7, e8⟩, e9⟩ := PcL.last r ndr (by simp)
      refine ⟨a2, c2, dx2, n2, g2, cs2, dcs2, ?_, e2, e3, by simp [e4], by simp [e5], e6, ⟨p2, ?_, e8⟩, fun W' H' y d k keep hc hy => ?_⟩
      · cases xs with
        | nil => cases e1
        | cons x xs => exact e1
      · exact e7
      · have n1 : a ≠ c2 := fun z => (List.nodup_cons.mp nd).1 (by rw [z]; simp [e5])
        have n2' : c ≠ c2 := fun z => (List.nodup_cons.mp (List.nodup_cons.mp nd).2).1 (by rw [z]; exact e5)
        exact .cons (keep a (by simp) n1 _ h1) (keep c (by simp) n2' _ h2) (Rp.keep k h3) (Rp.keep k h4) (RpL.keep k h5) (e9 W' H' y d k (fun b hb nb o e => keep b (by simp [hb]) nb o e) hc hy)
/-! ### what the methods do with it -/
/-- a method that changes such a thing -/
abbrev GS (α : Type) := α → List D → α → Res → Prop
def spG {α : Type} (K : PySem.W.Frag) (L : α → Gh) (F : GS α) : Sp := fun vs H Q E => ∃ (W : Addr → Prop) (v : V) (ws : List V) (fp : List Addr) (a : α) (ds : List D) (a' : α) (res : Res), vs = v :: ws ∧ (∀ b, W b → H b ≠ none) ∧ L a K W H v fp ∧ (∀ b ∈ fp, W b) ∧ RpL K W H ws ds ∧ F a ds a' res ∧
  ResK K W (fun H' => (∀ b o, b ∉ fp → H b = some o → H' b = some o) ∧ ∃ fp', L a' K (fun b => W b ∨ b ∈ fp') H' v fp' ∧ (∀ b ∈ fp', b ∈ fp ∨ H b = none) ∧ ∀ b, b ∈ fp ∨ b ∈ fp' → H' b ≠ none) Q E res
def Mg {α : Type} (CX : CXT) (P : Program) (w : World) (K : PySem.W.Frag) (mg : Str → Option Value) (base : Heap) (C : Addr) (m : Str) (k : Nat) (L : α → Gh) (F : GS α) : Prop :=
  ∃ (f : Addr) (fd : FuncData) (ps : List Str), FnOk P w K mg base CX k f fd ps (spG K L F) ∧ Cls K C ∧ Meth K C m f ∧ Binds K fd ps []
def envG (N : List Str) (I : Gh) (ds : List D) : Env := some (.g I) :: (ds.map (fun d => some (.im d)) ++ List.replicate (N.length - (ds.length + 1)) none)
def postG {α : Type} (L : α → Gh) (a' : α) (r : Res) : Post where
  nx := fun Γ => r = .ret .non ∧ Γ[0]? = some (some (.g (L a')))
  rt := fun d Γ => r = .ret d ∧ Γ[0]? = some (some (.g (L a')))
  ex := fun E hs Γ => r = .exc E hs ∧ Γ[0]? = some (some (.g (L a')))
  bk := fun _ => False
  ct := fun _ => False
section
variable {P : Program} {w : World} {K : PySem.W.Frag} {mg : Str → Option Value} {base : Heap} {α : Type} {L : α → Gh}
theorem gm_intro {x qual : Str} {st : Stmt} {f : Addr} {fd : FuncData} {N ps : List Str} {k : Nat} {F : GS α} (Fu : Fun K x qual st f fd) (S : FnScope N ps (defScope st)) (hm : ∀ a, MonoG (L a)) (hlen : ∀ a ds a' r, F a ds a' r → ds.length + 1 = ps.length) (hv : ∀ a ds a' r K W H v fp W' H' u fp', F a ds a' r → L a K W H v fp → L a' K W' H' u fp' → u = v)
    (hb : ∀ (cd : Value) (A : Around) (outer : List PySem.Env) (s : Shared) (H : Hp) (E : XK) (W R : Addr → Prop) (room : Room k (A.deeper (envOfC qual (defScope st) s.heap.objs.size f cd))) (a : α) (ds : List D) (a' : α) (r : Res), F a ds a' r →
      SsW (bxN P w K mg base N qual (defScope st) f cd A outer s H E k W R room S.nd) (defBody st) (envG N (L a) ds) (postG L a' r)) : FnOk P w K mg base (L2N.CX P w) (k + 1) f fd ps (spG K L F) := by
  obtain ⟨oc, od, kV, doc, pm, an, cdv, ct, osl, rfl, lk, hcd⟩ := Fu.ex
  refine fn_of lk hcd S (fun vs H Q E h => ?_) fun A outer s H vs Q E room h => ?_
  · obtain ⟨W, v, ws, fp, a, ds, a', res, rfl, _, _, _, hr, hF, _⟩ := h
    rw [List.length_cons, hr.length]
    exact hlen a ds a' res hF
  · obtain ⟨W, v, ws, fp, a, ds, a', res, rfl, wd, hL, hfp, hr, hF, hres⟩ := h
    have lenN : ds.length + 1 ≤ N.length := by rw [hlen a ds a' res hF]; exact params_le S
    have get : ∀ {i : Nat} {s : Sl}, (envG N (L a) ds)[i]? = some (some s) → (i = 0 ∧ s = .g (L a)) ∨ ∃ d j, i = j + 1 ∧ s = .im d ∧ ds[j]? = some d := fun {i s} e => by
      cases i with
      | zero =>
        cases e
        exact .inl ⟨rfl, rfl⟩
      | succ j =>
        have e' : (ds.map (fun d => some (Sl.im d)) ++ List.replicate (N.length - (ds.length + 1)) none)[j]? = some (some s) := e
        by_cases hi : j < ds.length
        · rw [List.getElem?_append_left (by rw [List.length_map]; exact hi), List.getElem?_map, List.getElem?_eq_getElem hi] at e'
          cases e'
          exact .inr ⟨_, j, rfl, rfl, List.getElem?_eq_getElem hi⟩
        · rw [List.getElem?_append_right (by rw [List.length_map]; omega), List.getElem?_replicate] at e'
          split at e' <;> cases e'
    have st0 : Sta K ⟨W, H, fun b => b ∈ fp⟩ H (L2.start N (v :: ws)) (envG N (L a) ds) [] := by
      refine ⟨W, fun i s e => ?_, fun i j si sj e1 e2 o1 o2 ne => ?_, wd, fun _ z => z, wd, fun b z => hfp b z, fun _ _ _ e => e, fun p hp => absurd hp (by simp), ?_, fun k j I sj e1 e2 o => ?_⟩
      · rcases get e with ⟨rfl, rfl⟩ | ⟨d, j, rfl, rfl, hd⟩
        · exact ⟨v, start_get rfl, hm a, fp, hL, fun b hb => ⟨hfp b hb, .inl hb⟩⟩
        · obtain ⟨u, hu, h⟩ := hr.get hd
          exact ⟨u, start_get (by simpa using hu), h⟩
      · rcases get e1 with ⟨rfl, rfl⟩ | ⟨d, q, rfl, rfl, hd⟩
        · rcases get e2 with ⟨rfl, rfl⟩ | ⟨d, q, rfl, rfl, hd⟩
          · exact absurd rfl ne
          · exact o2.elim
        · exact o1.elim
      · rw [start_length (by rw [List.length_cons, hr.length]; exact lenN)]
        unfold envG
        rw [List.length_cons, List.length_append, List.length_map, List.length_replicate]
        omega
      · rcases get e1 with ⟨rfl, z⟩ | ⟨d, q, rfl, z, hd⟩
        · rcases get e2 with ⟨rfl, rfl⟩ | ⟨d, q, rfl, rfl, hd⟩
          · rfl
          · exact o.elim
        · cases z
    refine ⟨_, semSs, hb cdv A outer s H E W (fun b => b ∈ fp) room a ds a' res hF [] _ H _ st0 ?_⟩
    have fin : ∀ {σ : L2.St} {H' : Hp} {Γ : Env} {T : List Tm} {W' : Addr → Prop}, Gd K ⟨W, H, fun b => b ∈ fp⟩ W' H' σ Γ T → Γ[0]? = some (some (.g (L a'))) →
        (∀ b o, b ∉ fp → H b = some o → H' b = some o) ∧ ∃ fp', L a' K (fun b => W b ∨ b ∈ fp') H' v fp' ∧ (∀ b ∈ fp', b ∈ fp ∨ H b = none) ∧ ∀ b, b ∈ fp ∨ b ∈ fp' → H' b ≠ none := fun {σ H' Γ T W'} g e => by
      obtain ⟨u, hu, mo, fp', h1, h2⟩ := g.slot 0 _ e
      have eu := hv a ds a' res K W H v fp W' H' u fp' hF hL h1
      rw [eu] at h1
      refine ⟨fun b o nb eb => g.keep b o nb eb, fp', mo K W' (fun b => W b ∨ b ∈ fp') H' H' v fp' ⟨fun _ _ _ e => e, fun b z => z.elim (fun z => .inl (g.sub b z)) fun z => .inl (h2 b z).1⟩ (fun _ _ _ e => e) h1, fun b hb => (h2 b hb).2, fun b hb => ?_⟩
      rcases hb with hb | hb
      · exact g.dom b (g.sub b (hfp b hb))
      · exact g.dom b (h2 b hb).1
    refine ⟨fun σ H' Γ e s' => ?_, fun u d σ H' Γ e s' => ?_, fun σ C gs b H' Γ e s' => ?_, fun _ _ _ z => z.elim, fun _ _ _ z => z.elim⟩
    · obtain ⟨W', g⟩ := s'
      obtain ⟨e', e0⟩ : res = .ret .non ∧ _ := e
      subst e'
      exact hres .non H' (fin g e0) .non
    · obtain ⟨W', g⟩ := s'
      obtain ⟨e', e0⟩ : res = .ret d ∧ _ := e
      subst e'
      exact hres u H' (fin g e0) (Rp.keep (back_rp g.sub) g.top)
    · obtain ⟨W', g⟩ := s'
      obtain ⟨e', e0⟩ : res = .exc C gs ∧ _ := e
      subst e'
      obtain ⟨fs, ha, hw, hf⟩ := g.top
      exact hres b fs H' (fin g e0) ha (fun z => hw (g.sub b z)) (RpF.keep (back_rp g.sub) hf)
end
section
variable {B : Bx} {e o : Expr} {es : List Expr} {Γ : Env} {R : RE} {Xp : XP} {P : Post} {d : D} {ds : List D} {pos p p1 p2 p' apos : Pos} {k : Nat} {n m : Str} {C Cl Cp r : Addr} {α : Type} {L : α → Gh} {F : GS α}
/-- x.m(..), x such a thing -/
theorem ew_gmeth {pl : Sem Bool} (i : Nat) (G : Mg B.cx B.X.prog B.X.w B.X.K B.X.mg B.X.base C m k L F) (hm : ∀ a, MonoG (L a)) (hobj : ∀ a K W H v fp, L a K W H v fp → ∃ q dx fs, v = .ref q ∧ H q = some (.ins C dx fs) ∧ fs.lookup m = none)
    (hi : ∃ a, Γ[i]? = some (some (.g (L a)))) (h : AW B (e :: es) Γ (fun ds Γ1 => ∃ a a' d, Γ1[i]? = some (some (.g (L a))) ∧ F a ds a' (.ret d) ∧ bare d = true ∧ R d (Γ1.set i (some (.g (L a'))))) Xp) (hk : k ≤ B.k := by exact Nat.le_of_ble_eq_true rfl) (hh : B.hot = false := by rfl)
    (hN : B.X.N[i]? = some n := by rfl) (hv : Vis B.X.env.scope n := by first | exact Or.inl rfl | exact Or.inr (Or.inl rfl) | exact Or.inr (Or.inr rfl)) (hd : (n == ("__debug__" : Str)) = false := by decide) (hc : (n == ("__classdict__" : Str)) = false := by decide)
    (hst : starEach (e :: es) B.X.env = (false, eval e B.X.env) :: starEach es B.X.env := by rfl) (hpl : (backTo pos (starEach es B.X.env)).any (·.1) = false := by rfl)
    (ht : eval (.Call (.Attribute (.Name n p1) m apos) (e :: es) [] pos) B.X.env = (do
      let ov ← eval (.Name n p1) B.X.env
      standAt apos.atName
      let (f, first) ← holding [ov] (getMethod ov m pl)
      callWith pos f first (backTo pos (starEach (e :: es) B.X.env)) (backToKw pos (keywordEach [] B.X.env))) := by rfl) : EW B (.Call (.Attribute (.Name n p1) m apos) (e :: es) [] pos) Γ R Xp := fun T σ H Q s q x => by
  obtain ⟨f, fd, ps, ok, cl, hme, hb⟩ := G
  obtain ⟨a0, hi⟩ := hi
  obtain ⟨W1, g1⟩ := id s
  obtain ⟨v, hσ, mo, fp0, hL0, own0⟩ := g1.slot i _ hi
  obtain ⟨q0, dx0, fs0, rfl, ho0, hl0⟩ := hobj _ _ _ _ _ _ hL0
  refine SemE.of (pe_methW (pe_var hN hv hd hc) cl hme ok ((B.room hh).mono hk) hb B.pass semA hst hpl ht) ⟨.ref q0, hσ, q0, dx0, fs0, rfl, ho0, hl0, h T σ H _ s (fun vs ds H2 Γ2 ⟨a, a', d, hi2, hF, hbare, hr2⟩ hv s2 => ?_) x⟩
  obtain ⟨W, g⟩ := s2
  obtain ⟨v', hσ', mo', fp, hL, own⟩ := g.slot i _ hi2
  rw [hσ] at hσ'
  cases hσ'
  refine ⟨W, .ref q0, vs, fp, a, ds, a', .ret d, rfl, g.dom, hL, fun b hb => (own b hb).1, g.top, hF, ?_⟩
  intro u H' ⟨k1, fp', k2, k3, k4⟩ hu
  exact q u d H' _ hr2 ((g.chgG hi2 hσ (hm a') own k1 k2 k3 k4).tl.with (p := .v u d) (bare_any hbare hu))
end
end Sd

set_option exponentiation.threshold 256
set_option Elab.async false
set_option linter.all false
set_option maxRecDepth 100000
set_option maxHeartbeats 4000000
namespace Sd
open PySem PySem.Spec PyProof.Rows L2
theorem atI_last {α : Type} {xs : List α} {x : α} (e1 : xs.getLast? = some x) : atI xs (-1) = some x := by
  have hl : xs ≠ [] := fun z => by rw [z] at e1; cases e1
  have hp : 0 < xs.length := List.length_pos_iff.mpr hl
  rw [List.getLast?_eq_getElem?] at e1
  have h : ixN xs.length (-1) = some (xs.length - 1) := by
    unfold ixN
    have q1 : ((xs.length : Int) + -1).toNat = xs.length - 1 := by omega
    have q2 : (-1 : Int) < 0 := by omega
    have q3 : ¬ ((xs.length : Int) + -1 < 0) := by omega
    simp
    omega
  unfold atI
  rw [h]
  exact e1
section
variable {B : Bx} {e o e1 e2 e3 : Expr} {es : List Expr} {Γ : Env} {R : RE} {Xp : XP} {P : Post} {d : D} {ds : List D} {pos p p1 p2 p3 p4 p' apos cpos : Pos} {k : Nat} {n m : Str} {C Cl Cp r : Addr}
/-- x.is_over = e -/
theorem sw_gover (i : Nat) (h : EW B e Γ (fun d Γ1 => ∃ s k, Γ1[i]? = some (some (.g (LinG Cl Cp r s))) ∧ d = .bl k ∧ P.nx (Γ1.set i (some (.g (LinG Cl Cp r { s with ov := k }))))) P.ex) (cl : Cls B.X.K Cl) (na : NoAttr B.X.K Cl "is_over") (hN : B.X.N[i]? = some n := by rfl) (hv : Vis B.X.env.scope n := by first | exact Or.inl rfl | exact Or.inr (Or.inl rfl) | exact Or.inr (Or.inr rfl))
    (hd : (n == ("__debug__" : Str)) = false := by decide) (hc : (n == ("__classdict__" : Str)) = false := by decide) (hs : swapsWith e (some (.Attribute (.Name n p1) "is_over" p')) pos.line B.X.env = pure false := by rfl) : SW B (.Assign [.Attribute (.Name n p1) "is_over" p'] e pos) Γ P := fun T σ H D s r0 =>
  SemS.of (ps_fld (pe_var hN hv hd hc) semE hs) (h T σ H _ s (fun w d H1 Γ1 ⟨st, kk, hi1, ed, q⟩ s1 => by
    subst ed
    obtain ⟨W, g⟩ := s1
    cases rpBl g.top
    obtain ⟨v, hσ, mo, fp, hL, own⟩ := g.slot i _ hi1
    obtain ⟨dx, lp, ls, xs, ys, fq, rfl, h1, h2, h3, h4, h5, rfl, nd⟩ := hL
    have n1 : lp ≠ r := fun z => (List.nodup_cons.mp nd).1 (by rw [← z]; simp)
    have n2 : ls ≠ r := fun z => (List.nodup_cons.mp nd).1 (by rw [← z]; simp)
    have n3 : r ∉ fq := fun z => (List.nodup_cons.mp nd).1 (by simp [z])
    refine ⟨.ref r, hσ, r, Cl, dx, _, rfl, h1, cl, na, by simp, r0.nx σ _ _ q ?_⟩
    have e : putF "is_over" (V.bl kk) [("pieces", .ref lp), ("seams", .ref ls), ("is_over", .bl st.ov)] = [(("pieces" : Str), V.ref lp), ("seams", .ref ls), ("is_over", .bl kk)] := by rfl
    rw [e]
    have kp : Kp W (fun a => W a ∨ a ∈ r :: lp :: ls :: fq) H1 (upd H1 r (.ins Cl dx [("pieces", .ref lp), ("seams", .ref ls), ("is_over", .bl kk)])) := ⟨fun b u nb e => by
      rw [upd_ne (fun z => nb (by rw [z]; exact (own r (by simp)).1))]
      exact e, fun a z => z.elim .inl fun z => .inl (own a z).1⟩
    refine ⟨_, (g.tl).chgG hi1 hσ lin_mono own (fun b u nb e => by rw [upd_ne (fun z => nb (by simp [z]))]; exact e) ⟨dx, lp, ls, xs, ys, fq, rfl, upd_same, by rw [upd_ne n1]; exact h2, by rw [upd_ne n2]; exact h3, RpL.keep kp h4, PcL.keep kp (fun a ha o e => by rw [upd_ne (fun (z : a = r) => n3 (by rw [← z]; exact ha))]; exact e) h5, rfl, nd⟩ (fun a ha => .inl ha) (fun a ha => ?_)⟩
    have ha' : a ∈ r :: lp :: ls :: fq := ha.elim id id
    by_cases z : a = r
    · rw [z, upd_same]
      exact fun z => nomatch z
    · rw [upd_ne z]
      exact g.dom a (own a ha').1) (r0.ex σ))
/-- what is pure, from a state that is held -/
theorem snap {T : List Tm} {σ : L2.St} {H : Hp} {W : Addr → Prop} {Q : VK} (g : Gd B.X.K B.F W H σ Γ T) (he : ∀ F, DE (B.frame F) e (imE Γ) d) (q : ∀ v H1, Same H H1 → Rp B.X.K W H1 v d → Q v H1) : SemE B.X e σ H Q := by
  have s0 : (B.frame ⟨W, H, fun _ => False⟩).St H σ (imE Γ) [] := by
    refine ⟨W, fun j t e => ?_, fun j l sj sl e1 _ o1 _ _ => ?_, g.dom, fun _ z => z, g.dom, fun _ z => z.elim, fun _ _ _ e => e, fun p hp => absurd hp (by simp), (imE_length Γ).trans g.len, fun m j J sj e1 _ _ => ?_⟩
    · obtain ⟨d', rfl, e2⟩ := imE_get e
      exact g.slot j _ e2
    · obtain ⟨d', rfl, e2⟩ := imE_get e1
      exact o1.elim
    · obtain ⟨d', z, e2⟩ := imE_get e1
      cases z
  refine (he ⟨W, H, fun _ => False⟩).run s0 fun v H1 s1 => ?_
  obtain ⟨W1, g1⟩ := s1
  exact q v H1 (fun b o e => g1.keep b o (fun z => z) e) (Rp.keep ⟨fun _ _ _ e => e, fun a z => .inl (g1.sub a z)⟩ g1.top)
theorem nd3 {r lp ls : Addr} {fq : List Addr} (nd : (r :: lp :: ls :: fq).Nodup) : lp ≠ r ∧ ls ≠ r ∧ r ∉ fq ∧ ls ≠ lp ∧ lp ∉ fq ∧ ls ∉ fq := by
  have a := List.nodup_cons.mp nd
  have b := List.nodup_cons.mp a.2
  have c := List.nodup_cons.mp b.2
  simp only [List.mem_cons, not_or] at a b c
  exact ⟨fun z => a.1.1 z.symm, fun z => a.1.2.1 z.symm, a.1.2.2, fun z => b.1.1 z.symm, b.1.2, c.1⟩
/-- x.seams.append(e) -/
theorem sw_gseam {st : RS} (i : Nat) (hi : Γ[i]? = some (some (.g (LinG Cl Cp r st)))) (he : ∀ F, DE (B.frame F) e (imE Γ) d) (hlen : st.ss.length < 100000) (q : P.nx (Γ.set i (some (.g (LinG Cl Cp r { st with ss := st.ss ++ [d] }))))) (cl : Cls B.X.K Cl) (na : NoAttr B.X.K Cl "seams")
    (hN : B.X.N[i]? = some n := by rfl) (hv : Vis B.X.env.scope n := by first | exact Or.inl rfl | exact Or.inr (Or.inl rfl) | exact Or.inr (Or.inr rfl)) (hd : (n == ("__debug__" : Str)) = false := by decide) (hc : (n == ("__classdict__" : Str)) = false := by decide)
    (hb0 : attributeBase (.Name n p1) "seams" B.X.env (eval (.Name n p1) B.X.env) = eval (.Name n p1) B.X.env := by rfl) (hb : attributeBase (.Attribute (.Name n p1) "seams" p3) "append" B.X.env (eval (.Attribute (.Name n p1) "seams" p3) B.X.env) = eval (.Attribute (.Name n p1) "seams" p3) B.X.env := by rfl)
    (hfew : ((backTo pos (starEach [e] B.X.env)).all (fun x => !x.1) && (backToKw pos (keywordEach [] B.X.env)).all (fun x => x.1.isSome)
      && decide (([e] : List Expr).length + ([] : List Keyword).length + (if ([] : List Keyword).isEmpty then 0 else 1) < 30)) = true := by rfl)
    (hline : (apos.endLine == pos.line) = true := by rfl) (hse : starEach [e] B.X.env = (false, eval e B.X.env) :: starEach [] B.X.env := by rfl) (hpl : (backTo pos (starEach [] B.X.env)).any (·.1) = false := by rfl)
    (hs : swapsWith (.Call (.Attribute (.Attribute (.Name n p1) "seams" p3) "append" apos) [e] [] pos) none p2.line B.X.env = pure false := by rfl) : SW B (.Expr (.Call (.Attribute (.Attribute (.Name n p1) "seams" p3) "append" apos) [e] [] pos) p2) Γ P := fun T σ H D s r0 => by
  obtain ⟨W, g⟩ := s
  obtain ⟨v, hσ, mo, fp, hL, own⟩ := g.slot i _ hi
  obtain ⟨dx, lp, ls, xs, ys, fq, rfl, h1, h2, h3, h4, h5, rfl, nd⟩ := hL
  obtain ⟨n1, n2, n3, n4, n5, n6⟩ := nd3 nd
  refine SemS.of (ps_expr (pe_bm PySem.F.plainAttrs_list PySem.F.slot_list_append PySem.F.type_list_append mt_append (pe_fld (pe_var hN hv hd hc) hb0) (pa_cons semE pa_nil hse) hb hfew hline hse hpl) hs) ⟨.ref r, hσ, r, Cl, dx, _, .ref ls, rfl, h1, cl, na, by rfl, .inl ⟨rfl, _, SqL.of h3⟩, ?_⟩
  refine snap g he fun y H1 same hy => ⟨ls, ys, y, rfl, rfl, same _ _ h3, by rw [h4.length, sizeLine_eq]; omega, r0.nx σ _ _ q ?_⟩
  have g1 := g.grow same
  have kp : Kp W (fun a => W a ∨ a ∈ r :: lp :: ls :: fq) H1 (upd H1 ls (.lst (ys ++ [y]))) := ⟨fun b u nb e => by
    rw [upd_ne (fun z => nb (by rw [z]; exact (own ls (by simp)).1))]
    exact e, fun a z => z.elim .inl fun z => .inl (own a z).1⟩
  refine ⟨_, g1.chgG hi hσ lin_mono own (fun b u nb e => by rw [upd_ne (fun z => nb (by simp [z]))]; exact e) ⟨dx, lp, ls, xs, _, fq, rfl, by rw [upd_ne (Ne.symm n2)]; exact same _ _ h1, by rw [upd_ne (Ne.symm n4)]; exact same _ _ h2, upd_same,
    RpL.keep kp ((RpL.keep (Kp.same same) h4).append (.cons hy .nil)), PcL.keep ⟨fun b u nb e => kp.keep b u nb (same b u e), fun a z => z.elim .inl fun z => .inl (own a z).1⟩ (fun a ha o e => by rw [upd_ne (fun (z : a = ls) => n6 (by rw [← z]; exact ha))]; exact same _ _ e) h5, rfl, nd⟩ (fun a ha => .inl ha) (fun a ha => ?_)⟩
  have ha' : a ∈ r :: lp :: ls :: fq := ha.elim id id
  by_cases z : a = ls
  · rw [z, upd_same]
    exact fun z => nomatch z
  · rw [upd_ne z]
    exact g1.dom a (own a ha').1
theorem add_len {d : D} : ∀ ps : List (D × D × List D), (addC d ps).length = ps.length
  | [] => rfl
  | [p] => rfl
  | p :: q :: r => congrArg (· + 1) (add_len (q :: r))
/-- x.pieces[-1].corners.append(e) -/
theorem sw_gcorner {st : RS} {j : Nat} {p5 p6 p7 : Pos} (i : Nat) (hi : Γ[i]? = some (some (.g (LinG Cl Cp r st)))) (he : ∀ F, DE (B.frame F) e (imE Γ) d) (hne : st.ps ≠ []) (hlen : ∀ p, st.ps.getLast? = some p → p.2.2.length < 100000) (q : P.nx (Γ.set i (some (.g (LinG Cl Cp r { st with ps := addC d st.ps }))))) (cl : Cls B.X.K Cl) (na : NoAttr B.X.K Cl "pieces") (clP : Cls B.X.K Cp) (naP : NoAttr B.X.K Cp "corners")
    (hN : B.X.N[i]? = some n := by rfl) (hv : Vis B.X.env.scope n := by first | exact Or.inl rfl | exact Or.inr (Or.inl rfl) | exact Or.inr (Or.inr rfl)) (hd : (n == ("__debug__" : Str)) = false := by decide) (hc : (n == ("__classdict__" : Str)) = false := by decide)
    (hb0 : attributeBase (.Name n p1) "pieces" B.X.env (eval (.Name n p1) B.X.env) = eval (.Name n p1) B.X.env := by rfl)
    (hb1 : attributeBase (.Subscript (.Attribute (.Name n p1) "pieces" p3) (.UnaryOp .USub (.Constant (.int 1) j p5) p6) p7) "corners" B.X.env (eval (.Subscript (.Attribute (.Name n p1) "pieces" p3) (.UnaryOp .USub (.Constant (.int 1) j p5) p6) p7) B.X.env) = eval (.Subscript (.Attribute (.Name n p1) "pieces" p3) (.UnaryOp .USub (.Constant (.int 1) j p5) p6) p7) B.X.env := by rfl)
    (hb : attributeBase (.Attribute (.Subscript (.Attribute (.Name n p1) "pieces" p3) (.UnaryOp .USub (.Constant (.int 1) j p5) p6) p7) "corners" p4) "append" B.X.env (eval (.Attribute (.Subscript (.Attribute (.Name n p1) "pieces" p3) (.UnaryOp .USub (.Constant (.int 1) j p5) p6) p7) "corners" p4) B.X.env) = eval (.Attribute (.Subscript (.Attribute (.Name n p1) "pieces" p3) (.UnaryOp .USub (.Constant (.int 1) j p5) p6) p7) "corners" p4) B.X.env := by rfl)
    (hfew : ((backTo pos (starEach [e] B.X.env)).all (fun x => !x.1) && (backToKw pos (keywordEach [] B.X.env)).all (fun x => x.1.isSome)
      && decide (([e] : List Expr).length + ([] : List Keyword).length + (if ([] : List Keyword).isEmpty then 0 else 1) < 30)) = true := by rfl)
    (hline : (apos.endLine == pos.line) = true := by rfl) (hse : starEach [e] B.X.env = (false, eval e B.X.env) :: starEach [] B.X.env := by rfl) (hpl : (backTo pos (starEach [] B.X.env)).any (·.1) = false := by rfl)
    (hs : swapsWith (.Call (.Attribute (.Attribute (.Subscript (.Attribute (.Name n p1) "pieces" p3) (.UnaryOp .USub (.Constant (.int 1) j p5) p6) p7) "corners" p4) "append" apos) [e] [] pos) none p2.line B.X.env = pure false := by rfl) :
    SW B (.Expr (.Call (.Attribute (.Attribute (.Subscript (.Attribute (.Name n p1) "pieces" p3) (.UnaryOp .USub (.Constant (.int 1) j p5) p6) p7) "corners" p4) "append" apos) [e] [] pos) p2) Γ P := fun T σ H D s r0 => by
  obtain ⟨W, g⟩ := s
  obtain ⟨v, hσ, mo, fp, hL, own⟩ := g.slot i _ hi
  obtain ⟨dx, lp, ls, xs, ys, fq, rfl, h1, h2, h3, h4, h5, rfl, nd⟩ := hL
  obtain ⟨n1, n2, n3, n4, n5, n6⟩ := nd3 nd
  have ndq : fq.Nodup := (List.nodup_cons.mp (List.nodup_cons.mp (List.nodup_cons.mp nd).2).2).2
  obtain ⟨a, c, dx2, nm, gr, cs, dcs, e1, e2, e3, e4, e5, e6, ⟨pl, e7, e8⟩, e9⟩ := h5.last ndq hne
  have hat : atI xs (-1) = some (.ref a) := atI_last e1
  refine SemS.of (ps_expr (pe_bm PySem.F.plainAttrs_list PySem.F.slot_list_append PySem.F.type_list_append mt_append (pe_fld (pe_ix ix_list (pe_fld (pe_var hN hv hd hc) hb0) (pe_un un_neg pe_int) (by intro _ _; rfl)) hb1) (pa_cons semE pa_nil hse) hb hfew hline hse hpl) hs)
    ⟨.ref r, hσ, r, Cl, dx, _, .ref lp, rfl, h1, cl, na, by rfl, 1, rfl, lp, xs, -1, .ref a, rfl, rfl, SqL.of h2, hat, a, Cp, dx2, _, .ref c, rfl, e2, clP, naP, by rfl, .inl ⟨rfl, _, SqL.of e3⟩, ?_⟩
  refine snap g he fun y H1 same hy => ⟨c, cs, y, rfl, rfl, same _ _ e3, by rw [e6.length, ← e8, sizeLine_eq]; have := hlen pl e7; omega, r0.nx σ _ _ q ?_⟩
  have g1 := g.grow same
  have cW : W c := (own c (by simp [e5])).1
  have kp : Kp W (fun a => W a ∨ a ∈ r :: lp :: ls :: fq) H (upd H1 c (.lst (cs ++ [y]))) := ⟨fun b u nb e => by
    rw [upd_ne (fun z => nb (by rw [z]; exact cW))]
    exact same b u e, fun a z => z.elim .inl fun z => .inl (own a z).1⟩
  have kp1 : Kp W (fun a => W a ∨ a ∈ r :: lp :: ls :: fq) H1 (upd H1 c (.lst (cs ++ [y]))) := ⟨fun b u nb e => by
    rw [upd_ne (fun z => nb (by rw [z]; exact cW))]
    exact e, fun a z => z.elim .inl fun z => .inl (own a z).1⟩
  have c1 : r ≠ c := fun z => n3 (z ▸ e5)
  have c2 : lp ≠ c := fun z => n5 (z ▸ e5)
  have c3 : ls ≠ c := fun z => n6 (z ▸ e5)
  refine ⟨_, g1.chgG hi hσ lin_mono own (fun b u nb e => by rw [upd_ne (fun z => nb (by simp [z, e5]))]; exact e) ⟨dx, lp, ls, xs, ys, fq, rfl, by rw [upd_ne c1]; exact same _ _ h1, by rw [upd_ne c2]; exact same _ _ h2, by rw [upd_ne c3]; exact same _ _ h3,
    RpL.keep kp h4, e9 _ _ y d kp (fun b hb nb o e => by rw [upd_ne nb]; exact same b o e) upd_same (Rp.keep kp1 hy), rfl, nd⟩ (fun a ha => .inl ha) (fun a ha => ?_)⟩
  have ha' : a ∈ r :: lp :: ls :: fq := ha.elim id id
  by_cases z : a = c
  · rw [z, upd_same]
    exact fun z => nomatch z
  · rw [upd_ne z]
    exact g1.dom a (own a ha').1
/-- a class whose __init__ keeps its parameters -/
def Mx (CX : CXT) (P : Program) (w : World) (K : PySem.W.Frag) (mg : Str → Option Value) (base : Heap) (x : Str) (C : Addr) (k : Nat) (names : List Str) : Prop :=
  ∃ (f : Addr) (fd : FuncData) (ps : List Str), FnOk P w K mg base CX k f fd ps (spI C names) ∧ Mk K C f ∧ mg x = some (.ref C) ∧ Binds K fd ps []
theorem Mx.mi {CX : CXT} {P : Program} {w : World} {K : PySem.W.Frag} {mg : Str → Option Value} {base : Heap} {x : Str} {C : Addr} {k : Nat} {names : List Str} (h : Mx CX P w K mg base x C k names) : Mi CX P w K mg base x C k (F_init names) :=
  let ⟨f, fd, ps, ok, a, b, c⟩ := h; ⟨f, fd, ps, ok.imp fun vs H Q E h => spI_spM h, a, b, c⟩
/-- x.pieces.append(Piece(e1, e2, [])) -/
theorem sw_gpiece {st : RS} {y : Str} {py pm pl : Pos} {d1 d2 : D} (i : Nat) (G : Mx B.cx B.X.prog B.X.w B.X.K B.X.mg B.X.base y Cp k ["name", "grain", "corners"]) (hi : Γ[i]? = some (some (.g (LinG Cl Cp r st)))) (he1 : ∀ F, DE (B.frame F) e1 (imE Γ) d1) (he2 : ∀ F, DE (B.frame F) e2 (imE Γ) d2) (hlen : st.ps.length < 100000) (q : P.nx (Γ.set i (some (.g (LinG Cl Cp r { st with ps := st.ps ++ [(d1, d2, [])] })))))
    (cl : Cls B.X.K Cl) (na : NoAttr B.X.K Cl "pieces") (hk : k + 1 ≤ B.k := by exact Nat.le_of_ble_eq_true rfl) (hh : B.hot = false := by rfl) (hN : B.X.N[i]? = some n := by rfl) (hv : Vis B.X.env.scope n := by first | exact Or.inl rfl | exact Or.inr (Or.inl rfl) | exact Or.inr (Or.inr rfl)) (hd : (n == ("__debug__" : Str)) = false := by decide) (hc : (n == ("__classdict__" : Str)) = false := by decide)
    (hg : Gl B.X y := by rfl) (hdb : (y == ("__debug__" : Str)) = false := by decide)
    (hb0 : attributeBase (.Name n p1) "pieces" B.X.env (eval (.Name n p1) B.X.env) = eval (.Name n p1) B.X.env := by rfl) (hb : attributeBase (.Attribute (.Name n p1) "pieces" p3) "append" B.X.env (eval (.Attribute (.Name n p1) "pieces" p3) B.X.env) = eval (.Attribute (.Name n p1) "pieces" p3) B.X.env := by rfl)
    (hfew : ((backTo pos (starEach [Expr.Call (.Name y py) [e1, e2, .List [] pl] [] pm] B.X.env)).all (fun x => !x.1) && (backToKw pos (keywordEach [] B.X.env)).all (fun x => x.1.isSome)
      && decide (([Expr.Call (.Name y py) [e1, e2, .List [] pl] [] pm] : List Expr).length + ([] : List Keyword).length + (if ([] : List Keyword).isEmpty then 0 else 1) < 30)) = true := by rfl)
    (hline : (apos.endLine == pos.line) = true := by rfl) (hse : starEach [Expr.Call (.Name y py) [e1, e2, .List [] pl] [] pm] B.X.env = (false, eval (Expr.Call (.Name y py) [e1, e2, .List [] pl] [] pm) B.X.env) :: starEach [] B.X.env := by rfl) (hpl : (backTo pos (starEach [] B.X.env)).any (·.1) = false := by rfl)
    (hs1 : starEach [e1, e2, .List [] pl] B.X.env = (false, eval e1 B.X.env) :: starEach [e2, .List [] pl] B.X.env := by rfl) (hs2 : starEach [e2, .List [] pl] B.X.env = (false, eval e2 B.X.env) :: starEach [.List [] pl] B.X.env := by rfl) (hs3 : starEach [.List [] pl] B.X.env = (false, eval (.List [] pl) B.X.env) :: starEach [] B.X.env := by rfl)
    (hpm : (backTo pm (starEach [e2, .List [] pl] B.X.env)).any (·.1) = false := by rfl)
    (hs : swapsWith (.Call (.Attribute (.Attribute (.Name n p1) "pieces" p3) "append" apos) [Expr.Call (.Name y py) [e1, e2, .List [] pl] [] pm] [] pos) none p2.line B.X.env = pure false := by rfl) :
    SW B (.Expr (.Call (.Attribute (.Attribute (.Name n p1) "pieces" p3) "append" apos) [Expr.Call (.Name y py) [e1, e2, .List [] pl] [] pm] [] pos) p2) Γ P := fun T σ H D s r0 => by
  obtain ⟨W, g⟩ := s
  obtain ⟨v, hσ, mo, fp, hL, own⟩ := g.slot i _ hi
  obtain ⟨dx, lp, ls, xs, ys, fq, rfl, h1, h2, h3, h4, h5, rfl, nd⟩ := hL
  obtain ⟨n1, n2, n3, n4, n5, n6⟩ := nd3 nd
  obtain ⟨fI, fd, ps, ok, M1, hm, hbd⟩ := G
  refine SemS.of (ps_expr (pe_bm PySem.F.plainAttrs_list PySem.F.slot_list_append PySem.F.type_list_append mt_append (pe_fld (pe_var hN hv hd hc) hb0) (pa_cons (pe_make M1 ok ((B.room hh).mono hk) hg hm hbd .nil B.pass0 (pa_cons semE (pa_cons semE (pa_cons (pe_lst pa_nil) pa_nil hs3) hs2) hs1) hdb hs1 hpm) pa_nil hse) hb hfew hline hse hpl) hs)
    ⟨.ref r, hσ, r, Cl, dx, _, .ref lp, rfl, h1, cl, na, by rfl, .inl ⟨rfl, _, SqL.of h2⟩, ?_⟩
  refine snap g he1 fun y1 H1 same1 hy1 => snap (g.grow same1) he2 fun y2 H2 same2 hy2 => ⟨line1000 (by simp), fun p hp x dx2 hx hdx hne => ?_⟩
  have sm : Same H H2 := same1.trans same2
  have hx2 : H2 x = none := by
    cases z : H2 x with
    | none => rfl
    | some o => rw [same_new hp x o z] at hx; cases hx
  have hdx2 : H2 dx2 = none := by
    cases z : H2 dx2 with
    | none => rfl
    | some o => rw [same_new hp dx2 o z] at hdx; cases hdx
  have hxp : x ≠ p := fun z => by rw [z, upd_same] at hx; cases hx
  have hdp : dx2 ≠ p := fun z => by rw [z, upd_same] at hdx; cases hdx
  have none0 : ∀ a, H2 a = none → H a = none := fun a z => by
    cases y : H a with
    | none => rfl
    | some o => rw [sm a o y] at z; cases z
  refine ⟨x, dx2, [y1, y2, .ref p], rfl, rfl, upd_same, fun H' k1 k2 => ⟨rfl, ?_⟩⟩
  have kB : ∀ b o, H2 b = some o → H' b = some o := fun b o e => by
    rw [k1 b (fun z => by rw [z, hx2] at e; cases e), upd_ne (fun z => by rw [z, hx2] at e; cases e), upd_ne (fun z => by rw [z, hdx2] at e; cases e)]
    exact same_new hp b o e
  have kp' : H' p = some (.lst []) := by
    rw [k1 p (Ne.symm hxp), upd_ne (Ne.symm hxp), upd_ne (Ne.symm hdp), upd_same]
  have hlp : H' lp = some (.lst xs) := kB _ _ (sm _ _ h2)
  refine ⟨lp, xs, .ref x, rfl, rfl, hlp, by rw [h5.len, sizeLine_eq]; omega, r0.nx σ _ _ q ?_⟩
  have xlp : x ≠ lp := fun z => by rw [z, sm _ _ h2] at hx2; cases hx2
  have plp : p ≠ lp := fun z => by rw [z, sm _ _ h2] at hp; cases hp
  have K5 : ∀ b o, b ≠ lp → H b = some o → upd H' lp (.lst (xs ++ [.ref x])) b = some o := fun b o nb e => by
    rw [upd_ne nb]
    exact kB b o (sm b o e)
  have lW : W lp := (own lp (by simp)).1
  have kp : Kp W (fun a => W a ∨ a ∈ r :: lp :: ls :: (fq ++ [x, p])) H (upd H' lp (.lst (xs ++ [.ref x]))) := ⟨fun b u nb e => K5 b u (fun z => nb (by rw [z]; exact lW)) e, fun a z => z.elim .inl fun z => by
    simp only [List.mem_cons, List.mem_append, List.not_mem_nil, or_false] at z
    rcases z with z | z | z | z | z | z
    · exact .inl (own a (by simp [z])).1
    · exact .inl (own a (by simp [z])).1
    · exact .inl (own a (by simp [z])).1
    · exact .inl (own a (by simp [z])).1
    · exact .inr (z ▸ none0 x hx2)
    · exact .inr (z ▸ none0 p hp)⟩
  have k2' : ∀ {u : V} {d : Sd.D} {H0 : Hp}, (∀ b o, H b = some o → H0 b = some o) → (∀ b o, H0 b = some o → H2 b = some o) → Rp B.X.K W H0 u d → Rp B.X.K (fun a => W a ∨ a ∈ r :: lp :: ls :: (fq ++ [x, p])) (upd H' lp (.lst (xs ++ [.ref x]))) u d := fun {u d H0} s1 s2 h => by
    refine Rp.keep ⟨fun b o nb e => ?_, fun a z => z.elim .inl fun z => ?_⟩ h
    · rw [upd_ne (fun z => nb (by rw [z]; exact lW))]
      exact kB b o (s2 b o e)
    · simp only [List.mem_cons, List.mem_append, List.not_mem_nil, or_false] at z
      rcases z with z | z | z | z | z | z
      · exact .inl (own a (by simp [z])).1
      · exact .inl (own a (by simp [z])).1
      · exact .inl (own a (by simp [z])).1
      · exact .inl (own a (by simp [z])).1
      · refine .inr ?_
        cases y : H0 a with
        | none => rfl
        | some o => rw [z, ] at y; rw [s2 _ _ y] at hx2; cases hx2
      · refine .inr ?_
        cases y : H0 a with
        | none => rfl
        | some o => rw [z] at y; rw [s2 _ _ y] at hp; cases hp
  have fresh : ∀ a, H2 a = none → a ∉ r :: lp :: ls :: fq := fun a z m => by
    have := g.dom a (own a m).1
    exact this (none0 a z)
  have nd' : (r :: lp :: ls :: (fq ++ [x, p])).Nodup := by
    have e : r :: lp :: ls :: (fq ++ [x, p]) = (r :: lp :: ls :: fq) ++ [x, p] := by simp
    rw [e, List.nodup_append]
    refine ⟨nd, by simp [hxp], fun a ha b hb z => ?_⟩
    simp only [List.mem_cons, List.not_mem_nil, or_false] at hb
    subst z
    rcases hb with z | z
    · exact fresh x hx2 (z ▸ ha)
    · exact fresh p hp (z ▸ ha)
  refine ⟨_, g.chgG hi hσ lin_mono own (fun b u nb e => K5 b u (fun z => nb (by simp [z])) e) ⟨dx, lp, ls, xs ++ [.ref x], ys, fq ++ [x, p], rfl, K5 _ _ (Ne.symm n1) h1, upd_same, K5 _ _ n4 h3,
    RpL.keep kp h4, PcL.snoc (by rw [upd_ne xlp]; exact k2) (by rw [upd_ne plp]; exact kp') (k2' (fun b o e => same1 b o e) same2 hy1) (k2' sm (fun _ _ e => e) hy2) .nil (PcL.keep kp (fun a ha o e => K5 a o (fun z => n5 (z ▸ ha)) e) h5), rfl, nd'⟩ (fun a ha => ?_) (fun a ha => ?_)⟩
  · simp only [List.mem_cons, List.mem_append, List.not_mem_nil, or_false] at ha ⊢
    rcases ha with z | z | z | z | z | z
    · exact .inl (.inl z)
    · exact .inl (.inr (.inl z))
    · exact .inl (.inr (.inr (.inl z)))
    · exact .inl (.inr (.inr (.inr z)))
    · exact .inr (z ▸ none0 x hx2)
    · exact .inr (z ▸ none0 p hp)
  · by_cases z : a = lp
    · rw [z, upd_same]
      exact fun z => nomatch z
    · rw [upd_ne z]
      have old : a ∈ r :: lp :: ls :: fq → H' a ≠ none := fun m => by
        have := g.dom a (own a m).1
        cases y : H a with
        | none => exact absurd y this
        | some o => rw [kB a o (sm a o y)]; exact fun z => nomatch z
      rcases ha with m | m
      · exact old m
      · simp only [List.mem_cons, List.mem_append, List.not_mem_nil, or_false] at m
        rcases m with z | z | z | z | z | z
        · exact old (by simp [z])
        · exact old (by simp [z])
        · exact old (by simp [z])
        · exact old (by simp [z])
        · rw [z, k2]
          exact fun z => nomatch z
        · rw [z, kp']
          exact fun z => nomatch z
end
end Sd

set_option exponentiation.threshold 256
set_option Elab.async false
set_option linter.all false
set_option maxRecDepth 100000
set_option maxHeartbeats 4000000
namespace Sd
open PySem PySem.Spec PyProof.Rows L2
/-- Lines.__init__ -/
def spL (Cl : Addr) : Sp := fun vs H Q E => ∃ (a dx : Addr), vs = [.ref a] ∧ H a = some (.ins Cl dx []) ∧ ∀ lp ls, H lp = none → H ls = none → lp ≠ ls → lp ≠ a → ls ≠ a → ∀ H', (∀ b, b ≠ a → b ≠ lp → b ≠ ls → H' b = H b) → H' lp = some (.lst []) → H' ls = some (.lst []) →
  H' a = some (.ins Cl dx [("pieces", .ref lp), ("seams", .ref ls), ("is_over", .bl false)]) → Q .non H'
theorem lines_init {X : Cx} {Cl : Addr} {p5 p6 p7 p8 q5 q6 q7 q8 r5 r6 r7 r8 : Pos} {j : Nat} (cl : Cls X.K Cl) (n1 : NoAttr X.K Cl "pieces") (n2 : NoAttr X.K Cl "seams") (n3 : NoAttr X.K Cl "is_over") (h0 : PE X (.Name "self" p5) (tVar 0)) (h0q : PE X (.Name "self" q5) (tVar 0)) (h0r : PE X (.Name "self" r5) (tVar 0))
    (hs2 : swapsWith (.List [] p7) (some (.Attribute (.Name "self" p5) "pieces" p6)) p8.line X.env = pure false := by rfl) (hs3 : swapsWith (.List [] q7) (some (.Attribute (.Name "self" q5) "seams" q6)) q8.line X.env = pure false := by rfl) (hs4 : swapsWith (.Constant (.bool false) j r7) (some (.Attribute (.Name "self" r5) "is_over" r6)) r8.line X.env = pure false := by rfl)
    {σ : L2.St} {H : Hp} {vs : List V} {Q : VK} {E : XK} (hq : spL Cl vs H Q E) (hσ : ∀ (i : Nat) (v : V), vs[i]? = some v → σ[i]? = some (some v)) :
    ∃ t : TS, PSs X [.Assign [.Attribute (.Name "self" p5) "pieces" p6] (.List [] p7) p8, .Assign [.Attribute (.Name "self" q5) "seams" q6] (.List [] q7) q8, .Assign [.Attribute (.Name "self" r5) "is_over" r6] (.Constant (.bool false) j r7) r8] t ∧ t { nx := fun _ H' => Q .non H', rt := Q } σ H := by
  refine ⟨_, pss_cons (ps_fld h0 (pe_lst pa_nil) hs2) (pss_cons (ps_fld h0q (pe_lst pa_nil) hs3) (pss_one (ps_fld h0r pe_bl hs4))), ?_⟩
  obtain ⟨a, dx, rfl, ha, k⟩ := hq
  have s0 := hσ 0 (.ref a) rfl
  refine ⟨line1000 (by simp), fun lp hlp => ?_⟩
  have e1 : lp ≠ a := fun z => by rw [z, ha] at hlp; cases hlp
  refine ⟨.ref a, s0, a, Cl, dx, [], rfl, by rw [upd_ne (Ne.symm e1)]; exact ha, cl, n1, by simp, line1000 (by simp), fun ls hls => ?_⟩
  have e2 : ls ≠ a := fun z => by rw [z, upd_same] at hls; cases hls
  rw [upd_ne e2] at hls
  have e3 : ls ≠ lp := fun z => by rw [z, upd_same] at hls; cases hls
  rw [upd_ne e3] at hls
  have ps : ("pieces" : Str) ≠ "seams" := by decide
  have few : (putF "seams" (V.ref ls) (putF "pieces" (V.ref lp) [])).length < 1000 := by simp [putF, ps]
  refine ⟨.ref a, s0, a, Cl, dx, _, rfl, by rw [upd_ne (Ne.symm e2), upd_same], cl, n2, by simp [putF], .ref a, s0, a, Cl, dx, _, rfl, upd_same, cl, n3, few, ?_⟩
  refine k lp ls hlp hls (Ne.symm e3) e1 e2 _ (fun b b1 b2 b3 => ?_) ?_ ?_ ?_
  · rw [upd_ne b1, upd_ne b1, upd_ne b3, upd_ne b1, upd_ne b2]
  · rw [upd_ne e1, upd_ne e1, upd_ne (Ne.symm e3), upd_ne e1, upd_same]
  · rw [upd_ne e2, upd_ne e2, upd_same]
  · rw [upd_same]
    rfl
def noOwn (Γ : Env) : Bool := Γ.all fun
  | none => true
  | some (.im _) => true
  | some (.xc _ _ _) => true
  | _ => false
theorem noOwn_of {Γ : Env} (h : noOwn Γ = true) {j : Nat} {s : Sl} (e : Γ[j]? = some (some s)) : ¬ s.own := fun o => by
  have := List.all_eq_true.mp h _ (List.mem_of_getElem? e)
  cases s with
  | im d => exact o
  | xc a d g => exact o
  | ow d => cases this
  | mu r C g => cases this
  | g I => cases this
/-- a new thing of many places -/
theorem Gd.newG {K : PySem.W.Frag} {F : Frame} {W : Addr → Prop} {H H' : Hp} {σ : L2.St} {Γ : Env} {T : List Tm} {i : Nat} {I : Gh} {v : V} {fp : List Addr} (g : Gd K F W H σ Γ T) (no : noOwn Γ = true) (hi : i < Γ.length) (hm : MonoG I) (same : Same H H') (hI : I K (fun a => W a ∨ a ∈ fp) H' v fp) (new : ∀ a ∈ fp, H a = none) (there : ∀ a ∈ fp, H' a ≠ none) :
    Gd K F (fun a => W a ∨ a ∈ fp) H' (σ.set i (some v)) (Γ.set i (some (.g I))) T := by
  have kp : Kp W (fun a => W a ∨ a ∈ fp) H H' := ⟨fun b o _ e => same b o e, fun a z => z.elim .inl fun z => .inr (new a z)⟩
  have iσ : i < σ.length := by rw [← g.len]; exact hi
  have far : ∀ (j : Nat) (sj : Sl), (Γ.set i (some (Sl.g I)))[j]? = some (some sj) → i ≠ j → ¬ sj.own := fun j sj e ne o => by
    rw [List.getElem?_set_ne ne] at e
    exact noOwn_of no e o
  refine ⟨fun j t e => ?_, fun j l sj sl e1 e2 o1 o2 ne => ?_, fun b wb z => ?_, fun a z => .inl (g.sub a z), g.dom0, g.rsub, fun b o nb e => same b o (g.keep b o nb e), fun p hp => (g.tmp p hp).keep kp, by rw [List.length_set, List.length_set]; exact g.len, fun m j J sj e1 e2 oj => ?_⟩
  · by_cases hj : i = j
    · subst hj
      rw [List.getElem?_set_self hi] at e
      cases e
      exact ⟨v, List.getElem?_set_self iσ, hm, fp, hI, fun a ha => ⟨.inr ha, .inr (g.fresh0 (new a ha))⟩⟩
    · have nw := far j t e hj
      rw [List.getElem?_set_ne hj] at e ⊢
      obtain ⟨u, e1, e2⟩ := g.slot j t e
      refine ⟨u, e1, ?_⟩
      cases t with
      | im d => exact Rp.keep kp e2
      | xc b d gs =>
        obtain ⟨e, fs, q, w, r⟩ := e2
        exact ⟨e, fs, kp.keep _ _ w q, kp.out w (by rw [q]; exact fun z => nomatch z), RpF.keep kp r⟩
      | ow ds => exact absurd trivial nw
      | mu r C gs => exact absurd trivial nw
      | g J => exact absurd trivial nw
  · by_cases h1 : i = j
    · exact absurd o2 (far l sl e2 (fun z => ne (h1.symm.trans z)))
    · exact absurd o1 (far j sj e1 h1)
  · rcases wb with wb | wb
    · cases q : H b with
      | none => exact g.dom b wb q
      | some o => rw [same b o q] at z; cases z
    · exact there b wb z
  · by_cases h1 : i = m
    · by_cases h2 : i = j
      · exact h1.symm.trans h2
      · exact absurd oj (far j sj e2 h2)
    · exact absurd trivial (far m (.g J) e1 h1)
section
variable {B : Bx} {Γ : Env} {P : Post} {pos p p' : Pos} {k : Nat} {n y : Str} {Cl Cp : Addr}
def Ml (CX : CXT) (P : Program) (w : World) (K : PySem.W.Frag) (mg : Str → Option Value) (base : Heap) (x : Str) (C : Addr) (k : Nat) : Prop :=
  ∃ (f : Addr) (fd : FuncData) (ps : List Str), FnOk P w K mg base CX k f fd ps (spL C) ∧ Mk K C f ∧ mg x = some (.ref C) ∧ Binds K fd ps []
/-- x = Lines() -/
theorem sw_gnew (i : Nat) (G : Ml B.cx B.X.prog B.X.w B.X.K B.X.mg B.X.base y Cl k) (no : noOwn Γ = true) (hi : i < Γ.length) (q : ∀ r, P.nx (Γ.set i (some (.g (LinG Cl Cp r ⟨[], [], false⟩))))) (hk : k + 1 ≤ B.k := by exact Nat.le_of_ble_eq_true rfl) (hh : B.hot = false := by rfl)
    (hN : B.X.N[i]? = some n := by rfl) (hx : Loc B.X.env.scope n := by first | exact Or.inl rfl | exact Or.inr rfl) (hs : swapsWith (.Call (.Name y p) [] [] pos) (some (.Name n p')) p.line B.X.env = pure false := by rfl) (hg : Gl B.X y := by rfl) (hdb : (y == ("__debug__" : Str)) = false := by decide) {p2 : Pos} (hs2 : swapsWith (.Call (.Name y p) [] [] pos) (some (.Name n p')) p2.line B.X.env = pure false := by rfl)
    (hf : B.X.fn n = true ∨ B.X.env.scope.names.lookup n = some .local := by first | exact .inl rfl | exact .inr rfl) : SW B (.Assign [.Name n p'] (.Call (.Name y p) [] [] pos) p2) Γ P := fun T σ H D s r0 => by
  obtain ⟨f, fd, ps, ok, M1, hm, hb⟩ := G
  obtain ⟨W, g⟩ := s
  refine SemS.of (ps_set B.nd hN hx (pe_make0 M1 ok ((B.room hh).mono hk) hg hm hb .nil B.pass0 hdb) hs2 hf) (fun x dx hx hdx hne => ⟨x, dx, rfl, upd_same, fun lp ls hlp hls nl n1 n2 H' k1 k2 k3 k4 => ⟨rfl, r0.nx _ H' _ (q x) ?_⟩⟩)
  have sep : ∀ b, H b ≠ none → b ≠ x ∧ b ≠ dx := fun b nb => ⟨fun z => nb (z ▸ hx), fun z => nb (z ▸ hdx)⟩
  have hl0 : ∀ b, b ≠ x → upd (upd H dx (.own x)) x (.ins Cl dx []) b = none → H b = none := fun b b1 e => by
    rw [upd_ne b1] at e
    by_cases z : b = dx
    · rw [z, upd_same] at e; cases e
    · rw [upd_ne z] at e; exact e
  have same : Same H H' := fun b o e => by
    obtain ⟨s1, s2⟩ := sep b (by rw [e]; exact fun z => nomatch z)
    have l1 : b ≠ lp := fun z => by rw [z] at e; rw [hl0 lp n1 hlp] at e; cases e
    have l2 : b ≠ ls := fun z => by rw [z] at e; rw [hl0 ls n2 hls] at e; cases e
    rw [k1 b s1 l1 l2, upd_ne s1, upd_ne s2]
    exact e
  refine ⟨_, g.newG (fp := [x, lp, ls]) no hi lin_mono same ⟨dx, lp, ls, [], [], [], rfl, k4, k2, k3, .nil, .nil, rfl, by simp [Ne.symm n1, Ne.symm n2, nl]⟩ (fun a ha => ?_) (fun a ha => ?_)⟩
  · simp only [List.mem_cons, List.not_mem_nil, or_false] at ha
    rcases ha with z | z | z
    · exact z ▸ hx
    · exact z ▸ hl0 lp n1 hlp
    · exact z ▸ hl0 ls n2 hls
  · simp only [List.mem_cons, List.not_mem_nil, or_false] at ha
    rcases ha with z | z | z
    · rw [z, k4]; exact fun z => nomatch z
    · rw [z, k2]; exact fun z => nomatch z
    · rw [z, k3]; exact fun z => nomatch z
end
end Sd

set_option Elab.async false
set_option linter.all false
set_option maxRecDepth 100000
set_option maxHeartbeats 4000000
set_option exponentiation.threshold 10000
namespace Sd
open PySem PySem.Spec PyProof.Rows L2
def InitT (K : PySem.W.Frag) (mg : Str → Option Value) (x : Str) (C : Addr) (qual : Str) (st : Stmt) (ps : List Str) : Prop := ∃ (f : Addr) (fd : FuncData), Fun K "__init__" qual st f fd ∧ Mk K C f ∧ mg x = some (.ref C) ∧ Binds K fd ps []
def MethT (K : PySem.W.Frag) (C : Addr) (m qual : Str) (st : Stmt) (ps : List Str) : Prop := ∃ (f : Addr) (fd : FuncData), Fun K m qual st f fd ∧ Cls K C ∧ Meth K C m f ∧ Binds K fd ps []
abbrev MfN (P : Program) (w : World) (K : PySem.W.Frag) (mg : Str → Option Value) (base : Heap) (C : Addr) (m : Str) (k : Nat) (F : FS) : Prop := Mf (L2N.CX P w) P w K mg base C m k F
section
variable {P : Program} {w : World} {K : PySem.W.Frag} {mg : Str → Option Value} {base : Heap} {Cp Cl Ct : Addr}
theorem mfN {C : Addr} {m qual : Str} {st : Stmt} {ps : List Str} {k : Nat} {F : FS} (T : MethT K C m qual st ps) (h : ∀ f fd, Fun K m qual st f fd → FnOk P w K mg base (L2N.CX P w) k f fd ps (spF K F)) : MfN P w K mg base C m k F :=
  let ⟨f, fd, a, b, c, d⟩ := T; ⟨f, fd, ps, h f fd a, b, c, d⟩
theorem start_at {N : List Str} {vs : List V} (i : Nat) (v : V) (h : vs[i]? = some v) : (L2.start N vs)[i]? = some (some v) := start_get h
end
end Sd

set_option exponentiation.threshold 256
set_option Elab.async false
set_option linter.all false
set_option maxRecDepth 100000
set_option maxHeartbeats 4000000
namespace Sd
open PySem PySem.Spec PyProof.Rows L2
section
variable {B : Bx} {xs ys : List D}
theorem sizes_ne {us ws : List Value} (h : us.length ≠ ws.length) : (us.toArray.size != ws.toArray.size) = true := by
  simpa using h
theorem od_eqLens (h : xs.length ≠ ys.length) : OD B (compareOp .Eq) (.lst xs) (.lst ys) (.bl false) :=
  od_two fun H W v w Q _ h1 h2 => ⟨.bl false, fun W _ => .bl _, fun q => fun pins s σ a b I r1 r2 => by
    obtain ⟨l, vs, rfl, s1, _, _, q1⟩ := rpLst h1
    obtain ⟨m, ws, rfl, s2, _, _, q2⟩ := rpLst h2
    cases (show a = Value.ref l from r1)
    cases (show b = Value.ref m from r2)
    obtain ⟨us, a1, p1, _⟩ := I.list s1
    obtain ⟨zs, a2, p2, _⟩ := I.list s2
    exact SeqAt.RcAt.lists_lengths p1.isList p2.isList (sizes_ne (by rw [← a1.length, ← a2.length, q1.length, q2.length]; exact h)) (by have := B.un64; omega) _ _ _ _ ⟨.bl false, H, I, rfl, q⟩⟩
theorem od_neLens (h : xs.length ≠ ys.length) : OD B (compareOp .NotEq) (.lst xs) (.lst ys) (.bl true) :=
  od_two fun H W v w Q _ h1 h2 => ⟨.bl true, fun W _ => .bl _, fun q => fun pins s σ a b I r1 r2 => by
    obtain ⟨l, vs, rfl, s1, _, _, q1⟩ := rpLst h1
    obtain ⟨m, ws, rfl, s2, _, _, q2⟩ := rpLst h2
    cases (show a = Value.ref l from r1)
    cases (show b = Value.ref m from r2)
    obtain ⟨us, a1, p1, _⟩ := I.list s1
    obtain ⟨zs, a2, p2, _⟩ := I.list s2
    exact SeqAt.RcNeAt.lists_lengths p1.isList p2.isList (sizes_ne (by rw [← a1.length, ← a2.length, q1.length, q2.length]; exact h)) (by have := B.un64; omega) _ _ _ _ ⟨.bl true, H, I, rfl, q⟩⟩
theorem od_eqNil : OD B (compareOp .Eq) (.lst xs) (.lst []) (.bl xs.isEmpty) := by
  cases xs with
  | nil => exact od_eqD rfl rfl rfl rfl
  | cons x xs => exact od_eqLens (by simp)
theorem od_neNil : OD B (compareOp .NotEq) (.lst xs) (.lst []) (.bl (!xs.isEmpty)) := by
  cases xs with
  | nil => exact od_neD rfl rfl rfl rfl
  | cons x xs => exact od_neLens (by simp)
/-- a row of texts, one text -/
theorem od_eqOne {ws : List (List Nat)} {z : List Nat} (hw : ∀ w ∈ ws, ∀ c ∈ w, c < 256) (hz : ∀ c ∈ z, c < 256) : OD B (compareOp .Eq) (.lst (ws.map tx)) (.lst [tx z]) (.bl (decide (ws = [z]))) := by
  by_cases h : ws.length = 1
  · match ws, h with
    | [w], _ =>
      have e : PyData.eqv (toPy (.lst ([w].map tx))) (toPy (.lst [tx z])) = decide ([w] = [z]) := by
        show ((S w == S z) && true) = _
        rw [Bool.and_true, SX.S_beq_eq]
        exact decide_eq_decide.mpr ⟨fun h => by rw [h], fun h => by injection h⟩
      rw [← e]
      have sh : ∀ x : List Nat, (∀ c ∈ x, c < 256) → SeqAt.shaped (.list [.str (S x)]) = true := fun x hx => by
        unfold SeqAt.shaped PyData.canLay0 PyData.canLayAll0 PyData.canLay0
        simp [PyData.canLayAll0, PyData.strOk, PyData.depth, PyData.depthAll]
        exact fun c hc => Nat.lt_trans (hx c hc) (by omega)
      exact od_eqD rfl rfl (sh w (hw w (by simp))) (sh z hz)
  · have e : decide (ws = [z]) = false := decide_eq_false fun k => h (by rw [k]; rfl)
    rw [e]
    exact od_eqLens (by simpa using h)
end
end Sd

set_option Elab.async false
set_option linter.all false
set_option maxRecDepth 100000
set_option maxHeartbeats 4000000
set_option exponentiation.threshold 10000
namespace Sd
open PySem PySem.Spec PyProof.Rows L2
def isAl (c : Nat) : Bool := (decide (65 ≤ c) && decide (c ≤ 90)) || ((decide (97 ≤ c) && decide (c ≤ 122)) || (decide (48 ≤ c) && decide (c ≤ 57)))
def nameP (l : List Nat) : Bool := decide (1 ≤ l.length) && (decide (l.length ≤ 16) && l.all isAl)
abbrev letS : Str := Str.ofString "ABCDEFGHIJKLMNOPQRSTUVWXYZabcdefghijklmnopqrstuvwxyz"
abbrev digS : Str := Str.ofString "0123456789"
theorem al_list : (letS ++ digS).cps.toList = (List.range 26).map (· + 65) ++ ((List.range 26).map (· + 97) ++ (List.range 10).map (· + 48)) := by decide +kernel
theorem al_in (c : Nat) : decide (c ∈ (letS ++ digS).cps.toList) = isAl c := by
  rw [al_list]
  unfold isAl
  rw [← Bool.decide_and, ← Bool.decide_and, ← Bool.decide_and, ← Bool.decide_or, ← Bool.decide_or]
  refine decide_eq_decide.mpr ?_
  simp only [List.mem_append, List.mem_map, List.mem_range]
  constructor
  · rintro (⟨a, h, e⟩ | ⟨a, h, e⟩ | ⟨a, h, e⟩) <;> omega
  · rintro (⟨h1, h2⟩ | ⟨h1, h2⟩ | ⟨h1, h2⟩)
    · exact .inl ⟨c - 65, by omega, by omega⟩
    · exact .inr (.inl ⟨c - 97, by omega, by omega⟩)
    · exact .inr (.inr ⟨c - 48, by omega, by omega⟩)
/-- a piece that is read -/
structure PT where
  name : List Nat
  grain : Pt
  row : List Pt
/-- the lines that are read -/
structure LS where
  ps : List PT
  ss : List (List Nat)
  ov : Bool
def ptRS (p : PT) : D × D × List D := (tx p.name, ptD p.grain, p.row.map fun q => ptD q)
def seamD (s : List Nat) : D := .tup (s.map fun (i : Nat) => D.int (i : Int))
def toRS (s : LS) : RS := ⟨s.ps.map ptRS, s.ss.map seamD, s.ov⟩
def filled (s : LS) : Bool := match s.ps.getLast? with
  | none => false
  | some p => decide (3 ≤ p.row.length)
def OkL (s : LS) : Prop := s.ps.length ≤ 8 ∧ s.ss.length ≤ 5000 ∧ ∀ p ∈ s.ps, p.row.length ≤ 16
def pieceL (s : LS) (ws : List (List Nat)) : Option LS := match ws with
  | [_, n, a, b] => if nameP n = true then (match numIn a, numIn b with
    | some x, some y => if ((s.ps.isEmpty || filled s) && (s.ss.isEmpty && !decide (s.ps.length = 8))) = true then some { s with ps := s.ps ++ [⟨n, (x, y), []⟩] } else none
    | _, _ => none) else none
  | _ => none
def seamL (s : LS) (ws : List (List Nat)) : Option LS := match ws with
  | [_, a, b, c, d] => if ([a, b, c, d].all plain && filled s) = true then some { s with ss := s.ss ++ [[a, b, c, d].map valN] } else none
  | _ => none
def addP (q : Pt) : List PT → List PT
  | [] => []
  | [p] => [{ p with row := p.row ++ [q] }]
  | p :: r :: l => p :: addP q (r :: l)
def lastRow (s : LS) : List Pt := match s.ps.getLast? with
  | none => []
  | some p => p.row
def cornerL (s : LS) (ws : List (List Nat)) : Option LS := match ws with
  | [a, b] => (match numIn a, numIn b with
    | some x, some y => if (!s.ps.isEmpty && (s.ss.isEmpty && !decide ((lastRow s).length = 16))) = true then some { s with ps := addP (x, y) s.ps } else none
    | _, _ => none)
  | _ => none
/-- a line -/
def lineL (s : LS) (l : List Nat) : Option LS :=
  let ws := splN 32 l
  if s.ov = true then none
  else if ws = [[101, 110, 100]] then (if filled s = true then some { s with ov := true } else none)
  else if ws.head? = some [112, 105, 101, 99, 101] then pieceL s ws
  else if ws.head? = some [115, 101, 97, 109] then seamL s ws
  else cornerL s ws
theorem addC_P {q : Pt} : ∀ ps : List PT, addC (ptD q) (ps.map ptRS) = (addP q ps).map ptRS
  | [] => rfl
  | [p] => by
    show [((ptRS p).1, (ptRS p).2.1, (ptRS p).2.2 ++ [ptD q])] = [ptRS { p with row := p.row ++ [q] }]
    unfold ptRS
    simp
  | p :: r :: l => by
    show ptRS p :: addC (ptD q) ((r :: l).map ptRS) = ptRS p :: (addP q (r :: l)).map ptRS
    rw [addC_P (r :: l)]
end Sd

set_option Elab.async false
set_option linter.all false
set_option maxRecDepth 100000
set_option maxHeartbeats 4000000
set_option exponentiation.threshold 10000
namespace Sd
open PySem PySem.Spec PyProof.Rows L2
/-- what must stand of the classes -/
structure ClT (K : PySem.W.Frag) (Cp Cl Ct : Addr) : Prop where
  clp : Cls K Cp
  cll : Cls K Cl
  clt : Cls K Ct
  pn : NoAttr K Cp "name"
  pg : NoAttr K Cp "grain"
  pc : NoAttr K Cp "corners"
  lp : NoAttr K Cl "pieces"
  ls : NoAttr K Cl "seams"
  lo : NoAttr K Cl "is_over"
  tp : NoAttr K Ct "pieces"
  ts : NoAttr K Ct "seams"
abbrev LG (Cl Cp : Addr) (a : Addr × LS) : Gh := LinG Cl Cp a.1 (toRS a.2)
abbrev lsD (Cl Cp : Addr) (s : LS) : D := rsD Cl Cp (toRS s)
def ptD' (Cp : Addr) (p : PT) : D := .obj Cp [("name", tx p.name), ("grain", ptD p.grain), ("corners", rowD p.row)]
theorem lsD_eq {Cl Cp : Addr} {s : LS} : lsD Cl Cp s = .obj Cl [("pieces", .lst (s.ps.map (ptD' Cp))), ("seams", .lst (s.ss.map seamD)), ("is_over", .bl s.ov)] := by
  show D.obj Cl [("pieces", .lst ((s.ps.map ptRS).map (pcD Cp))), _, _] = _
  rw [List.map_map]
  rfl
abbrev LsD (Cl Cp : Addr) (s : LS) : D := .obj Cl [("pieces", .lst (s.ps.map (ptD' Cp))), ("seams", .lst (s.ss.map seamD)), ("is_over", .bl s.ov)]
theorem LG_view {Cl Cp : Addr} {a : Addr × LS} : ViewG (LG Cl Cp a) (LsD Cl Cp a.2) := by
  have h := lin_view (Cl := Cl) (Cp := Cp) (r := a.1) (s := toRS a.2)
  rw [show rsD Cl Cp (toRS a.2) = LsD Cl Cp a.2 from lsD_eq] at h
  exact h
theorem LG_mono {Cl Cp : Addr} (a : Addr × LS) : MonoG (LG Cl Cp a) := lin_mono
theorem LG_obj {Cl Cp : Addr} {m : Str} (h1 : (m == ("pieces" : Str)) = false) (h2 : (m == ("seams" : Str)) = false) (h3 : (m == ("is_over" : Str)) = false) : ∀ (a : Addr × LS) K W H v fp, LG Cl Cp a K W H v fp → ∃ q dx fs, v = .ref q ∧ H q = some (.ins Cl dx fs) ∧ fs.lookup m = none := fun a K W H v fp ⟨dx, lp, ls, xs, ys, fq, e, q, _⟩ => ⟨a.1, dx, _, e, q, by
  rw [List.lookup_cons, h1, List.lookup_cons, h2, List.lookup_cons, h3]
  rfl⟩
/-- a method: the new state, where it stands -/
def F_do (F : LS → List (List Nat) → Option LS) : GS (Addr × LS) := fun a ds a' r => ∃ ws : List (List Nat), ds = [.lst (ws.map tx)] ∧ (∀ w ∈ ws, w.length ≤ 4100) ∧ ws ≠ [] ∧ ws.length ≤ 5000 ∧ OkL a.2 ∧ a' = (a.1, (F a.2 ws).getD a.2) ∧ r = .ret (.bl (F a.2 ws).isSome)
theorem LG_v {Cl Cp : Addr} {F : LS → List (List Nat) → Option LS} : ∀ (a : Addr × LS) ds a' r K W H v fp W' H' u fp', F_do F a ds a' r → LG Cl Cp a K W H v fp → LG Cl Cp a' K W' H' u fp' → u = v := fun a ds a' r K W H v fp W' H' u fp' ⟨ws, _, _, _, _, _, e, _⟩ ⟨_, _, _, _, _, _, e1, _⟩ ⟨_, _, _, _, _, _, e2, _⟩ => by
  rw [e] at e2
  rw [e1, e2]
theorem lk_p {Cp : Addr} {s : LS} : List.lookup ("pieces" : Str) [(("pieces" : Str), D.lst (s.ps.map (ptD' Cp))), ("seams", .lst (s.ss.map seamD)), ("is_over", .bl s.ov)] = some (.lst (s.ps.map (ptD' Cp))) := rfl
theorem lk_s {Cp : Addr} {s : LS} : List.lookup ("seams" : Str) [(("pieces" : Str), D.lst (s.ps.map (ptD' Cp))), ("seams", .lst (s.ss.map seamD)), ("is_over", .bl s.ov)] = some (.lst (s.ss.map seamD)) := rfl
theorem lk_o {Cp : Addr} {s : LS} : List.lookup ("is_over" : Str) [(("pieces" : Str), D.lst (s.ps.map (ptD' Cp))), ("seams", .lst (s.ss.map seamD)), ("is_over", .bl s.ov)] = some (.bl s.ov) := rfl
theorem lk_n {p : PT} : List.lookup ("name" : Str) [(("name" : Str), tx p.name), ("grain", ptD p.grain), ("corners", rowD p.row)] = some (tx p.name) := rfl
theorem lk_g {p : PT} : List.lookup ("grain" : Str) [(("name" : Str), tx p.name), ("grain", ptD p.grain), ("corners", rowD p.row)] = some (ptD p.grain) := rfl
theorem lk_c {p : PT} : List.lookup ("corners" : Str) [(("name" : Str), tx p.name), ("grain", ptD p.grain), ("corners", rowD p.row)] = some (rowD p.row) := rfl
theorem last_ix {Cp : Addr} {s : LS} {p : PT} (h : s.ps.getLast? = some p) : IxD (.lst (s.ps.map (ptD' Cp))) (-1) (ptD' Cp p) := by
  show atI (s.ps.map (ptD' Cp)) (-1) = some _
  refine atI_last ?_
  rw [List.getLast?_map, h]
  rfl
end Sd

set_option Elab.async false
set_option linter.all false
set_option maxRecDepth 100000
set_option maxHeartbeats 4000000
set_option exponentiation.threshold 10000
namespace Sd
open PySem PySem.Spec PyProof.Rows L2
/-- take -/
def F_take : GS (Addr × LS) := fun a ds a' r => ∃ l : List Nat, ds = [tx l] ∧ l.length ≤ 4100 ∧ (∀ c ∈ l, c < 256) ∧ OkL a.2 ∧ a' = (a.1, (lineL a.2 l).getD a.2) ∧ r = .ret (.bl (lineL a.2 l).isSome)
theorem take_v {Cl Cp : Addr} : ∀ (a : Addr × LS) ds a' r K W H v fp W' H' u fp', F_take a ds a' r → LG Cl Cp a K W H v fp → LG Cl Cp a' K W' H' u fp' → u = v := fun a ds a' r K W H v fp W' H' u fp' ⟨ws, _, _, _, _, e, _⟩ ⟨_, _, _, _, _, _, e1, _⟩ ⟨_, _, _, _, _, _, e2, _⟩ => by
  rw [e] at e2
  rw [e1, e2]
theorem spl_len (c : Nat) : ∀ (l : List Nat) (w : List Nat), w ∈ splN c l → w.length ≤ l.length
  | [], w, h => by
    have : w = [] := by simpa [splN] using h
    rw [this]
    exact Nat.le_refl _
  | x :: r, w, h => by
    by_cases e : x = c
    · have q : splN c (x :: r) = [] :: splN c r := if_pos e
      rw [q] at h
      rcases List.mem_cons.mp h with rfl | h
      · exact Nat.zero_le _
      · have := spl_len c r w h
        rw [List.length_cons]
        omega
    · obtain ⟨p, ps, e1⟩ : ∃ p ps, splN c r = p :: ps := by
        cases z : splN c r with
        | nil => exact absurd z (splN_ne c r)
        | cons p ps => exact ⟨p, ps, rfl⟩
      have q : splN c (x :: r) = (x :: p) :: ps := by
        unfold splN
        rw [if_neg e, e1]
      rw [q] at h
      rcases List.mem_cons.mp h with rfl | h
      · have := spl_len c r p (by rw [e1]; exact List.mem_cons_self)
        simpa using this
      · have := spl_len c r w (by rw [e1]; exact List.mem_cons_of_mem _ h)
        rw [List.length_cons]
        omega
theorem spl_count (c : Nat) : ∀ l : List Nat, (splN c l).length ≤ l.length + 1
  | [] => Nat.le_refl _
  | x :: r => by
    have ih := spl_count c r
    unfold splN
    split
    · simpa using ih
    · split
      · simp
      · rename_i p ps e
        rw [e] at ih
        simpa using Nat.le_succ_of_le ih
theorem spl_sub (c : Nat) : ∀ (l : List Nat) (w : List Nat), w ∈ splN c l → ∀ x ∈ w, x ∈ l
  | [], w, h => by
    have : w = [] := by simpa [splN] using h
    rw [this]
    intro x hx
    cases hx
  | y :: r, w, h => by
    by_cases e : y = c
    · have q : splN c (y :: r) = [] :: splN c r := if_pos e
      rw [q] at h
      rcases List.mem_cons.mp h with rfl | h
      · intro x hx
        cases hx
      · exact fun x hx => List.mem_cons_of_mem _ (spl_sub c r w h x hx)
    · obtain ⟨p, ps, e1⟩ : ∃ p ps, splN c r = p :: ps := by
        cases z : splN c r with
        | nil => exact absurd z (splN_ne c r)
        | cons p ps => exact ⟨p, ps, rfl⟩
      have q : splN c (y :: r) = (y :: p) :: ps := by
        unfold splN
        rw [if_neg e, e1]
      rw [q] at h
      intro x hx
      rcases List.mem_cons.mp h with rfl | h
      · rcases List.mem_cons.mp hx with rfl | hx
        · exact List.mem_cons_self
        · exact List.mem_cons_of_mem _ (spl_sub c r p (by rw [e1]; exact List.mem_cons_self) x hx)
      · exact List.mem_cons_of_mem _ (spl_sub c r w (by rw [e1]; exact List.mem_cons_of_mem _ h) x hx)
end Sd

set_option Elab.async false
set_option linter.all false
set_option maxRecDepth 100000
set_option maxHeartbeats 4000000
set_option exponentiation.threshold 10000
namespace Sd
open PySem PySem.Spec PyProof.Rows L2
/-! ## hash tables of up to 512 slots -/
/-- all that is met from x on, as bits -/
def metB : Nat → Nat → Nat → Nat
  | 0, _, seen => seen
  | n + 1, x, seen => metB n ((x * 5 + 1) % 512) (seen ||| 2 ^ x)
theorem lcg_front (m x : Nat) : ∀ k, lcgI m x (k + 1) = lcgI m ((x * 5 + 1) % (m + 1)) k
  | 0 => rfl
  | k + 1 => by
    show (lcgI m x (k + 1) * 5 + 1) % (m + 1) = (lcgI m ((x * 5 + 1) % (m + 1)) k * 5 + 1) % (m + 1)
    rw [lcg_front m x k]
theorem metB_spec (j : Nat) : ∀ (n x seen : Nat), (metB n x seen).testBit j = true → seen.testBit j = true ∨ ∃ k, k < n ∧ lcgI 511 x k = j
  | 0, x, seen, h => .inl h
  | n + 1, x, seen, h => by
    rcases metB_spec j n _ _ h with h | ⟨k, hk, e⟩
    · rw [Nat.testBit_or, Bool.or_eq_true, Nat.testBit_two_pow, decide_eq_true_eq] at h
      rcases h with h | h
      · exact .inl h
      · exact .inr ⟨0, by omega, h⟩
    · exact .inr ⟨k + 1, by omega, by rw [lcg_front]; exact e⟩
theorem met_all : metB 512 0 0 = 2 ^ 512 - 1 := by decide +kernel
theorem round_0 : lcgI 511 0 512 = 0 := by decide +kernel
theorem cover_0 {j : Nat} (hj : j ≤ 511) : ∃ k, k < 512 ∧ lcgI 511 0 k = j := by
  rcases metB_spec j 512 0 0 (by rw [met_all, Nat.testBit_two_pow_sub_one]; exact decide_eq_true (by omega)) with h | h
  · rw [Nat.zero_testBit] at h
    cases h
  · exact h
theorem lcg_add (m x a : Nat) : ∀ k, lcgI m (lcgI m x a) k = lcgI m x (a + k)
  | 0 => rfl
  | k + 1 => by
    show (lcgI m (lcgI m x a) k * 5 + 1) % (m + 1) = (lcgI m x (a + k) * 5 + 1) % (m + 1)
    rw [lcg_add m x a k]
theorem cover_any {i j : Nat} (hi : i ≤ 511) (hj : j ≤ 511) : ∃ k, k ≤ 511 ∧ lcgI 511 i k = j := by
  obtain ⟨a, ha, rfl⟩ := cover_0 hi
  obtain ⟨b, hb, rfl⟩ := cover_0 hj
  by_cases h : a ≤ b
  · exact ⟨b - a, by omega, by rw [lcg_add, show a + (b - a) = b by omega]⟩
  · refine ⟨512 + b - a, by omega, ?_⟩
    rw [lcg_add, show a + (512 + b - a) = 512 + b by omega, ← lcg_add, round_0]
/-- the masks -/
def Mk (m : Nat) : Prop := MaskOk m ∨ m = 511
theorem mk_runs {m : Nat} (hm : Mk m) (h : Int) {j : Nat} (hj : j ≤ m) : ∃ n, n ≤ m + 12 ∧ runI m (SetTable.bits h) n = j := by
  rcases hm with hm | rfl
  · exact run_meets hm h hj
  · obtain ⟨k, hk, e⟩ := cover_any (runI_le 511 (SetTable.bits h) 12) hj
    exact ⟨12 + k, by omega, (runI_tail (bits_lt h) k).trans e⟩
theorem mk_meets {m : Nat} (hm : Mk m) (h : Int) {j : Nat} (hj : j ≤ m) : ∃ k, k < 10 * SetTable.turns m ∧ way m h k = j := by
  obtain ⟨n, hn, e⟩ := mk_runs hm h hj
  obtain ⟨k, hk, e2⟩ := run_nth m (SetTable.bits h) n
  refine ⟨k, ?_, ?_⟩
  · unfold SetTable.turns
    omega
  · show (nth m (runAt m (SetTable.bits h % (m + 1)) (SetTable.bits h)) k).j = j
    rw [e2]
    exact e
theorem mk_odd {m : Nat} (h : Mk m) : m % 2 = 1 := by
  rcases h with h | rfl
  · exact mask_odd h
  · rfl
theorem way_in (m : Nat) (h : Int) (k : Nat) : way m h k ≤ m := by
  have hi : SetTable.bits h % (m + 1) < m + 1 := Nat.mod_lt _ (Nat.succ_pos _)
  have r := runEnd_bd (m := m) (Nat.le_of_lt_succ hi)
  have q := nth_in (m := m) k (runAt m (SetTable.bits h % (m + 1)) (SetTable.bits h)) (show SetTable.bits h % (m + 1) + (SetTable.runEnd m (SetTable.bits h % (m + 1)) - SetTable.bits h % (m + 1)) ≤ m by omega)
  exact Nat.le_trans (Nat.le_add_right _ _) q
/-- places where each hash is met again -/
def Met (m : Nat) (ps : List Nat) (h : Int) (j : Nat) : Prop := ∃ k, way m h k = j ∧ ∀ c, c < k → way m h c ∈ ps
theorem Met.mono {m : Nat} {ps qs : List Nat} {h : Int} {j : Nat} (x : Met m ps h j) (s : ∀ p ∈ ps, p ∈ qs) : Met m qs h j := let ⟨k, e, a⟩ := x; ⟨k, e, fun c hc => s _ (a c hc)⟩
structure Tab (t : SetTable) (hs : List Int) : Prop where
  ris : Ris t.place.toList
  dm : t.dummies = #[]
  sz : t.place.size = hs.length
  msk : Mk t.mask
  bd : ∀ x ∈ t.place.toList, x ≤ t.mask
  met : ∀ (i : Nat) (h : Int) (j : Nat), hs[i]? = some h → t.place.toList[i]? = some j → Met t.mask t.place.toList h j
theorem first_free {m : Nat} (hm : Mk m) {ps : List Nat} (hl : ps.length ≤ m) (h : Int) : ∃ K, K < 10 * SetTable.turns m ∧ way m h K ∉ ps ∧ ∀ k, k < K → way m h k ∈ ps := by
  obtain ⟨j, hj, hn⟩ := st_missing ps (m + 1) (by omega)
  obtain ⟨k, hk, e⟩ := mk_meets hm h (Nat.le_of_lt_succ hj)
  obtain ⟨K, h1, h2, h3⟩ := st_least (p := fun k => way m h k ∉ ps) k (by rw [e]; exact hn)
  exact ⟨K, by omega, h2, fun c hc => Classical.not_not.mp (h3 c hc)⟩
theorem Tab.ahead {t : SetTable} {hs : List Int} (T : Tab t hs) {h : Int} {K i j : Nat} (hK : way t.mask h K ∉ t.place.toList) (hi : hs[i]? = some h) (hj : t.place.toList[i]? = some j) : ∃ k, k < K ∧ way t.mask h k = j := by
  obtain ⟨k, e, a⟩ := T.met i h j hi hj
  refine ⟨k, Nat.lt_of_not_le fun z => ?_, e⟩
  rcases Nat.lt_or_eq_of_le z with z | z
  · exact hK (a K z)
  · rw [z, e] at hK
    exact hK (List.mem_of_getElem? hj)
/-- one more -/
theorem Tab.more {t : SetTable} {hs : List Int} (T : Tab t hs) {h : Int} {K : Nat} (hK : way t.mask h K ∉ t.place.toList) (hb : ∀ k, k < K → way t.mask h k ∈ t.place.toList) {j p : Nat} (ej : way t.mask h K = j) (ep : SetTable.below t.place j = p) :
    t.put j = ((t.put j).1, p) ∧ p ≤ hs.length ∧ Tab (t.put j).1 (hs.take p ++ h :: hs.drop p) ∧ (t.put j).1.mask = t.mask ∧ (t.put j).1.led = t.led ∧ (t.put j).1.plain = t.plain ∧ (t.put j).1.fill = hs.length + 1 := by
  have cut := (below_cut T.ris j).1
  rw [ep] at cut
  have pl : p ≤ t.place.toList.length := by rw [Array.length_toList]; exact cut
  have ph : p ≤ hs.length := T.sz ▸ cut
  have new : (t.put j).1.place.toList = t.place.toList.take p ++ j :: t.place.toList.drop p := ep ▸ put_place t j
  have many : (t.put j).1.place.size = hs.length + 1 := by
    rw [← Array.length_toList, new, len_ins _ pl, Array.length_toList, T.sz]
  have old : ∀ x ∈ t.place.toList, x ∈ (t.put j).1.place.toList := fun x hx => new ▸ mem_ins.mpr (.inr hx)
  have free : t.place[SetTable.below t.place j]? ≠ some j := fun e => hK (ej ▸ List.mem_of_getElem? (Array.getElem?_toList ▸ e))
  refine ⟨?_, ph, ⟨ris_insert T.ris free, put_dm T.dm j, by rw [many, len_ins _ ph], T.msk, fun x hx => ?_, fun i h' j' h1 h2 => ?_⟩, rfl, rfl, rfl, ?_⟩
  · rw [← ep]
    rfl
  · rw [new, mem_ins] at hx
    rcases hx with rfl | hx
    · exact ej ▸ way_in _ _ _
    · exact T.bd x hx
  · show Met t.mask (t.put j).1.place.toList h' j'
    rw [new, tins_get _ pl] at h2
    rw [tins_get _ ph] at h1
    split at h1
    · rename_i c
      rw [if_pos c] at h2
      exact (T.met i h' j' h1 h2).mono old
    · rename_i c
      rw [if_neg c] at h2
      split at h1
      · rename_i d
        rw [if_pos d] at h2
        cases h1
        cases h2
        exact ⟨K, ej, fun c hc => old _ (hb c hc)⟩
      · rename_i d
        rw [if_neg d] at h2
        exact (T.met (i - 1) h' j' h1 h2).mono old
  · show (t.put j).1.place.size + (t.put j).1.dummies.size = _
    rw [many, put_dm T.dm j]
    rfl
end Sd

set_option Elab.async false
set_option linter.all false
set_option maxRecDepth 100000
set_option maxHeartbeats 4000000
set_option exponentiation.threshold 10000
namespace Sd
open PySem PySem.Spec PyProof.Rows L2
/-! ## a table laid anew -/
structure Lay (m : Nat) (done : List Int) (o : Array (Option Nat)) (ps : List Nat) : Prop where
  sz : o.size = m + 1
  len : ps.length = done.length
  mem : ∀ j, j ∈ ps ↔ j ≤ m ∧ oAt o j ≠ none
  met : ∀ j k, j ≤ m → oAt o j = some k → ∃ h, done[k]? = some h ∧ Met m ps h j
  all : ∀ k, k < done.length → ∃ j, j ≤ m ∧ oAt o j = some k
theorem Lay.zero (m : Nat) : Lay m [] (Array.replicate (m + 1) none) [] :=
  ⟨by simp, rfl, fun j => ⟨fun z => absurd z (by simp), fun ⟨a, b⟩ => absurd (oAt_init a) b⟩, fun j k hj e => (by rw [oAt_init hj] at e; cases e), fun k hk => absurd hk (Nat.not_lt_zero k)⟩
theorem Lay.step {m : Nat} (hm : Mk m) {done : List Int} {o : Array (Option Nat)} {ps : List Nat} (L : Lay m done o ps) (room : done.length ≤ m) (h : Int) :
    ∃ j, SetTable.layClean.free m o (SetTable.turns m) (SetTable.bits h % (m + 1)) (SetTable.bits h) = some j ∧ Lay m (done ++ [h]) (o.setIfInBounds j (some done.length)) (j :: ps) := by
  have hl : ps.length ≤ m := by rw [L.len]; exact room
  obtain ⟨j0, hj0, hn0⟩ := st_missing ps (m + 1) (by omega)
  obtain ⟨K, hK1, hK2, hK3⟩ := first_free hm hl h
  obtain ⟨n, hn, en⟩ := mk_runs hm h (Nat.le_of_lt_succ hj0)
  have wn : way m h (off m (SetTable.bits h % (m + 1)) (SetTable.bits h) n) = j0 := by
    show (nth m (runAt m (SetTable.bits h % (m + 1)) (SetTable.bits h)) (off m (SetTable.bits h % (m + 1)) (SetTable.bits h) n)).j = j0
    rw [nth_off, itL_run]
    exact en
  have hKn : K ≤ off m (SetTable.bits h % (m + 1)) (SetTable.bits h) n := Nat.le_of_not_lt fun z => hn0 (wn ▸ hK3 _ z)
  have ne_of : ∀ c, way m h c ∈ ps → oAt o (way m h c) ≠ none := fun c hc => ((L.mem _).mp hc).2
  have freeK : oAt o (way m h K) = none := Classical.byContradiction fun z => hK2 ((L.mem _).mpr ⟨way_in _ _ _, z⟩)
  have got := free_spec m o (SetTable.turns m) n (SetTable.bits h % (m + 1)) (SetTable.bits h) K (by unfold SetTable.turns; omega) hKn (fun c hc => by
    have q := ne_of c (hK3 c hc)
    cases e : oAt o (nth m (runAt m (SetTable.bits h % (m + 1)) (SetTable.bits h)) c).j with
    | none => exact absurd e q
    | some _ => rfl) (Option.isNone_iff_eq_none.mpr freeK)
  have inb : way m h K < o.size := by rw [L.sz]; exact Nat.lt_succ_of_le (way_in _ _ _)
  refine ⟨way m h K, got, ?_⟩
  generalize hw : way m h K = j at freeK inb
  have self := oAt_set_self (some done.length) inb
  have jm : j ≤ m := hw ▸ way_in _ _ _
  refine ⟨by rw [Array.size_setIfInBounds]; exact L.sz, by rw [List.length_cons, List.length_append, L.len]; rfl, fun i => ?_, fun i k hi e => ?_, fun k hk => ?_⟩
  · by_cases c : i = j
    · subst c
      exact ⟨fun _ => ⟨jm, by rw [self]; exact fun z => nomatch z⟩, fun _ => List.mem_cons_self⟩
    · rw [List.mem_cons, oAt_set_ne _ c, ← L.mem i]
      exact ⟨fun z => z.resolve_left c, .inr⟩
  · by_cases c : i = j
    · subst c
      rw [self] at e
      cases e
      exact ⟨h, by rw [List.getElem?_append_right (Nat.le_refl _), Nat.sub_self]; rfl, K, hw, fun c hc => List.mem_cons_of_mem _ (hK3 c hc)⟩
    · rw [oAt_set_ne _ c] at e
      obtain ⟨h', e', x⟩ := L.met i k hi e
      exact ⟨h', by rw [List.getElem?_append_left (List.getElem?_eq_some_iff.mp e').1]; exact e', x.mono fun p hp => List.mem_cons_of_mem _ hp⟩
  · by_cases c : k = done.length
    · exact ⟨j, jm, by rw [self, c]⟩
    · obtain ⟨i, hi, e⟩ := L.all k (by rw [List.length_append, List.length_singleton] at hk; omega)
      refine ⟨i, hi, ?_⟩
      rw [oAt_set_ne _ (fun z => by rw [z, freeK] at e; cases e)]
      exact e
theorem lay_all {m : Nat} (hm : Mk m) : ∀ (rest done : List Int) (o : Array (Option Nat)) (ps : List Nat), Lay m done o ps → done.length + rest.length ≤ m →
    ∃ o' ps', rest.foldl (stepF m) (some (o, done.length)) = some (o', (done ++ rest).length) ∧ Lay m (done ++ rest) o' ps'
  | [], done, o, ps, L, _ => ⟨o, ps, by rw [List.append_nil]; rfl, by rw [List.append_nil]; exact L⟩
  | h :: rest, done, o, ps, L, room => by
    rw [List.length_cons] at room
    obtain ⟨j, e, L2⟩ := L.step hm (by omega) h
    have ln : (done ++ [h]).length = done.length + 1 := by simp
    obtain ⟨o', ps', f, L3⟩ := lay_all hm rest _ _ _ L2 (by rw [ln]; omega)
    rw [List.append_assoc] at f L3
    rw [ln] at f
    exact ⟨o', ps', by rw [List.foldl_cons, stepF_some e]; exact f, L3⟩
theorem lay_clean {m : Nat} (hm : Mk m) {hs : Array Int} (room : hs.size ≤ m) : ∃ o ps, SetTable.layClean m hs = some o ∧ Lay m hs.toList o ps := by
  obtain ⟨o, ps, f, L⟩ := lay_all hm hs.toList [] _ _ (Lay.zero m) (by rw [List.length_nil, Array.length_toList]; omega)
  rw [List.nil_append] at L f
  exact ⟨o, ps, by rw [layClean_eq, show (0 : Nat) = ([] : List Int).length from rfl, f]; rfl, L⟩
theorem laid {t : SetTable} {hs : Array Int} {wanted M : Nat} (hw : SetTable.sizeAbove wanted - 1 = M) (hM : Mk M) (room : hs.size ≤ M) :
    ∃ t' order, t.relaid hs wanted = some (t', order) ∧ order.toList.Perm (List.range hs.size) ∧ Tab t' (order.toList.map fun i => hs.getD i 0) ∧ t'.mask = M ∧ t'.led = t.led ∧ t'.plain = t.plain := by
  obtain ⟨o, ps, e, L⟩ := lay_clean hM room
  have live : ∀ {j k : Nat}, (j, k) ∈ liveOf M o ↔ j ≤ M ∧ oAt o j = some k := fun {j k} => mem_live L.sz
  obtain ⟨r1, r2⟩ := ris_live (fun j => o.getD j none) (List.range (M + 1)) (show Ris _ by unfold Ris; exact List.pairwise_lt_range)
  have inP : ∀ x, x ∈ (liveOf M o).map (·.1) ↔ x ∈ ps := fun x => by
    rw [L.mem x, List.mem_map]
    refine ⟨fun ⟨⟨y, k⟩, hq, ey⟩ => ?_, fun ⟨a, b⟩ => ?_⟩
    · have := live.mp hq
      subst ey
      exact ⟨this.1, by rw [this.2]; exact fun z => nomatch z⟩
    · cases z : oAt o x with
      | none => exact absurd z b
      | some k => exact ⟨(x, k), live.mpr ⟨a, z⟩, rfl⟩
  have there : ∀ k, k < hs.size → k ∈ (liveOf M o).map (·.2) := fun k hk => by
    obtain ⟨j, a, b⟩ := L.all k (by rw [Array.length_toList]; exact hk)
    exact List.mem_map.mpr ⟨(j, k), live.mpr ⟨a, b⟩, rfl⟩
  have r1' : Ris ((liveOf M o).map (·.1)) := r1
  have many : (liveOf M o).length = hs.size := by
    have nd1 : ((liveOf M o).map (·.1)).Nodup := List.Pairwise.imp (fun h => Nat.ne_of_lt h) r1'
    have a := nat_nodup_len ((liveOf M o).map (·.1)) ps nd1 fun x hx => (inP x).mp hx
    have b := nat_nodup_len (List.range hs.size) ((liveOf M o).map (·.2)) List.nodup_range fun k hk => there k (List.mem_range.mp hk)
    rw [List.length_map, L.len, show hs.toList.length = hs.size from rfl] at a
    rw [List.length_map, List.length_range] at b
    omega
  refine ⟨tabOf t M o, ((liveOf M o).map (·.2)).toArray, by rw [relaid_eq, hw, e]; rfl, perm_range hs.size _ (by simpa using many) there, ⟨r1, rfl, ?_, hM, fun x hx => ?_, fun i h j h1 h2 => ?_⟩, rfl, rfl, rfl⟩
  · show ((liveOf M o).map (·.1)).toArray.size = (((liveOf M o).map (·.2)).map fun i => hs.getD i 0).length
    simp
  · exact Nat.le_of_lt_succ (List.mem_range.mp (r2 x hx))
  · have h2' : ((liveOf M o).map (·.1))[i]? = some j := h2
    have h1' : (((liveOf M o).map (·.2)).map fun i => hs.getD i 0)[i]? = some h := h1
    rw [List.getElem?_map] at h2'
    rw [List.map_map, List.getElem?_map] at h1'
    cases z : (liveOf M o)[i]? with
    | none => rw [z] at h2'; cases h2'
    | some q =>
      rw [z] at h1' h2'
      obtain ⟨y, k⟩ := q
      have e1 : y = j := Option.some.inj h2'
      have e2 : hs.getD k 0 = h := Option.some.inj h1'
      subst e1
      have b := live.mp (List.mem_of_getElem? z)
      obtain ⟨h', e3, x⟩ := L.met y k b.1 b.2
      have e4 : hs.getD k 0 = h' := by
        rw [Array.getD_eq_getD_getElem?, ← Array.getElem?_toList, e3]
        rfl
      rw [← e2, e4]
      exact x.mono fun p hp => (inP p).mpr hp
end Sd

set_option Elab.async false
set_option linter.all false
set_option maxRecDepth 100000
set_option maxHeartbeats 4000000
set_option exponentiation.threshold 10000
namespace Sd
open PySem PySem.Spec PyProof.Rows L2
/-! ## sets of tuples of ints, up to 300 -/
structure STab (P : Program) (w : World) (h : Heap) (a : Addr) (L : List (Addr × List Int)) (es : Array (Int × Value)) (ep : Nat) (t : SetTable) : Prop where
  ob : ∃ o, h.get? a = some o ∧ o.ExactSet ∧ o.data = .set es ep t
  row : es.toList = rowsOf P w L
  tb : Tab t (L.map fun p => thash P w p.2)
  nd : (L.map (·.2)).Nodup
  tp : ∀ p ∈ L, IsT P w h p.2 p.1
  pl : t.plain = true
  ld : w.params.followText "set-order" = true ∨ t.led = true
  room : L.length * 5 < t.mask * 3
section
variable {P : Program} {w : World} {A : Around} {E : Value → Shared → Prop} {s : Shared} {a : Addr} {L : List (Addr × List Int)} {es : Array (Int × Value)} {ep : Nat} {t : SetTable}
theorem rows_len {es : Array (Int × Value)} (h : es.toList = rowsOf P w L) : es.size = L.length := by
  rw [← Array.length_toList, h]
  exact List.length_map _
theorem STab.len (R : STab P w s.heap a L es ep t) : es.size = L.length := rows_len R.row
theorem STab.fit (R : STab P w s.heap a L es ep t) : t.fits es.size = true := by
  have z := R.tb.sz
  have r := R.room
  rw [List.length_map] at z
  unfold SetTable.fits SetTable.fill
  rw [R.tb.dm, R.len, z]
  have : L.length + (#[] : Array Nat).size ≤ t.mask := by
    show L.length + 0 ≤ t.mask
    omega
  rw [decide_eq_true this, beq_self_eq_true]
  rfl
theorem STab.ent (R : STab P w s.heap a L es ep t) {i : Nat} {p : Addr × List Int} (h : L[i]? = some p) : es[i]? = some (thash P w p.2, Value.ref p.1) := by
  have e : es.toList[i]? = some (thash P w p.2, Value.ref p.1) := by
    rw [R.row]
    unfold rowsOf
    rw [List.getElem?_map, h]
    rfl
  rwa [Array.getElem?_toList] at e
theorem STab.stays (R : STab P w s.heap a L es ep t) : t.gaveWay = false := by
  unfold SetTable.gaveWay
  rw [mk_odd R.tb.msk]
  rfl
/-- the c-th step of a search -/
abbrev wy (m : Nat) (h : Int) (c : Nat) : SetTable.Probe := nth m (runAt m (SetTable.bits h % (m + 1)) (SetTable.bits h)) c
theorem wy_dummy (m : Nat) (h : Int) (c : Nat) : (wy m h c).dummy = none := by
  have gen : ∀ (n : Nat) (p : SetTable.Probe), p.dummy = none → (nth m p n).dummy = none := fun n => by
    induction n with
    | zero => exact fun p h => h
    | succ n ih =>
      intro p h
      refine ih (adv m p) ?_
      unfold adv
      split <;> exact h
  exact gen c _ rfl
theorem wy_add (m : Nat) (h : Int) (c q : Nat) : nth m (wy m h c) q = wy m h (c + q) := (nth_add m c _ q).symm
/-- the search, from its c-th step on; K: the first free one -/
theorem seek (R : STab P w s.heap a L es ep t) {x : Addr} {k : List Int} (hx : IsT P w s.heap k x) (hu : A.units < cLine) {h : Int} (eh : h = thash P w k) {K : Nat} (lim : K < 10 * SetTable.turns t.mask)
    (free : way t.mask h K ∉ t.place.toList) (busy : ∀ c, c < K → way t.mask h c ∈ t.place.toList) {Q : SetFound → Shared → Prop}
    (yes : k ∈ L.map (·.2) → Q (.there none) s) (no : k ∉ L.map (·.2) → Q (.free (way t.mask h K) false) s) :
    ∀ (f c : Nat) (st : Option SetTable.Probe), st.getD (t.probeStart h) = wy t.mask h c → c ≤ K → K - c < f → (∀ (i : Nat) p, L[i]? = some p → p.2 = k → ∃ c', c ≤ c' ∧ c' < K ∧ t.place.toList[i]? = some (way t.mask h c')) →
      wpAny (model P w) A (setSearchFrom a (.ref x) h true f st) Q E s := fun f => by
  induction f with
  | zero => exact fun c st _ _ z => absurd z (Nat.not_lt_zero _)
  | succ f ih =>
    intro c st hst hc hf ahead
    obtain ⟨o, ho, hex, hd⟩ := R.ob
    rw [setSearchFrom_succ]
    refine wpAny_bind (wpAny_setState_of ho hd R.fit ?_)
    dsimp only
    refine wp_if_neg (by rw [R.stays]; exact Bool.false_ne_true) ?_
    have hash : ∀ (i : Nat) p, L[i]? = some p → (es[i]?.map (·.1)).getD 0 = thash P w p.2 := fun i p hp => by
      rw [R.ent hp]
      rfl
    have met := go_spec t R.tb.ris R.tb.dm (fun i => (es[i]?.map (·.1)).getD 0) h (10 * SetTable.turns t.mask) (K - c) (wy t.mask h c) (wy_dummy _ _ _) (by omega)
      (fun q hq => by rw [wy_add]; exact busy (c + q) (by omega)) (by rw [wy_add, show c + (K - c) = K by omega]; exact free)
    have unfit : (∀ k' i', k' < K - c → t.place.toList[i']? = some (nth t.mask (wy t.mask h c) k').j → (fun (i : Nat) => (es[i]?.map (·.1)).getD 0) i' ≠ h) → k ∉ L.map (·.2) := fun none hm => by
      obtain ⟨p, hp, ep⟩ := List.mem_map.mp hm
      obtain ⟨i, hi, ei⟩ := List.mem_iff_getElem.mp hp
      have hp' : L[i]? = some p := by rw [List.getElem?_eq_getElem hi, ei]
      obtain ⟨c', l1, l2, l3⟩ := ahead i p hp' ep
      refine none (c' - c) i (by omega) (by rw [wy_add, show c + (c' - c) = c' by omega]; exact l3) ?_
      rw [eh, ← ep]
      exact hash i p hp'
    rcases met with ⟨q, i, hq, hi, hh, hno, hpr⟩ | ⟨hno, hpr⟩
    · have pr : t.probe (fun i => (es[i]?.map (·.1)).getD 0) h (st.getD (t.probeStart h)) = some (.candidate (way t.mask h (c + q)) i (wy t.mask h (c + (q + 1)))) := by
        rw [wy_add, wy_add] at hpr
        rw [hst]
        exact hpr
      rw [pr]
      dsimp only
      rw [wy_add] at hi
      have il : i < L.length := by
        have z := R.tb.sz
        have y := (List.getElem?_eq_some_iff.mp hi).1
        rw [List.length_map] at z
        rw [Array.length_toList, z] at y
        exact y
      obtain ⟨p, hp⟩ : ∃ p, L[i]? = some p := ⟨_, List.getElem?_eq_getElem il⟩
      have pm := List.mem_of_getElem? hp
      have rest : wpAny (model P w) A (searchRest a (.ref x) h true f es t (way t.mask h (c + q)) i (wy t.mask h (c + (q + 1)))) Q E s := by
        unfold searchRest
        rw [R.ent hp]
        dsimp only
        refine wpAny_bind (wpAny_holding (wpAny_eqBool_tuple hu (R.tp p pm) hx (wpAny_bind (wpAny_setState_of ho hd R.fit ?_))))
        dsimp only
        by_cases same : p.2 = k
        · exact wp_if_pos (by simp [same]) (wpAny_pure (yes (List.mem_map.mpr ⟨p, pm, same⟩)))
        · refine wp_if_neg (by simp [same]) ?_
          rw [sameMem]
          dsimp only
          have sl : t.slot (way t.mask h (c + q)) = .live i := slot_live R.tb.ris hi
          simp only [if_true, sl, R.ent hp]
          refine wpAny_bind (wpAny_isSame_ref_self (wpAny_bind (wpAny_pure ?_)))
          simp only [if_true]
          refine wp_if_neg (by simp [same]) (ih (c + (q + 1)) _ rfl (by omega) (by omega) fun i0 p0 h0 k0 => ?_)
          obtain ⟨c', l1, l2, l3⟩ := ahead i0 p0 h0 k0
          refine ⟨c', ?_, l2, l3⟩
          show c + q < c'
          refine Nat.lt_of_not_le fun z => ?_
          rcases Nat.lt_or_eq_of_le z with z | z
          · refine hno (c' - c) i0 (by omega) (by rw [wy_add, show c + (c' - c) = c' by omega]; exact l3) ?_
            rw [eh, ← k0]
            exact hash i0 p0 h0
          · rw [z] at l3
            have s0 := slot_live R.tb.ris l3
            rw [sl] at s0
            cases s0
            rw [hp] at h0
            cases h0
            exact same k0
      by_cases led : t.led = true
      · exact wp_if_neg (by simp [led]) rest
      · refine wp_if_pos (by simp [led]) (wpAny_bind (seen_tup hx (fun y hy => ?_) (wp_if_neg Bool.false_ne_true rest)))
        obtain ⟨e, he, ee⟩ := List.mem_map.mp hy
        have he' : e ∈ es.toList := by
          have : e ∈ es ∧ e.1 = h := by simpa using he
          simpa using this.1
        rw [R.row] at he'
        obtain ⟨p2, m2, e2⟩ := List.mem_map.mp he'
        exact ⟨p2.2, p2.1, by rw [← ee, ← e2], R.tp p2 m2⟩
    · have pr : t.probe (fun i => (es[i]?.map (·.1)).getD 0) h (st.getD (t.probeStart h)) = some (.empty (way t.mask h K) none) := by
        rw [hst]
        refine hpr.trans ?_
        rw [wy_add, show c + (K - c) = K by omega]
      rw [pr]
      dsimp only
      exact wpAny_pure (no (unfit hno))
end
end Sd

set_option Elab.async false
set_option linter.all false
set_option maxRecDepth 100000
set_option maxHeartbeats 4000000
set_option exponentiation.threshold 10000
namespace Sd
open PySem PySem.Spec PyProof.Rows L2
section
variable {P : Program} {w : World} {A : Around} {E : Value → Shared → Prop} {s : Shared} {a : Addr} {L : List (Addr × List Int)} {es : Array (Int × Value)} {ep : Nat} {t : SetTable}
theorem turns_few {m : Nat} (h : Mk m) : 10 * SetTable.turns m < 90000 := by
  unfold SetTable.turns
  rcases h with (e | e | e) | e <;> omega
theorem found (R : STab P w s.heap a L es ep t) {x : Addr} {k : List Int} (hx : IsT P w s.heap k x) (hu : A.units < cLine) {Q : SetFound → Shared → Prop} (yes : k ∈ L.map (·.2) → Q (.there none) s)
    (no : ∀ K, k ∉ L.map (·.2) → way t.mask (thash P w k) K ∉ t.place.toList → (∀ c, c < K → way t.mask (thash P w k) c ∈ t.place.toList) → Q (.free (way t.mask (thash P w k) K) false) s) :
    wpAny (model P w) A (setSearch a (.ref x) (thash P w k) true) Q E s := by
  have z := R.tb.sz
  have r := R.room
  have few := turns_few R.tb.msk
  rw [List.length_map] at z
  obtain ⟨K, lim, free, busy⟩ := first_free R.tb.msk (ps := t.place.toList) (by rw [Array.length_toList, z]; omega) (thash P w k)
  unfold setSearch
  refine seek R hx hu rfl lim free busy yes (fun h => no K h free busy) 100000 0 none rfl (Nat.zero_le _) (by omega) fun i p hp hk => ?_
  have il := (List.getElem?_eq_some_iff.mp hp).1
  have ip : i < t.place.toList.length := by rw [Array.length_toList, z]; exact il
  obtain ⟨c, hc, e⟩ := R.tb.ahead (h := thash P w k) (i := i) (j := t.place.toList[i]) free (by rw [List.getElem?_map, hp, ← hk]; rfl) (List.getElem?_eq_getElem ip)
  exact ⟨c, Nat.zero_le _, hc, by rw [e]; exact List.getElem?_eq_getElem ip⟩
/-- the table laid anew -/
theorem relay {o : Obj} (ho : s.heap.get? a = some o) (hex : o.ExactSet) (hd : o.data = .set es ep t) (row : es.toList = rowsOf P w L) (sz : t.place.size = es.size) (dm : t.dummies = #[]) (fl : es.size ≤ t.mask) (nd : (L.map (·.2)).Nodup) (tp : ∀ p ∈ L, IsT P w s.heap p.2 p.1) (pl : t.plain = true)
    (ld : w.params.followText "set-order" = true ∨ t.led = true) {wanted M : Nat} (hw : SetTable.sizeAbove wanted = M + 1) (hM : Mk M) (room : L.length * 5 < M * 3) {Q : Unit → Shared → Prop}
    (q : ∀ h' L' es' ep' t', Heap.SameBut a s.heap h' → STab P w h' a L' es' ep' t' → L'.Perm L → Q () { s with heap := h' }) : wpAny (model P w) A (setRelay a wanted) Q E s := by
  have len := rows_len row
  have M9 : M ≤ 511 := by rcases hM with (e | e | e) | e <;> omega
  have fit : t.fits es.size = true := by
    unfold SetTable.fits SetTable.fill
    rw [dm, sz]
    have : es.size + (#[] : Array Nat).size ≤ t.mask := fl
    rw [decide_eq_true this, beq_self_eq_true]
    rfl
  obtain ⟨t', order, e, pm, T, e1, e2, e3⟩ := laid (t := t) (hs := es.map (·.1)) (wanted := wanted) (M := M) (by omega) hM (by rw [Array.size_map, len]; omega)
  rw [Array.size_map, len] at pm
  obtain ⟨L2, r1, r2, r3⟩ := order_rows L es order row pm
  rw [← r3] at T
  have many : (order.filterMap (es[·]?)).size = L.length := (rows_len r1).trans r2.length_eq
  rw [setRelay_eq]
  refine wpAny_bind (wpAny_setState_of ho hd fit ?_)
  dsimp only
  refine wp_if_neg (by rw [hw, sizeLine_eq]; omega) ?_
  rw [e]
  dsimp only
  refine wpAny_bind (wp_if_neg (by rw [many, len]; simp) (wpAny_pure ?_))
  dsimp only
  refine wpAny_storeSet_of ho hd ?_ (by rw [many, sizeLine_eq]; omega)
  have sb : Heap.SameBut a s.heap (s.heap.update a (Obj.putSet (order.filterMap (es[·]?)) t')) := Heap.SameBut.update ..
  exact q _ L2 _ (ep + 1) t' sb ⟨⟨_, store_at ho hd, ⟨hex.1, hex.2.1, hex.2.2⟩, rfl⟩, r1, T, (r2.map (·.2)).nodup_iff.mpr nd, fun p hp => isT_same (tp p (r2.mem_iff.mp hp)) ho hd sb, e3.trans pl, by rw [e2]; exact ld, by rw [r2.length_eq, e1]; exact room⟩ r2
theorem size_308 : SetTable.sizeAbove (SetTable.grown 77) = 512 := by decide +kernel
/-- one is added -/
theorem put_one (R : STab P w s.heap a L es ep t) {x : Addr} {k : List Int} (hx : IsT P w s.heap k x) (hu : A.units < cLine) (few : L.length < 300) {Q : Bool → Shared → Prop}
    (q : ∀ b h' L' es' ep' t', Heap.SameBut a s.heap h' → STab P w h' a L' es' ep' t' → (k ∈ L.map (·.2) → L' = L) → (k ∉ L.map (·.2) → L'.Perm ((x, k) :: L)) → Q b { s with heap := h' }) :
    wpAny (model P w) A (setAddHashed a (.ref x) (thash P w k)) Q E s := by
  obtain ⟨o, ho, hex, hd⟩ := R.ob
  have room := R.room
  unfold setAddHashed
  refine wpAny_holding ?_
  rw [show (100000 : Nat) = 99999 + 1 from rfl, setAddHashedIn_succ]
  refine wpAny_bind (wpAny_setState_of ho hd R.fit ?_)
  dsimp only
  refine wp_if_neg (by simp [byScan, Value.scannable]) ?_
  refine wpAny_bind (found R hx hu (fun hm => ?_) fun K hm free busy => ?_)
  · dsimp only
    exact wpAny_pure (q false s.heap L es ep t (Heap.SameBut.refl a s.heap) R (fun _ => rfl) fun z => absurd hm z)
  · dsimp only
    refine wpAny_bind (wpAny_setState_of ho hd R.fit ?_)
    dsimp only
    obtain ⟨j, ej⟩ : ∃ j, way t.mask (thash P w k) K = j := ⟨_, rfl⟩
    obtain ⟨p, epp⟩ : ∃ p, SetTable.below t.place j = p := ⟨_, rfl⟩
    obtain ⟨m1, m2, m3, m4, m5, m6, m7⟩ := R.tb.more free busy ej epp
    rw [ej, m1]
    generalize (t.put j).1 = t1 at m3 m4 m5 m6 m7
    dsimp only
    have pl1 : t1.plain = true := m6.trans R.pl
    have row1 : (SetTable.insertAt es p (thash P w k, Value.ref x)).toList = rowsOf P w (L.take p ++ (x, k) :: L.drop p) := by
      rw [SetTable.toList_insertAt, rows_put, R.row]
    have pm := put_perm L p (x, k)
    have hs1 : (L.take p ++ (x, k) :: L.drop p).map (fun p => thash P w p.2) = (L.map fun p => thash P w p.2).take p ++ thash P w k :: (L.map fun p => thash P w p.2).drop p := by
      rw [List.map_append, List.map_cons, List.map_take, List.map_drop]
    rw [← hs1] at m3
    have nd1 : ((L.take p ++ (x, k) :: L.drop p).map (·.2)).Nodup := (pm.map (·.2)).nodup_iff.mpr (List.nodup_cons.mpr ⟨hm, R.nd⟩)
    have ln1 : (L.take p ++ (x, k) :: L.drop p).length = L.length + 1 := pm.length_eq
    have es1 := (rows_len row1).trans ln1
    generalize SetTable.insertAt es p (thash P w k, Value.ref x) = es' at row1 es1 ⊢
    generalize L.take p ++ (x, k) :: L.drop p = L1 at row1 pm nd1 ln1 m3
    rw [List.length_map] at m7
    refine wp_if_pos pl1 (wpAny_bind (hashBy_tup hx ?_))
    simp only [if_true]
    refine wpAny_bind (wpAny_storeSet_of ho hd ?_ (by rw [es1, sizeLine_eq]; omega))
    have sb : Heap.SameBut a s.heap (s.heap.update a (Obj.putSet es' t1)) := Heap.SameBut.update ..
    have ho1 := store_at (es' := es') (t' := t1) ho hd
    generalize s.heap.update a (Obj.putSet es' t1) = h1 at sb ho1 ⊢
    have tp1 : ∀ p ∈ L1, IsT P w h1 p.2 p.1 := fun p hp => by
      rcases List.mem_cons.mp (pm.mem_iff.mp hp) with rfl | hp
      · exact isT_same hx ho hd sb
      · exact isT_same (R.tp p hp) ho hd sb
    have ld1 : w.params.followText "set-order" = true ∨ t1.led = true := by rw [m5]; exact R.ld
    have full : t1.tooFull = decide ((L.length + 1) * 5 ≥ t.mask * 3) := by
      unfold SetTable.tooFull
      rw [m7, m4]
    by_cases big : (L.length + 1) * 5 ≥ t.mask * 3
    · refine wp_if_pos (by rw [full, decide_eq_true big]; rfl) (wpAny_bind ?_)
      have go : ∀ M, SetTable.sizeAbove (SetTable.grown (L.length + 1)) = M + 1 → Mk M → (L.length + 1) * 5 < M * 3 → wpAny (model P w) A (setRelay a (SetTable.grown (es.size + 1))) (fun _ s' => wpAny (model P w) A (pure true) Q E s') E { s with heap := h1 } := fun M z1 z2 z3 => by
        rw [R.len]
        have z := m3.sz
        rw [List.length_map, ln1] at z
        exact relay (s := { s with heap := h1 }) ho1 ⟨hex.1, hex.2.1, hex.2.2⟩ rfl row1 (z.trans es1.symm) m3.dm (by rw [es1, m4]; omega) nd1 tp1 pl1 ld1 z1 z2 (by rw [ln1]; exact z3) fun h2 L2 es2 ep2 t2 sb2 R2 pm2 => wpAny_pure (q true h2 L2 es2 ep2 t2 (sb.trans sb2) R2 (fun z => absurd z hm) fun _ => pm2.trans pm)
      rcases R.tb.msk with (e | e | e) | e
      · have : L.length = 4 := by rw [e] at room big; omega
        exact go 31 (by rw [this]; exact size_20) (.inl (.inr (.inl rfl))) (by omega)
      · have : L.length = 18 := by rw [e] at room big; omega
        exact go 127 (by rw [this]; exact size_76) (.inl (.inr (.inr rfl))) (by omega)
      · have : L.length = 76 := by rw [e] at room big; omega
        exact go 511 (by rw [this]; exact size_308) (.inr rfl) (by omega)
      · exfalso
        rw [e] at big
        omega
    · refine wp_if_neg (by rw [full, decide_eq_false big]; simp) ?_
      exact wpAny_pure (q true h1 L1 es' (ep + 1) t1 sb ⟨⟨_, ho1, ⟨hex.1, hex.2.1, hex.2.2⟩, rfl⟩, row1, m3, nd1, tp1, pl1, ld1, by rw [ln1, m4]; omega⟩ (fun z => absurd z hm) fun _ => pm)
end
end Sd

set_option Elab.async false
set_option linter.all false
set_option maxRecDepth 100000
set_option maxHeartbeats 4000000
set_option exponentiation.threshold 10000
namespace Sd
open PySem PySem.Spec PyProof.Rows L2
/-- a set that's filled one by one: J i, it has the first i things -/
structure Fill (P : Program) (w : World) (A : Around) (E : Value → Shared → Prop) (S : Addr) (h0 : Heap) (items : Array Value) (J : Nat → Heap → Prop) : Prop where
  keep : ∀ i h h', J i h → (∀ o, h.get? S = some o → h'.get? S = some o) → (∀ b o, h0.get? b = some o → h'.get? b = some o) → J i h'
  put : ∀ (i : Nat) (v : Value) (s : Shared) (Q : Bool → Shared → Prop), items[i]? = some v → J i s.heap → (∀ b o, h0.get? b = some o → s.heap.get? b = some o) →
    (∀ b h' tk, s.toks ≤ tk → Heap.SameBut S s.heap h' → J (i + 1) h' → Q b { s with heap := h', toks := tk }) → wpAny (model P w) A (setAdd S v) Q E s
section
variable {P : Program} {w : World} {A : Around} {E : Value → Shared → Prop} {s : Shared}
theorem fill_loop {I S : Addr} {fp wr : List Addr} {G : Array GenState → Array GenState → Prop} {h0 : Heap} {items : Array Value} {J : Nat → Heap → Prop} {St : Nat → Shared → Prop} {R : Result → Shared → Prop}
    (W : WalksS P w A.in1 I fp wr G items.size (fun i v => items[i]? = some v) St) (fl : ∀ E, Fill P w A.in1 E S h0 items J) (out : S ∉ fp) (hS : h0.get? S = none) (hw : ∀ b ∈ wr, h0.get? b = none) :
    ∀ (n i : Nat) (s : Shared), items.size - i = n → i ≤ items.size → St i s → (∀ b o, h0.get? b = some o → s.heap.get? b = some o) → J i s.heap →
      (∀ s', Moved (S :: wr) G s s' → J items.size s'.heap → (∀ b o, h0.get? b = some o → s'.heap.get? b = some o) → R (.ok (.ret .none)) s') →
      codeAny (model P w) A (.builtin "set.update.loop" ⟨[.ref S, .ref I], []⟩) R s := by
  have away : S ∉ wr := fun z => out (W.sub _ z)
  have more : ∀ b ∈ wr, b ∈ S :: wr := fun b z => List.mem_cons_of_mem _ z
  have base : ∀ {s s' : Shared}, Moved wr G s s' → (∀ b o, h0.get? b = some o → s.heap.get? b = some o) → ∀ b o, h0.get? b = some o → s'.heap.get? b = some o := fun m k b o e => m.heap b o (fun z => by rw [hw b z] at e; cases e) (k b o e)
  intro n
  induction n with
  | zero =>
    intro i s hn hi st k0 j fin
    have e : i = items.size := by omega
    subst e
    refine codeAny_builtin F.entry_set_update_loop ?_
    rw [Around.under_plainId F.plain_set_update_loop _]
    show wpAny _ A.in1 (pyNext (.ref I) >>= _) _ _ s
    refine wpAny_bind (W.done s _ _ st fun s' m => ?_)
    exact wpAny_pure (fin s' (m.mono more) ((fl fun _ _ => False).keep _ _ _ j (fun o e => m.heap S o away e) (base m k0)) (base m k0))
  | succ n ih =>
    intro i s hn hi st k0 j fin
    have lt : i < items.size := by omega
    refine codeAny_builtin F.entry_set_update_loop ?_
    rw [Around.under_plainId F.plain_set_update_loop _]
    show wpAny _ A.in1 (pyNext (.ref I) >>= _) _ _ s
    refine wpAny_bind (W.item i s _ _ lt st fun v s' hv st' m => ?_)
    have k1 := base m k0
    have j1 := (fl fun _ _ => False).keep _ _ _ j (fun o e => m.heap S o away e) k1
    show wpAny _ A.in1 (holding [v] (setAdd S v) >>= _) _ _ s'
    refine wpAny_bind (wpAny_holding ((fl _).put i v s' _ hv j1 k1 fun b h' tk ht sb j2 => ?_))
    have off : ∀ b, b ≠ S → h'.get? b = s'.heap.get? b := sb.2
    have k2 : ∀ b o, h0.get? b = some o → h'.get? b = some o := fun b o e => (off b fun z => by rw [z, hS] at e; cases e).trans (k1 b o e)
    refine wpAny_pure ⟨plainId_quiet F.plain_set_update_loop _, ih (i + 1) _ (by omega) lt (W.frame _ s' _ _ st' ht fun b hb o e => ?_) k2 j2 fun s2 m2 j3 k3 => ?_⟩
    · exact (off b fun z => out (z ▸ hb)).trans e
    · exact fin s2 (Moved.trans W.gtrans ((m.mono more).then_heap ht fun b o nb e => (off b fun z => nb (z ▸ List.mem_cons_self)).trans e) m2) j3 k3
abbrev setObj (w : World) : Obj := { cls := .type "set", dict := none, data := .set #[] 0 (.fresh 0 0 (!w.params.followText "set-order")) }
/-- set(l) -/
theorem call_fill {l : Addr} {items : Array Value} {J : Nat → Heap → Prop} {Q : Value → Shared → Prop} (calm : A.handled = none) (hl : s.heap.IsList l items) (fl : ∀ A' E, A'.units ≤ A.units + 3 → Fill P w A' E s.heap.objs.size s.heap items J) (j0 : ∀ h, h.get? s.heap.objs.size = some (setObj w) → (∀ b o, s.heap.get? b = some o → h.get? b = some o) → J 0 h)
    (q : ∀ (h' : Heap) (tk : Nat), J items.size h' → (∀ b o, s.heap.get? b = some o → h'.get? b = some o) → Q (.ref s.heap.objs.size) { s with heap := h', toks := tk }) :
    wpAny (model P w) A (call (.type "set") [.ref l]) Q E s := by
  obtain ⟨c, tl, hmro⟩ := F.called_set.mro
  have made := F.called_set.made
  have sub := F.called_set.sub
  have n1 := F.called_set.notType
  have n2 := F.called_set.canCreate
  have n3 := F.typeCall_set_1 (.ref l)
  refine wpAny_call (codeAny_of_tree ?_)
  show wpAny _ _ (callAny (.type "set") _) _ _ _
  refine wpAny_pure ⟨Code.quiet_builtin _ (by decide +kernel), codeAny_builtin F.entry_type_call ?_⟩
  rw [Around.under_plain (weight_type_call_type "set" [.ref l] []) rfl]
  repeat (any_goals (first | assumption | wp_step))
  refine codeAny_mono (code_set_led1 (.ref l) (E := E) (Q₁ := fun obj s₁ => obj = .ref s.heap.objs.size ∧ s₁ = { s with heap := s.heap.push (setObj w) }) ⟨rfl, rfl⟩) fun r s1 hr => ?_
  cases r with
  | error e => exact hr
  | ok f =>
    cases f with
    | ret obj =>
      obtain ⟨rfl, rfl⟩ := hr
      have hS : (s.heap.push (setObj w)).get? s.heap.objs.size = some (setObj w) := Heap.get?_push_size _ rfl
      have hT : Shared.TypeIs { s with heap := s.heap.push (setObj w) } (.ref s.heap.objs.size) "set" := ⟨_, hS, rfl⟩
      have i1 := F.called_set.init.lookup
      have i2 := F.called_set.init.bind (.ref s.heap.objs.size)
      repeat (any_goals (first | assumption | wp_step))
      refine codeAny_mono (codeAny_call_builtin (R := wants (fun r s2 => r = .none ∧ ∃ h' tk, s2 = { s with heap := h', toks := tk } ∧ J items.size h' ∧ (∀ b o, s.heap.get? b = some o → h'.get? b = some o)) E) F.called_set.init.plain F.entry_set_init (check_set_init_1 hT ?_)) fun r2 s2 hr2 => ?_
      · obtain ⟨ol, gl, cl, nl, dl⟩ := hl
        obtain ⟨oc, od, odt, osl⟩ := ol
        simp only at cl dl
        subst cl
        subst dl
        have is1 : (s.heap.push (setObj w)).IsList l items := ⟨_, Heap.get?_push_of_some _ gl, rfl, nl, rfl⟩
        have gl' : (s.heap.push (setObj w)).get? l = some { cls := .type "list", dict := od, data := .seq items nl, slots := osl } := Heap.get?_push_of_some _ gl
        have no1 := F.sub_list_set
        have no2 := F.sub_list_frozenset
        have no3 : (Value.type "list" == Value.type "dict") = false := by decide
        have before : l < s.heap.objs.size := Heap.lt_size gl
        have sz1 : (s.heap.push (setObj w)).objs.size = s.heap.objs.size + 1 := Heap.size_push ..
        unfold Builtin.«set.__init__» noKeywords Builtin.Frozenset.updateFrom
        generalize hPI : pyIter = PI
        wp_walk
        subst hPI
        refine wpAny_pyIter_list is1 (wpAny_bind (wpAny_runValue ?_))
        have calm3 : A.in1.in1.in1.handled = none := by simp [calm]
        have empty : ∀ b, s.heap.objs.size ≤ b → s.heap.get? b = none := fun b hb => by
          cases z : s.heap.get? b with
          | none => rfl
          | some o => exact absurd (Heap.lt_size z) (Nat.not_lt_of_le hb)
        have apart : l ≠ (s.heap.push (setObj w)).objs.size := by
          rw [Heap.size_push]
          exact Nat.ne_of_lt (Nat.lt_succ_of_lt before)
        have out : s.heap.objs.size ∉ [(s.heap.push (setObj w)).objs.size, l] := by
          rw [Heap.size_push]
          simp only [List.mem_cons, List.not_mem_nil, or_false, not_or]
          exact ⟨Nat.ne_of_lt (Nat.lt_succ_self _), Nat.ne_of_gt before⟩
        refine fill_loop ((Walks.list calm3 _ l apart items).toS) (fun E' => fl _ E' ?_) out (empty _ (Nat.le_refl _)) (fun b hb => empty b (by rw [List.mem_singleton.mp hb, Heap.size_push]; exact Nat.le_succ _)) (items.size - 0) 0 _ rfl (Nat.zero_le _) ⟨⟨_, Heap.get?_push_size _ rfl, rfl, rfl⟩, (is1.push _)⟩ (fun b o e => Heap.get?_push_of_some _ (Heap.get?_push_of_some _ e)) (j0 _ (Heap.get?_push_of_some _ hS) fun b o e => Heap.get?_push_of_some _ (Heap.get?_push_of_some _ e)) fun s' m j k => ?_
        · simp only [Around.in1_units]
          omega
        · obtain ⟨h', g2, d', tk', os'⟩ := s'
          have e1 : g2 = s.gens := m.gens
          have e2 : d' = s.drawn := m.drawn
          have e3 : os' = s.os := m.os
          subst e1 e2 e3
          show wpAny _ _ _ _ _ _
          refine wpAny_pure ?_
          show wpAny _ _ (ret Value.none) _ _ _
          exact wpAny_pure ⟨rfl, h', tk', rfl, j, k⟩
      · cases r2 with
        | error e => exact hr2
        | ok f2 =>
          cases f2 with
          | ret r =>
            obtain ⟨rfl, h', tk, rfl, j, k⟩ := hr2
            repeat (any_goals (first | assumption | wp_step))
            exact q _ _ j k
          | _ => exact hr2.elim
    | _ => exact hr.elim
end
end Sd

set_option Elab.async false
set_option linter.all false
set_option maxRecDepth 100000
set_option maxHeartbeats 4000000
set_option exponentiation.threshold 10000
namespace Sd
open PySem PySem.Spec PyProof.Rows L2
/-- how many unlike ones -/
def dcount {α : Type} [DecidableEq α] : List α → Nat
  | [] => 0
  | x :: r => if x ∈ r then dcount r else dcount r + 1
theorem dcount_le {α : Type} [DecidableEq α] : ∀ l : List α, dcount l ≤ l.length
  | [] => Nat.le_refl _
  | x :: r => by
    have := dcount_le r
    unfold dcount
    split <;> rw [List.length_cons] <;> omega
theorem dcount_eq {α : Type} [DecidableEq α] : ∀ l : List α, dcount l = l.length ↔ l.Nodup
  | [] => by simp [dcount]
  | x :: r => by
    have ih := dcount_eq r
    have le := dcount_le r
    unfold dcount
    rw [List.nodup_cons, List.length_cons]
    split
    · rename_i h
      exact ⟨fun k => by omega, fun k => absurd h k.1⟩
    · rename_i h
      exact ⟨fun k => ⟨h, ih.mp (by omega)⟩, fun k => by rw [ih.mpr k.2]⟩
def unlike {α : Type} [DecidableEq α] : List α → List α
  | [] => []
  | x :: r => if x ∈ r then unlike r else x :: unlike r
theorem mem_unlike {α : Type} [DecidableEq α] (y : α) : ∀ l : List α, y ∈ unlike l ↔ y ∈ l
  | [] => Iff.rfl
  | x :: r => by
    have ih := mem_unlike y r
    unfold unlike
    split
    · rename_i h
      rw [ih, List.mem_cons]
      exact ⟨.inr, fun z => z.elim (fun e => e ▸ h) id⟩
    · rw [List.mem_cons, List.mem_cons, ih]
theorem nodup_unlike {α : Type} [DecidableEq α] : ∀ l : List α, (unlike l).Nodup
  | [] => List.nodup_nil
  | x :: r => by
    have ih := nodup_unlike r
    unfold unlike
    split
    · exact ih
    · rename_i h
      exact List.nodup_cons.mpr ⟨fun z => h ((mem_unlike x r).mp z), ih⟩
theorem len_unlike {α : Type} [DecidableEq α] : ∀ l : List α, (unlike l).length = dcount l
  | [] => rfl
  | x :: r => by
    have ih := len_unlike r
    unfold unlike dcount
    split
    · exact ih
    · rw [List.length_cons, ih]
theorem dcount_of {α : Type} [DecidableEq α] {l L : List α} (nd : L.Nodup) (h : ∀ x, x ∈ L ↔ x ∈ l) : L.length = dcount l := by
  rw [← len_unlike]
  exact ((List.perm_ext_iff_of_nodup nd (nodup_unlike l)).mpr fun x => by rw [h, mem_unlike]).length_eq
theorem dcount_map {α β : Type} [DecidableEq α] [DecidableEq β] (f : α → β) (l : List α) (inj : ∀ x ∈ l, ∀ y ∈ l, f x = f y → x = y) : dcount (l.map f) = dcount l := by
  induction l with
  | nil => rfl
  | cons x r ih =>
    have ih := ih fun a ha b hb => inj a (List.mem_cons_of_mem _ ha) b (List.mem_cons_of_mem _ hb)
    rw [List.map_cons]
    unfold dcount
    rw [ih]
    have e : f x ∈ r.map f ↔ x ∈ r := by
      rw [List.mem_map]
      exact ⟨fun ⟨y, hy, e⟩ => (inj y (List.mem_cons_of_mem _ hy) x List.mem_cons_self e) ▸ hy, fun h => ⟨x, h, rfl⟩⟩
    by_cases h : x ∈ r
    · rw [if_pos h, if_pos (e.mpr h)]
    · rw [if_neg h, if_neg (fun z => h (e.mp z))]
section
variable {P : Program} {w : World} {A : Around} {E : Value → Shared → Prop} {s : Shared}
def JS (P : Program) (w : World) (S0 : Addr) (xs : List Str) (i : Nat) (h : Heap) : Prop :=
  ∃ L : List Str, L.Nodup ∧ (∀ k, k ∈ L ↔ k ∈ xs.take i) ∧ L.length ≤ i ∧ h.SetOf (PySem.strKind P w) S0 (fun k => decide (k ∈ L)) L.length
theorem strs_fill {S0 : Addr} {h0 : Heap} {items : Array Value} {xs : List Str} (hi : ∀ (i : Nat) v, items[i]? = some v → ∃ x t, xs[i]? = some x ∧ v = .str x t) (few : xs.length ≤ 16) :
    Fill P w A E S0 h0 items (JS P w S0 xs) where
  keep i h h' := by
    rintro ⟨L, nd, me, le, o, es, ep, t, ho, rest⟩ hs _
    exact ⟨L, nd, me, le, o, es, ep, t, hs _ ho, rest⟩
  put i v s Q hv := by
    rintro ⟨L, nd, me, le, so⟩ _ q
    obtain ⟨x, t, hx, rfl⟩ := hi i v hv
    have il := (List.getElem?_eq_some_iff.mp hx).1
    have tk : ∀ k, k ∈ xs.take (i + 1) ↔ k ∈ xs.take i ∨ k = x := fun k => by rw [take_next hx, List.mem_append, List.mem_singleton]
    unfold setAdd
    refine wpAny_holding ?_
    refine wpAny_bind ((PySem.strKind P w).pyHash (k := x) (strKind_is _ _ _ _) ?_)
    refine wpAny_setAddHashed_of (knd := PySem.strKind P w) (s := { s with toks := s.toks + 1 }) (strKind_is _ _ _ _) rfl so (by unfold scanBound; omega) fun h' sb S2 => ?_
    refine q _ h' (s.toks + 1) (Nat.le_succ _) sb ?_
    by_cases h : x ∈ L
    · refine ⟨L, nd, fun k => ?_, by omega, SetOf_congr S2 (fun k => ?_) (by simp [h])⟩
      · rw [tk, me]
        exact ⟨.inl, fun z => z.elim id fun e => e ▸ (me x).mp h⟩
      · by_cases e : k = x
        · subst e; simp [h]
        · simp [e]
    · refine ⟨x :: L, List.nodup_cons.mpr ⟨h, nd⟩, fun k => ?_, by rw [List.length_cons]; omega, SetOf_congr S2 (fun k => ?_) (by simp [h])⟩
      · rw [tk, List.mem_cons, me]
        exact Or.comm
      · by_cases e : k = x
        · subst e; simp
        · simp [e]
def JT (P : Program) (w : World) (S0 : Addr) (ks : List (Addr × List Int)) (i : Nat) (h : Heap) : Prop :=
  ∃ L es ep t, STab P w h S0 L es ep t ∧ (∀ p ∈ L, p ∈ ks.take i) ∧ ∀ p ∈ ks.take i, p.2 ∈ L.map (·.2)
def Small (k : List Int) : Prop := ∃ a b : Nat, k = [(a : Int), (b : Int)] ∧ a < 8 ∧ b < 16
def codeP (k : List Int) : Nat := (k.getD 0 0).toNat * 16 + (k.getD 1 0).toNat
theorem few_small {L : List (List Int)} (nd : L.Nodup) (h : ∀ k ∈ L, Small k) : L.length ≤ 128 := by
  have inj : ∀ x ∈ L, ∀ y ∈ L, codeP x = codeP y → x = y := fun x hx y hy e => by
    obtain ⟨a, b, rfl, h1, h2⟩ := h x hx
    obtain ⟨c, d, rfl, h3, h4⟩ := h y hy
    have e1 : a * 16 + b = c * 16 + d := e
    have : a = c := by omega
    have : b = d := by omega
    subst a b
    rfl
  have nd2 : (L.map codeP).Nodup := by
    clear h
    induction nd with
    | nil => exact List.nodup_nil
    | @cons x l hx _ ih =>
      rw [List.map_cons]
      refine List.nodup_cons.mpr ⟨fun z => ?_, ih fun a ha b hb => inj a (List.mem_cons_of_mem _ ha) b (List.mem_cons_of_mem _ hb)⟩
      obtain ⟨y, hy, e⟩ := List.mem_map.mp z
      exact hx y hy (inj x List.mem_cons_self y (List.mem_cons_of_mem _ hy) e.symm)
  have q := nat_nodup_len (L.map codeP) (List.range 128) nd2 fun x hx => by
    obtain ⟨k, hk, rfl⟩ := List.mem_map.mp hx
    obtain ⟨a, b, rfl, h1, h2⟩ := h k hk
    refine List.mem_range.mpr ?_
    show a * 16 + b < 128
    omega
  rwa [List.length_map, List.length_range] at q
theorem tups_fill {S0 : Addr} {h0 : Heap} {items : Array Value} {ks : List (Addr × List Int)} (hi : ∀ (i : Nat) v, items[i]? = some v → ∃ p, ks[i]? = some p ∧ v = .ref p.1) (hk : ∀ p ∈ ks, IsT P w h0 p.2 p.1) (sm : ∀ p ∈ ks, Small p.2) (hu : A.units < cLine) :
    Fill P w A E S0 h0 items (JT P w S0 ks) where
  keep i h h' := by
    rintro ⟨L, es, ep, t, R, sub, all⟩ hs h0'
    obtain ⟨o, ho, r⟩ := R.ob
    exact ⟨L, es, ep, t, ⟨⟨o, hs _ ho, r⟩, R.row, R.tb, R.nd, fun p hp => isT_keep (hk p (List.mem_of_mem_take (sub p hp))) h0', R.pl, R.ld, R.room⟩, sub, all⟩
  put i v s Q hv := by
    rintro ⟨L, es, ep, t, R, sub, all⟩ k0 q
    obtain ⟨p, hp, rfl⟩ := hi i v hv
    have hx : IsT P w s.heap p.2 p.1 := isT_keep (hk p (List.mem_of_getElem? hp)) k0
    have few : L.length ≤ 128 := by
      have z := few_small R.nd fun k hk' => by
        obtain ⟨y, hy, rfl⟩ := List.mem_map.mp hk'
        exact sm y (List.mem_of_mem_take (sub y hy))
      rwa [List.length_map] at z
    have tk : ∀ y, y ∈ ks.take (i + 1) ↔ y ∈ ks.take i ∨ y = p := fun k => by rw [take_next hp, List.mem_append, List.mem_singleton]
    unfold setAdd
    refine wpAny_holding ?_
    refine wpAny_bind (wpAny_pyHash_tuple hu hx ?_)
    refine put_one (s := { s with toks := s.toks + (p.2.length + 1) }) R hx hu (by omega) fun b h' L' es' ep' t' sb R2 c1 c2 => ?_
    refine q b h' _ (Nat.le_add_right _ _) sb ⟨L', es', ep', t', R2, ?_⟩
    rcases Classical.em (p.2 ∈ L.map (·.2)) with c | c
    · rw [c1 c]
      exact ⟨fun y hy => (tk y).mpr (.inl (sub y hy)), fun y hy => ((tk y).mp hy).elim (all y) fun e => e ▸ c⟩
    · have pm := c2 c
      refine ⟨fun y hy => (tk y).mpr ?_, fun y hy => ?_⟩
      · rcases List.mem_cons.mp (pm.mem_iff.mp hy) with rfl | hy
        · exact .inr rfl
        · exact .inl (sub y hy)
      · rcases (tk y).mp hy with hy | rfl
        · obtain ⟨z, hz, e⟩ := List.mem_map.mp (all y hy)
          exact List.mem_map.mpr ⟨z, pm.mem_iff.mpr (List.mem_cons_of_mem _ hz), e⟩
        · exact List.mem_map.mpr ⟨_, pm.mem_iff.mpr List.mem_cons_self, rfl⟩
end
theorem strs_of {K : PySem.W.Frag} {W : Addr → Prop} {H : Hp} : ∀ {xs : List (List Nat)} {vs : List V} {us : List Value}, RpL K W H vs (xs.map tx) → Vals vs us → ∀ (i : Nat) v, us[i]? = some v → ∃ x t, (xs.map S)[i]? = some x ∧ v = .str x t
  | [], _, _, .nil, .nil, i, v, h => by simp at h
  | x :: xs, _, _, .cons h _, .cons r _, 0, v, e => by
    cases h
    obtain ⟨t, rfl⟩ := r
    simp only [List.getElem?_cons_zero, Option.some.injEq] at e
    exact ⟨S x, t, rfl, e.symm⟩
  | x :: xs, _, _, .cons _ h, .cons _ r, i + 1, v, e => by
    simp only [List.getElem?_cons_succ] at e
    exact strs_of h r i v e
abbrev pairN (p : Nat × Nat) : D := .tup [.int (p.1 : Int), .int (p.2 : Int)]
def keyP (p : Nat × Nat) : List Int := [(p.1 : Int), (p.2 : Int)]
theorem keyP_inj {x y : Nat × Nat} (h : keyP x = keyP y) : x = y := by
  obtain ⟨a, b⟩ := x
  obtain ⟨c, d⟩ := y
  injection h with h1 h2
  injection h2 with h2 h3
  have e1 : (a : Int) = c := h1
  have e2 : (b : Int) = d := h2
  have : a = c := by omega
  have : b = d := by omega
  subst a b
  rfl
theorem tups_of {K : PySem.W.Frag} {W : Addr → Prop} {H : Hp} : ∀ {xs : List (Nat × Nat)} {vs : List V}, RpL K W H vs (xs.map pairN) → ∃ ks : List (Addr × List Int), vs = ks.map (fun p => V.ref p.1) ∧ ks.map (·.2) = xs.map keyP ∧ ∀ p ∈ ks, SqT K H p.1 (p.2.map V.int)
  | [], _, .nil => ⟨[], rfl, rfl, fun p h => nomatch h⟩
  | x :: xs, _, .cons h r => by
    obtain ⟨ks, e1, e2, e3⟩ := tups_of r
    obtain ⟨a, ws, rfl, s, q⟩ := rpTup h
    cases q with
    | cons q1 q2 =>
      cases q2 with
      | cons q2 q3 =>
        cases q3
        cases q1
        cases q2
        refine ⟨(a, keyP x) :: ks, by rw [e1]; rfl, by rw [List.map_cons, e2]; rfl, fun p hp => ?_⟩
        rcases List.mem_cons.mp hp with rfl | hp
        · exact s
        · exact e3 p hp
section
variable {B : Bx} {a : Expr} {Γ : Env} {p p2 q pos : Pos}
theorem de_lenSetS {xs : List (List Nat)} (ha : DE B a Γ (.lst (xs.map tx))) (hl : xs.length ≤ 16) (hm : B.X.mg "len" = none) (hm2 : B.X.mg "set" = none) (hh : B.hot = false := by rfl) (hg : Gl B.X "len" := by rfl) (hg2 : Gl B.X "set" := by rfl) (hs : starEach [a] B.X.env = (false, eval a B.X.env) :: starEach [] B.X.env := by rfl) :
    DE B (.Call (.Name "len" p) [.Call (.Name "set" p2) [a] [] q] [] pos) Γ (.int (dcount xs : Nat)) :=
  de_of fun T σ H Q st k pins s I => by
    refine Call_ (ld_blt I hg hm PySem.boot_len ?_)
    refine PyProof.Rows.callWith_builtin1 (PyProof.Rows.args_cons ?_ rfl) rfl rfl
    refine Call_ (ld_blt I hg2 hm2 PyProof.Rows.boot_set ?_)
    refine PyProof.Rows.callWith_type1 (PyProof.Rows.args_cons (thn (ha.run (Q := fun v H1 => B.St H1 σ Γ (.v v (.lst (xs.map tx)) :: T)) st (fun v H1 st1 => st1) pins s I) fun v s1 ⟨x, H1, I1, r1, st1⟩ => PyProof.Rows.args_nil ?_) hs) hs rfl
    obtain ⟨W, wd, hr⟩ := st1.head
    obtain ⟨l, vs, rfl, hq, _, _, hv⟩ := rpLst hr
    cases (show v = Value.ref l from r1)
    obtain ⟨its, r, pl, hz⟩ := I1.list hq
    have len : its.length = xs.length := by rw [← r.length, hv.length, List.length_map]
    refine call_fill (B.hd hh) pl.isList (fun A' E _ => strs_fill (xs := xs.map S) (fun i v e => strs_of hv r i v (by simpa using e)) (by rw [List.length_map]; exact hl)) (fun h e _ => ⟨[], List.nodup_nil, fun k => by simp, Nat.le_refl _, _, #[], 0, _, e, ⟨rfl, rfl, rfl⟩, rfl, fun e he => by simp at he, fun k => by simp, by decide, by rfl, rfl⟩) fun h' tk j kp => ?_
    obtain ⟨L, nd, me, le, o, es, ep, t, ho, hex, hd, _, _, _, hf, hn⟩ := j
    have cnt : L.length = dcount xs := by
      rw [← dcount_map S xs fun x _ y _ e => S_inj e]
      refine dcount_of nd fun k => ?_
      rw [me, List.take_of_length_le (by rw [List.length_map, List.size_toArray, len]; exact Nat.le_refl _)]
    refine PyProof.Rows.args_nil ?_
    have I2 : Inv B.X pins σ H1 { s1 with heap := h', toks := tk } := I1.kept kp
    rw [List.size_toArray, len] at le
    refine call_len_set ho hex hd hf (by rw [hn]; omega) ⟨.int (dcount xs : Nat), H1, I2.tok _, ⟨_, by rw [hn, cnt]⟩, k _ _ st1.tail.int⟩
theorem de_lenSetT {xs : List (Nat × Nat)} (ha : DE B a Γ (.lst (xs.map pairN))) (hl : xs.length ≤ 20000) (hb : ∀ x ∈ xs, x.1 < 8 ∧ x.2 < 16) (hm : B.X.mg "len" = none) (hm2 : B.X.mg "set" = none) (hh : B.hot = false := by rfl) (hg : Gl B.X "len" := by rfl) (hg2 : Gl B.X "set" := by rfl) (hs : starEach [a] B.X.env = (false, eval a B.X.env) :: starEach [] B.X.env := by rfl) :
    DE B (.Call (.Name "len" p) [.Call (.Name "set" p2) [a] [] q] [] pos) Γ (.int (dcount xs : Nat)) :=
  de_of fun T σ H Q st k pins s I => by
    refine Call_ (ld_blt I hg hm PySem.boot_len ?_)
    refine PyProof.Rows.callWith_builtin1 (PyProof.Rows.args_cons ?_ rfl) rfl rfl
    refine Call_ (ld_blt I hg2 hm2 PyProof.Rows.boot_set ?_)
    refine PyProof.Rows.callWith_type1 (PyProof.Rows.args_cons (thn (ha.run (Q := fun v H1 => B.St H1 σ Γ (.v v (.lst (xs.map pairN)) :: T)) st (fun v H1 st1 => st1) pins s I) fun v s1 ⟨x, H1, I1, r1, st1⟩ => PyProof.Rows.args_nil ?_) hs) hs rfl
    obtain ⟨W, wd, hr⟩ := st1.head
    obtain ⟨l, vs, rfl, hq, _, _, hv⟩ := rpLst hr
    cases (show v = Value.ref l from r1)
    obtain ⟨its, r, pl, hz⟩ := I1.list hq
    obtain ⟨ks, rfl, ke, hk⟩ := tups_of hv
    have ln : ks.length = xs.length := by
      have := congrArg List.length ke
      rwa [List.length_map, List.length_map] at this
    have len : its.length = xs.length := by rw [← r.length, List.length_map, ln]
    have itk : its = ks.map fun p => Value.ref p.1 := refs_of_vals r
    have small : ∀ p ∈ ks, Small p.2 := fun p hp => by
      have m : p.2 ∈ xs.map keyP := ke ▸ List.mem_map.mpr ⟨p, hp, rfl⟩
      obtain ⟨x, hx, e⟩ := List.mem_map.mp m
      exact ⟨x.1, x.2, e.symm, hb x hx⟩
    refine call_fill (B.hd hh) pl.isList (fun A' E hu => tups_fill (ks := ks) (fun i v e => ?_) (fun p hp => I1.isT (hk p hp)) small (by have := B.un64; omega)) (fun h e _ => ⟨[], #[], 0, _, ⟨⟨_, e, ⟨rfl, rfl, rfl⟩, rfl⟩, rfl, ⟨List.Pairwise.nil, rfl, rfl, .inl (.inl rfl), fun x hx => (by cases hx), fun i h j hi => (by simp at hi)⟩, List.nodup_nil, fun p hp => (by cases hp), rfl, ?_, (show 0 * 5 < 7 * 3 by decide)⟩, fun p hp => (by cases hp), fun p hp => (by simp at hp)⟩) fun h' tk j kp => ?_
    · have e' : its[i]? = some v := by simpa using e
      rw [itk, List.getElem?_map] at e'
      cases z : ks[i]? with
      | none => rw [z] at e'; cases e'
      | some p =>
        rw [z] at e'
        exact ⟨p, rfl, (Option.some.inj e').symm⟩
    · show _ ∨ (!B.X.w.params.followText "set-order") = true
      cases B.X.w.params.followText "set-order"
      · exact .inr rfl
      · exact .inl rfl
    · obtain ⟨L, es, ep, t, R, sub, all⟩ := j
      have tk0 : ks.take its.toArray.size = ks := List.take_of_length_le (by rw [List.size_toArray, len, ln]; exact Nat.le_refl _)
      rw [tk0] at sub all
      have cnt : L.length = dcount xs := by
        rw [← dcount_map keyP xs fun x _ y _ e => keyP_inj e, ← List.length_map (f := (·.2))]
        refine dcount_of R.nd fun k => ?_
        rw [← ke]
        refine ⟨fun h => ?_, fun h => ?_⟩
        · obtain ⟨p, hp, e⟩ := List.mem_map.mp h
          exact List.mem_map.mpr ⟨p, sub p hp, e⟩
        · obtain ⟨p, hp, rfl⟩ := List.mem_map.mp h
          exact all p hp
      obtain ⟨o, ho, hex, hd⟩ := R.ob
      refine PyProof.Rows.args_nil ?_
      have I2 : Inv B.X pins σ H1 { s1 with heap := h', toks := tk } := I1.kept kp
      have le := dcount_le xs
      have sz := STab.len (s := { s1 with heap := h', toks := tk }) R
      refine call_len_set ho hex hd (STab.fit (s := { s1 with heap := h', toks := tk }) R) (by omega) ⟨.int (dcount xs : Nat), H1, I2.tok _, ⟨_, by rw [sz, cnt]⟩, k _ _ st1.tail.int⟩
end
end Sd

set_option Elab.async false
set_option linter.all false
set_option maxRecDepth 100000
set_option maxHeartbeats 4000000
set_option exponentiation.threshold 10000
namespace Sd
open PySem PySem.Spec PyProof.Rows L2
/-- a pattern as data -/
abbrev PatD (Ct Cp : Addr) (ps : List PT) (ss : List (List Nat)) : D := .obj Ct [("pieces", .lst (ps.map (ptD' Cp))), ("seams", .lst (ss.map seamD))]
theorem lp_p {Cp : Addr} {ps : List PT} {ss : List (List Nat)} : List.lookup ("pieces" : Str) [(("pieces" : Str), D.lst (ps.map (ptD' Cp))), ("seams", .lst (ss.map seamD))] = some (.lst (ps.map (ptD' Cp))) := rfl
theorem lp_s {Cp : Addr} {ps : List PT} {ss : List (List Nat)} : List.lookup ("seams" : Str) [(("pieces" : Str), D.lst (ps.map (ptD' Cp))), ("seams", .lst (ss.map seamD))] = some (.lst (ss.map seamD)) := rfl
def rowOf (ps : List PT) (k : Nat) : List Pt := match ps[k]? with
  | some p => p.row
  | none => []
theorem ix_piece {Cp : Addr} {ps : List PT} {k : Nat} {p : PT} (h : ps[k]? = some p) : IxD (.lst (ps.map (ptD' Cp))) (k : Int) (ptD' Cp p) := by
  have hl : k < ps.length := (List.getElem?_eq_some_iff.mp h).1
  show atI (ps.map (ptD' Cp)) (k : Int) = some _
  rw [atI_nat (by rw [List.length_map]; exact hl), List.getElem?_map, h]
  rfl
/-- pieces whose numbers may be kept -/
def OkP (ps : List PT) : Prop := ps.length ≤ 8 ∧ ∀ p ∈ ps, p.row.length ≤ 16 ∧ SzR 63 p.row
theorem rowOf_ok {ps : List PT} (h : OkP ps) (k : Nat) : SzR 63 (rowOf ps k) ∧ (rowOf ps k).length ≤ 16 := by
  unfold rowOf
  cases e : ps[k]? with
  | none => exact ⟨fun p hp => absurd hp (by simp), by simp⟩
  | some p => exact ⟨(h.2 p (List.mem_of_getElem? e)).2, (h.2 p (List.mem_of_getElem? e)).1⟩
theorem tg_four {B : Bx} {p1 p2 p3 p4 tp : Pos} {kk : Nat} {n m o u : Str} {d e f g : D} (i j k l : Nat) (hh : B.hot = false := by rfl) (hN : B.X.N[i]? = some n := by rfl) (hx : Loc B.X.env.scope n := by first | exact Or.inl rfl | exact Or.inr rfl) (hf : B.X.fn n = true ∨ B.X.env.scope.names.lookup n = some .local := by first | exact .inl rfl | exact .inr rfl)
    (hN2 : B.X.N[j]? = some m := by rfl) (hx2 : Loc B.X.env.scope m := by first | exact Or.inl rfl | exact Or.inr rfl) (hf2 : B.X.fn m = true ∨ B.X.env.scope.names.lookup m = some .local := by first | exact .inl rfl | exact .inr rfl)
    (hN3 : B.X.N[k]? = some o := by rfl) (hx3 : Loc B.X.env.scope o := by first | exact Or.inl rfl | exact Or.inr rfl) (hf3 : B.X.fn o = true ∨ B.X.env.scope.names.lookup o = some .local := by first | exact .inl rfl | exact .inr rfl)
    (hN4 : B.X.N[l]? = some u := by rfl) (hx4 : Loc B.X.env.scope u := by first | exact Or.inl rfl | exact Or.inr rfl) (hf4 : B.X.fn u = true ∨ B.X.env.scope.names.lookup u = some .local := by first | exact .inl rfl | exact .inr rfl)
    (hs : (assignEach [.Name n p1, .Name m p2, .Name o p3, .Name u p4] B.X.env).map (·.2) = assign (.Name n p1) B.X.env :: (assignEach [.Name m p2, .Name o p3, .Name u p4] B.X.env).map (·.2) := by rfl) (hs2 : (assignEach [.Name m p2, .Name o p3, .Name u p4] B.X.env).map (·.2) = assign (.Name m p2) B.X.env :: (assignEach [.Name o p3, .Name u p4] B.X.env).map (·.2) := by rfl)
    (hs3 : (assignEach [.Name o p3, .Name u p4] B.X.env).map (·.2) = assign (.Name o p3) B.X.env :: (assignEach [.Name u p4] B.X.env).map (·.2) := by rfl) (hs4 : (assignEach [.Name u p4] B.X.env).map (·.2) = assign (.Name u p4) B.X.env :: (assignEach [] B.X.env).map (·.2) := by rfl)
    (hn : (assignEach [.Name n p1, .Name m p2, .Name o p3, .Name u p4] B.X.env).length = 4 := by rfl) (hst : (assignEach [.Name n p1, .Name m p2, .Name o p3, .Name u p4] B.X.env).findIdx? (·.1) = none := by rfl) : TgN B (.Tuple [.Name n p1, .Name m p2, .Name o p3, .Name u p4] kk tp) (.tup [d, e, f, g]) [i, j, k, l] [d, e, f, g] :=
  tg_tup [i, j, k, l] (pgs_cons (pg_name B.nd hN hx hf) (pgs_cons (pg_name B.nd hN2 hx2 hf2) (pgs_cons (pg_name B.nd hN3 hx3 hf3) (pgs_cons (pg_name B.nd hN4 hx4 hf4) pgs_nil hs4) hs3) hs2) hs) rfl hn hst hh
end Sd

set_option Elab.async false
set_option linter.all false
set_option maxRecDepth 100000
set_option maxHeartbeats 4000000
set_option exponentiation.threshold 10000
namespace Sd
open PySem PySem.Spec PyProof.Rows L2
end Sd

set_option Elab.async false
set_option linter.all false
set_option maxRecDepth 100000
set_option maxHeartbeats 4000000
set_option exponentiation.threshold 10000
namespace Sd
open PySem PySem.Spec PyProof.Rows L2
end Sd

set_option exponentiation.threshold 256
set_option Elab.async false
set_option linter.all false
set_option maxRecDepth 100000
set_option maxHeartbeats 4000000
namespace Sd
open PySem PySem.Spec PyProof.Rows L2
section
variable {P : Program} {w : World} {K : PySem.W.Frag} {mg : Str → Option Value} {base : Heap}
theorem fnC_intro {x qual : Str} {st : Stmt} {f : Addr} {fd : FuncData} {N ps : List Str} {k : Nat} {F : FS} (Fu : Fun K x qual st f fd) (S : FnScope N ps (defScope st)) (hlen : ∀ ds r, F ds r → ds.length = ps.length)
    (hb : ∀ (cd : Value) (A : Around) (outer : List PySem.Env) (s : Shared) (H : Hp) (E : XK) (W : Addr → Prop) (room : Room k (A.deeper (envOfC qual (defScope st) s.heap.objs.size f cd))) (ds : List D) (r : Res), F ds r →
      SsW (bxH P w K mg base N qual (defScope st) f cd A outer s H E k W (fun _ => False) room S.nd) (defBody st) (env0 N ds) (postF r)) : FnOk P w K mg base (L2.CX P w) (k + 1) f fd ps (spF K F) := by
  obtain ⟨oc, od, kV, doc, pm, an, cdv, ct, osl, rfl, lk, hcd⟩ := Fu.ex
  refine fn_of lk hcd S (fun vs H Q E h => ?_) fun A outer s H vs Q E room h => ?_
  · obtain ⟨W, ds, r, _, hr, hF, _⟩ := h
    exact hr.length.trans (hlen ds r hF)
  · obtain ⟨W, ds, r, wd, hr, hF, hres⟩ := h
    exact ⟨_, semSs, hb cdv A outer s H E W room ds r hF [] _ H _ (good0 wd hr (by rw [hlen ds r hF]; exact params_le S)) (real0 rfl rfl rfl hres)⟩
end
/-! ## a dict whose values go by their keys -/
theorem valD_put (kvs : List (Key × D)) (k : Key) (v : D) (k2 : Key) : valD (putKD kvs k v) k2 = if k = k2 then some v else valD kvs k2 := by
  have lem : ∀ kvs : List (Key × D), ((kvs.map fun kv => if kv.1 = k then (kv.1, v) else kv).find? fun kv => decide (kv.1 = k2)).map (·.2) = if k = k2 ∧ (kvs.any fun kv => decide (kv.1 = k)) = true then some v else valD kvs k2 := fun kvs => by
    induction kvs with
    | nil => simp [valD]
    | cons x r ih =>
      unfold valD at ih ⊢
      by_cases h1 : x.1 = k
      · by_cases h2 : k = k2
        · simp [h1, h2]
        · simp only [List.map_cons, h1, if_true, List.find?_cons, decide_eq_false h2, ih]
          simp [h2]
      · by_cases h2 : x.1 = k2
        · have h3 : k ≠ k2 := fun z => h1 (h2.trans z.symm)
          simp only [List.map_cons, if_neg h1, List.find?_cons, decide_eq_true h2, if_neg (show ¬ (k = k2 ∧ ((x :: r).any fun kv => decide (kv.1 = k)) = true) from fun z => h3 z.1)]
        · rw [List.any_cons, decide_eq_false h1, Bool.false_or]
          simp only [List.map_cons, if_neg h1, List.find?_cons, decide_eq_false h2]
          exact ih
  unfold putKD
  by_cases h : (kvs.any fun kv => decide (kv.1 = k)) = true
  · rw [if_pos h]
    show ((kvs.map fun kv => if kv.1 = k then (kv.1, v) else kv).find? fun kv => decide (kv.1 = k2)).map (·.2) = _
    rw [lem kvs]
    by_cases h2 : k = k2
    · rw [if_pos ⟨h2, h⟩, if_pos h2]
    · rw [if_neg (fun z => h2 z.1), if_neg h2]
  · rw [if_neg h]
    unfold valD
    rw [List.find?_append]
    by_cases h2 : k = k2
    · subst h2
      rw [if_pos rfl]
      have : (kvs.find? fun kv => decide (kv.1 = k)) = none := by
        rw [List.find?_eq_none]
        intro x hx hk
        exact h (List.any_eq_true.mpr ⟨x, hx, hk⟩)
      rw [this]
      simp
    · rw [if_neg h2]
      cases (kvs.find? fun kv => decide (kv.1 = k2)) with
      | some x => rfl
      | none => simp [h2]
theorem valD_merge {α : Type} (key : α → Key) (inj : ∀ x y, key x = key y → x = y) (g : α → D) [DecidableEq α] (x : α) : ∀ (l : List α) (kvs : List (Key × D)), valD (mergeKD kvs (l.map fun c => (key c, g c))) (key x) = if x ∈ l then some (g x) else valD kvs (key x)
  | [], kvs => by rw [if_neg (by simp)]; rfl
  | c :: l, kvs => by
    show valD (mergeKD (putKD kvs (key c) (g c)) (l.map fun c => (key c, g c))) (key x) = _
    rw [valD_merge key inj g x l, valD_put]
    by_cases h1 : x ∈ l
    · rw [if_pos h1, if_pos (List.mem_cons_of_mem _ h1)]
    · rw [if_neg h1]
      by_cases h2 : c = x
      · subst h2
        rw [if_pos rfl, if_pos List.mem_cons_self]
      · rw [if_neg (fun z => h2 (inj _ _ z)), if_neg (fun z => (List.mem_cons.mp z).elim (fun z => h2 z.symm) h1)]
end Sd

set_option Elab.async false
set_option linter.all false
set_option maxRecDepth 100000
set_option maxHeartbeats 4000000
set_option exponentiation.threshold 10000
namespace Sd
open PySem PySem.Spec PyProof.Rows L2
/-- the signs that may be in a text -/
abbrev letinS : Str := Str.ofString "ABCDEFGHIJKLMNOPQRSTUVWXYZabcdefghijklmnopqrstuvwxyz0123456789(),=+-*/; \n.#"
def LI : List Nat := letinS.cps.toList
theorem letin_S : letinS = S LI := by decide +kernel
/-- a byte's sign -/
def sg (b : Nat) : Nat := if b ∈ LI then b else 9
theorem li_small : ∀ c ∈ LI, c < 128 := by decide +kernel
theorem sg_lt (b : Nat) : sg b < 256 := by
  unfold sg
  split
  · rename_i h
    have := li_small b h
    omega
  · omega
theorem nat_inj {x y : Nat} (h : D.int (x : Int) = D.int (y : Int)) : x = y := by
  injection h with h
  omega
theorem join1 (l : List Nat) : Txt.join (S []) (l.map fun c => S [c]) = S l := by
  have e : ∀ l : List Nat, TL.joinL [] (l.map fun c => [c]) = l := fun l => by
    induction l with
    | nil => rfl
    | cons c r ih =>
      cases r with
      | nil => rfl
      | cons d r =>
        show [c] ++ ([] ++ TL.joinL [] ((d :: r).map fun c => [c])) = _
        rw [ih]
        rfl
  have q := SX.join_S [] (l.map fun c => [c])
  rw [List.map_map, e l] at q
  exact q
section
variable {P : Program} {w : World} {K : PySem.W.Frag} {mg : Str → Option Value} {base : Heap} {Cp Cl Ct Cf Cr : Addr}
theorem sc_text_of : FnScope ["row", "signs", "sign", "byte"] ["row"] (defScope s_text_of) := ⟨rfl, rfl, rfl, by decide +kernel, rfl, by decide +kernel, by decide +kernel⟩
abbrev bytesD (b : List Nat) : D := .raw (b.map fun (c : Nat) => D.int (c : Int))
def F_text_of : FS := fun ds r => ∃ b : List Nat, ds = [bytesD b] ∧ b.length ≤ 4200 ∧ r = .ret (tx (b.map sg))
theorem fn_text_of (T : FunT K mg "text_of" s_text_of ["row"]) (hOrd : mg "ord" = none) (hDict : mg "dict" = none) (hL : ∃ t, mg "LET_IN" = some (.str letinS t)) (hS : ∃ t, mg "STRANGE" = some (.str "\t" t)) : FnN P w K mg base "text_of" 1 F_text_of := fnN T fun f fd Fu => by
  obtain ⟨t, hL⟩ := hL
  obtain ⟨t2, hS⟩ := hS
  refine fn_intro Fu sc_text_of (fun ds r h => ?_) fun cd A outer s H E W room ds r h => ?_
  · obtain ⟨b, rfl, _⟩ := h
    rfl
  · obtain ⟨b, rfl, hb, rfl⟩ := h
    have e1 : (.lst (LI.map fun (c : Nat) => D.tup [.int (c : Int), tx [c]]) : D) = .lst ((LI.map fun (c : Nat) => ((.inl (c : Int) : Key), tx [c])).map fun kv => .tup [keyD kv.1, kv.2]) := by
      rw [List.map_map]
      rfl
    refine ss_cons (sw_setD 1 (de_bty hDict (des_cons (de_is (de_mapE (own := [("sign", 2)]) (xs := LI) 2 (fun c => tx [c]) (fun _ _ => sign_inj) (fun c => .tup [.int (c : Int), tx [c]]) (signs_S LI ▸ sd_str (de_is (de_gstr hL) (congrArg D.str letin_S))) rfl (by decide +kernel)
      (he := fun F s H cl C fp c hc => de_tup (des_cons (de_bi hOrd (des_cons (de_var 2) des_nil) cd_ord) (des_cons (de_var 2) des_nil)))) e1) des_nil) cd_dict) ?_)
    have hs : (b.map fun (c : Nat) => tx [sg c]) = (b.map fun c => S [sg c]).map D.str := by rw [List.map_map]; rfl
    refine ss_one (sw_retD (de_is (de_join (a := S []) (ys := b.map fun c => S [sg c]) de_str (de_is (de_mapE (own := [("byte", 3)]) (xs := b) 3 (fun (c : Nat) => D.int (c : Int)) (fun _ _ => nat_inj) (fun c => tx [sg c]) (sd_raw (de_var 0)) rfl (by omega)
      (he := fun F s H cl C fp c hc => de_is (de_get2 (k := .inl (c : Int)) (d := tx [9]) (de_var 1) (de_var 3) (de_gstr hS)) ?_)) (congrArg D.lst hs)) ?_) ?_) rfl)
    · rw [valD_merge (fun (c : Nat) => (.inl (c : Int) : Key)) (fun x y h => by injection h with h; omega) (fun c => tx [c]) c LI []]
      unfold sg
      split <;> rfl
    · have : ∀ l : List Nat, ((l.map fun c => S [sg c]).map (·.length)).sum = l.length := fun l => by
        induction l with
        | nil => rfl
        | cons c r ih =>
          rw [List.map_cons, List.map_cons, List.sum_cons, ih, show (S [sg c]).length = 1 from S_len _, List.length_cons]
          omega
      rw [this, List.length_map, S_len, List.length_nil]
      omega
    · have q := join1 (b.map sg)
      rw [List.map_map] at q
      exact congrArg D.str q
end
end Sd

set_option Elab.async false
set_option linter.all false
set_option maxRecDepth 100000
set_option maxHeartbeats 4000000
set_option exponentiation.threshold 10000
namespace Sd
open PySem PySem.Spec PyProof.Rows L2
section
variable {P : Program} {w : World} {K : PySem.W.Frag} {mg : Str → Option Value} {base : Heap} {Cp Cl Ct Cf Cr : Addr}
/-! ### require, want_short, told, refused -/
abbrev refG (ts : List D) (n : Int) : List (Str × D) := [("told", .lst ts), ("refusal", .int n)]
theorem sc_require : FnScope ["is_so", "refusal"] ["is_so", "refusal"] (defScope s_require) := ⟨rfl, rfl, rfl, by decide +kernel, rfl, by decide +kernel, by decide +kernel⟩
def F_require (Cr : Addr) : FS := fun ds r => ∃ (k : Bool) (n : Int), ds = [.bl k, .int n] ∧ r = if k = true then .ret .non else .exc Cr (refG [] n)
theorem fn_require (T : FunT K mg "require" s_require ["is_so", "refusal"]) (hX : Xc (L2N.CX P w) P w K mg base "Refused" Cr 2 ["refusal", "told"]) : FnN P w K mg base "require" 4 (F_require Cr) := fnN T fun f fd Fu => by
  refine fn_intro Fu sc_require (fun ds r h => ?_) fun cd A outer s H E W room ds r h => ?_
  · obtain ⟨k, n, rfl, _⟩ := h
    rfl
  · obtain ⟨k, n, rfl, rfl⟩ := h
    refine ss_one (sw_ifD (td_not (td_val (de_var 0))) (fun c => ?_) fun c => ?_)
    · refine ss_one (sw_raise hX (by exact Nat.le_of_ble_eq_true rfl) (aw_pure (des_cons (de_var 1) (des_cons (de_lst des_nil) des_nil)) ⟨rfl, ?_⟩))
      show (if k = true then Res.ret .non else .exc Cr (refG [] n)) = _
      cases k with
      | true => cases c
      | false => rfl
    · refine ss_nil ?_
      show (if k = true then Res.ret .non else .exc Cr (refG [] n)) = _
      cases k with
      | true => rfl
      | false => cases c
theorem sc_want_short : FnScope ["rows", "row"] ["rows"] (defScope s_want_short) := ⟨rfl, rfl, rfl, by decide +kernel, rfl, by decide +kernel, by decide +kernel⟩
def F_want_short (Cr : Addr) : FS := fun ds r => ∃ bs : List (List Nat), ds = [.lst (bs.map bytesD)] ∧ bs.length ≤ 10 ∧ r = if (bs.all fun b => decide (b.length ≤ 4096)) = true then .ret .non else .exc Cr (refG [] (-1))
theorem bytes_inj {a b : List Nat} (h : bytesD a = bytesD b) : a = b := by
  injection h with h
  revert b
  induction a with
  | nil =>
    intro b e
    cases b with
    | nil => rfl
    | cons y b => cases e
  | cons x a ih =>
    intro b e
    cases b with
    | nil => cases e
    | cons y b =>
      injection e with e1 e2
      rw [nat_inj e1, ih e2]
theorem fn_want_short (T : FunT K mg "want_short" s_want_short ["rows"]) (hLen : mg "len" = none) (hAll : mg "all" = none) (hM : ∃ t, mg "MOST_BYTES" = some (.int 4096 t)) (hT : ∃ t, mg "TOO_LONG" = some (.int (-1) t)) (hR : FnN P w K mg base "require" 4 (F_require Cr)) : FnN P w K mg base "want_short" 5 (F_want_short Cr) := fnN T fun f fd Fu => by
  obtain ⟨t, hM⟩ := hM
  obtain ⟨t2, hT⟩ := hT
  refine fn_intro Fu sc_want_short (fun ds r h => ?_) fun cd A outer s H E W room ds r h => ?_
  · obtain ⟨bs, rfl, _⟩ := h
    rfl
  · obtain ⟨bs, rfl, hb, rfl⟩ := h
    refine ss_one (sw_expr (ew_call hR (h := aw_pure (des_cons (de_bi hAll (des_cons (de_mapE (own := [("row", 1)]) (xs := bs) 1 bytesD (fun _ _ => bytes_inj) (fun b => .bl (decide (b.length ≤ 4096))) (sd_list (de_var 0)) rfl (by omega)
      (he := fun F s H cl C fp b hb => de_is (de_cmp (de_bi hLen (des_cons (de_var 1) des_nil) cd_lenR) (de_gint hM) od_le) ?_)) des_nil) cd_allP) (des_cons (de_gint hT) des_nil)) ⟨_, ⟨_, _, rfl, rfl⟩, ?_⟩)))
    · rw [List.length_map]
      congr 1
      exact decide_eq_decide.mpr ⟨fun h => by omega, fun h => by omega⟩
    · cases e : (bs.all fun b => decide (b.length ≤ 4096)) with
      | true => rfl
      | false => rfl
theorem sc_told : FnScope ["number", "row", "signed"] ["number", "row", "signed"] (defScope s_told) := ⟨rfl, rfl, rfl, by decide +kernel, rfl, by decide +kernel, by decide +kernel⟩
abbrev toldD (n : Int) (row sd : List D) : D := .lst ([.int n, .int (row.length : Int)] ++ row ++ [.int (sd.length : Int)] ++ sd)
def F_told : FS := fun ds r => ∃ (n : Int) (row sd : List D), ds = [.int n, .lst row, .lst sd] ∧ row.length ≤ 1000000 ∧ sd.length ≤ 1000 ∧ r = .ret (toldD n row sd)
theorem told_len {n : Nat} {row sd : List D} (h1 : row.length ≤ 1000000) (h2 : sd.length ≤ 1000) (hn : n ≤ row.length + sd.length + 100) : n ≤ sizeLine := by
  rw [sizeLine_eq]
  omega
theorem fn_told (T : FunT K mg "told" s_told ["number", "row", "signed"]) (hLen : mg "len" = none) : FnN P w K mg base "told" 1 F_told := fnN T fun f fd Fu => by
  refine fn_intro Fu sc_told (fun ds r h => ?_) fun cd A outer s H E W room ds r h => ?_
  · obtain ⟨n, row, sd, rfl, _⟩ := h
    rfl
  · obtain ⟨n, row, sd, rfl, h1, h2, rfl⟩ := h
    exact ss_one (sw_retD (de_op (de_op (de_op (de_lst (des_cons (de_var 0) (des_cons (de_bi hLen (des_cons (de_var 1) des_nil) cd_lenL) des_nil))) (de_var 1) (od_cat (told_len h1 h2 (by simp; omega)))) (de_lst (des_cons (de_bi hLen (des_cons (de_var 2) des_nil) cd_lenL) des_nil)) (od_cat (told_len h1 h2 (by simp; omega)))) (de_var 2) (od_cat (told_len h1 h2 (by simp; omega)))) rfl)
theorem fn_toldW {f : Addr} {fd : FuncData} (Fu : Fun K "told" "told" s_told f fd) (hLen : mg "len" = none) : FnW P w K mg base (L2.CX P w) 1 f fd ["number", "row", "signed"] (fun _ => spF K F_told) := by
  refine fnw_intro Fu sc_told (fun ds r h => ?_) fun cd A outer s H E q W room ds r h => ?_
  · obtain ⟨n, row, sd, rfl, _⟩ := h
    rfl
  · obtain ⟨n, row, sd, rfl, h1, h2, rfl⟩ := h
    exact ss_one (sw_retD (de_op (de_op (de_op (de_lst (des_cons (de_var 0) (des_cons (de_bi hLen (des_cons (de_var 1) des_nil) cd_lenL) des_nil))) (de_var 1) (od_cat (told_len h1 h2 (by simp; omega)))) (de_lst (des_cons (de_bi hLen (des_cons (de_var 2) des_nil) cd_lenL) des_nil)) (od_cat (told_len h1 h2 (by simp; omega)))) (de_var 2) (od_cat (told_len h1 h2 (by simp; omega)))) rfl)
theorem sc_refused : FnScope ["e"] ["e"] (defScope s_refused) := ⟨rfl, rfl, rfl, by decide +kernel, rfl, by decide +kernel, by decide +kernel⟩
def G_refused : List (Str × D) → D → Prop := fun gs r => ∃ (n : Int) (ts : List D), gs = refG ts n ∧ ts.length ≤ 10 ∧ r = toldD n [] ts
theorem fn_refused {f : Addr} {fd : FuncData} (Fu : Fun K "refused" "refused" s_refused f fd) (T : FunT K mg "told" s_told ["number", "row", "signed"]) (hLen : mg "len" = none) (X : XfC K Cr) (n1 : PySem.W.findIn K (.ref Cr) "refusal" = some none) (n2 : PySem.W.findIn K (.ref Cr) "told" = some none) : FnW P w K mg base (L2.CX P w) 2 f fd ["e"] (spR K Cr G_refused) := by
  obtain ⟨fT, fdT, FuT, hm, hk, hb⟩ := T
  refine fnr_intro (N := []) Fu sc_refused fun cd A outer s H E a dd oe W room gs r hz hf hG => ?_
  obtain ⟨n, ts, rfl, ht, rfl⟩ := hG
  refine ss_one (sw_ret (ew_callW (sp := fun _ => spF K F_told) (q := (a, oe)) (fn_toldW FuT hLen) (by exact Nat.le_of_ble_eq_true rfl) List.mem_cons_self hm hk hb (aw_pure (des_cons (de_xf 0 rfl X n1 List.mem_cons_self hz hf rfl) (des_cons (de_lst des_nil) (des_cons (de_xf 0 rfl X n2 List.mem_cons_self hz hf rfl) des_nil))) ⟨_, ⟨n, [], ts, rfl, Nat.zero_le _, by omega, rfl⟩, rfl⟩)))
/-! ### pattern_in, answer_judge, judge -/
end
end Sd

set_option exponentiation.threshold 256
set_option Elab.async false
set_option linter.all false
set_option maxRecDepth 100000
set_option maxHeartbeats 4000000
namespace Sd
open PySem PySem.Spec PyProof.Rows L2
def ExcT (K : PySem.W.Frag) (mg : Str → Option Value) (x : Str) (C : Addr) (qual : Str) (st : Stmt) (ps : List Str) : Prop := ∃ (f : Addr) (fd : FuncData), Fun K "__init__" qual st f fd ∧ OexC K C ∧ PySem.W.findIn K (.ref C) "__init__" = some (some (.ref f)) ∧ PySem.W.typeIn K (.ref f) = some (.type "function") ∧ mg x = some (.ref C) ∧ Binds K fd ps []
section
variable {P : Program} {w : World} {K : PySem.W.Frag} {mg : Str → Option Value} {base : Heap} {Cf Cr : Addr}
theorem sc_refused_init : FnScope ["self", "refusal", "told"] ["self", "refusal", "told"] (defScope m_Refused_init) := ⟨rfl, rfl, rfl, by decide +kernel, rfl, by decide +kernel, by decide +kernel⟩
theorem xc_refused (T : ExcT K mg "Refused" Cr "Refused.__init__" m_Refused_init ["self", "refusal", "told"]) (n1 : PySem.W.findIn K (.ref Cr) "refusal" = some none) (n2 : PySem.W.findIn K (.ref Cr) "told" = some none) (vV : PySem.W.findCls K (.type "ValueError") (.type "type") "__init__" = some (.val (.builtin "ValueError.__init__"))) (hm : mg "ValueError" = none) :
    Xc (L2N.CX P w) P w K mg base "Refused" Cr 2 ["refusal", "told"] := by
  obtain ⟨f, fd, Fu, ox, fi, ti, hx, hb⟩ := T
  have T1 : ExT K Cr ["refusal", "told"] := ⟨ox, by simpa using ⟨n1, n2⟩, vV⟩
  refine ⟨f, fd, _, ?_, ox, fi, ti, hx, hb, by decide⟩
  obtain ⟨oc, od, kV, doc, pm, an, cdv, ct, osl, rfl, lk, hcd⟩ := Fu.ex
  refine fn_of (N := ["self", "refusal", "told"]) lk hcd sc_refused_init (fun vs H Q E h => ?_) fun A outer s H vs Q E room h => ?_
  · obtain ⟨a, ws, rfl, hl, _⟩ := h
    rw [List.length_cons, hl]
    rfl
  · exact ex_init2 T1 (by rfl) hm (pe_var (i := 0) rfl (Or.inl rfl) (by decide) (by decide)) (pe_var (i := 0) rfl (Or.inl rfl) (by decide) (by decide)) (pe_var (i := 1) rfl (Or.inl rfl) (by decide) (by decide)) (pe_var (i := 0) rfl (Or.inl rfl) (by decide) (by decide)) (pe_var (i := 2) rfl (Or.inl rfl) (by decide) (by decide)) ⟨_, rfl⟩ (E := E) (hq := h) (hσ := start_at)
theorem xch_refused (T : ExcT K mg "Refused" Cr "Refused.__init__" m_Refused_init ["self", "refusal", "told"]) (n1 : PySem.W.findIn K (.ref Cr) "refusal" = some none) (n2 : PySem.W.findIn K (.ref Cr) "told" = some none) (vV : PySem.W.findCls K (.type "ValueError") (.type "type") "__init__" = some (.val (.builtin "ValueError.__init__"))) (hm : mg "ValueError" = none) :
    XcH (L2.CX P w) P w K mg base "Refused" Cr 2 ["refusal", "told"] := by
  obtain ⟨f, fd, Fu, ox, fi, ti, hx, hb⟩ := T
  have T1 : ExT K Cr ["refusal", "told"] := ⟨ox, by simpa using ⟨n1, n2⟩, vV⟩
  refine ⟨f, fd, _, ?_, ox, fi, ti, hx, hb, by decide⟩
  obtain ⟨oc, od, kV, doc, pm, an, cdv, ct, osl, rfl, lk, hcd⟩ := Fu.ex
  refine L2H.fn_ofH (N := ["self", "refusal", "told"]) lk hcd sc_refused_init (fun vs H Q E h => ?_) fun A outer s H vs Q E p _ room h => ?_
  · obtain ⟨a, ws, rfl, hl, _⟩ := h
    rw [List.length_cons, hl]
    rfl
  · exact ex_init2 T1 (by rfl) hm (pe_var (i := 0) rfl (Or.inl rfl) (by decide) (by decide)) (pe_var (i := 0) rfl (Or.inl rfl) (by decide) (by decide)) (pe_var (i := 1) rfl (Or.inl rfl) (by decide) (by decide)) (pe_var (i := 0) rfl (Or.inl rfl) (by decide) (by decide)) (pe_var (i := 2) rfl (Or.inl rfl) (by decide) (by decide)) ⟨_, rfl⟩ (E := E) (hq := h) (hσ := start_at)
end
end Sd

set_option Elab.async false
set_option linter.all false
set_option maxRecDepth 100000
set_option maxHeartbeats 4000000
set_option exponentiation.threshold 10000
namespace Sd
open PySem PySem.Spec PyProof.Rows L2
/-! ## From what the top has written to what the defs do -/
section
variable {K : PySem.W.Frag} {h : Heap} {mg : Str → Option Value}
/-- a def's object -/
def FF (K : PySem.W.Frag) (x qual : Str) (st : Stmt) (f : Addr) : Prop := ∃ (oc : Value) (od : Option Addr) (osl : Array (Option Value)) (kV doc pm : Value) (an : Option Addr) (cdv ct : Value),
  K.lookup f = some ⟨oc, od, .func (PySem.W.fnOf x qual (defArgs st) (defBody st) (defScope st) .none kV doc pm an cdv ct), osl⟩ ∧ PySem.W.codeIn K cdv qual = true ∧ PySem.W.keepIn K (.ref f) = true
/-- a def of the top -/
def FG (K : PySem.W.Frag) (x : Str) (st : Stmt) : Prop := ∃ f, PySem.W.nsIn K mainGlobals x = some (some (.ref f)) ∧ FF K x x st f
theorem FG.mk {x : Str} {st : Stmt} {f : Addr} {oc : Value} {od an : Option Addr} {osl : Array (Option Value)} {kV doc pm cdv ct : Value} (a : PySem.W.nsIn K mainGlobals x = some (some (.ref f)))
    (l : K.lookup f = some ⟨oc, od, .func (PySem.W.fnOf x x (defArgs st) (defBody st) (defScope st) .none kV doc pm an cdv ct), osl⟩) (c : PySem.W.codeIn K cdv x = true) (k : PySem.W.keepIn K (.ref f) = true) : FG K x st := ⟨f, a, _, _, _, _, _, _, _, _, _, l, c, k⟩
/-- a method of a class -/
def FM (K : PySem.W.Frag) (C : Addr) (m qual : Str) (st : Stmt) : Prop := ∃ f, PySem.W.findIn K (.ref C) m = some (some (.ref f)) ∧ PySem.W.isFn K (.ref f) = true ∧ FF K m qual st f
theorem FM.mk {C : Addr} {m qual : Str} {st : Stmt} {f : Addr} {oc : Value} {od an : Option Addr} {osl : Array (Option Value)} {kV doc pm cdv ct : Value} (a : PySem.W.findIn K (.ref C) m = some (some (.ref f))) (i : PySem.W.isFn K (.ref f) = true)
    (l : K.lookup f = some ⟨oc, od, .func (PySem.W.fnOf m qual (defArgs st) (defBody st) (defScope st) .none kV doc pm an cdv ct), osl⟩) (c : PySem.W.codeIn K cdv qual = true) (k : PySem.W.keepIn K (.ref f) = true) : FM K C m qual st := ⟨f, a, i, _, _, _, _, _, _, _, _, _, l, c, k⟩
/-- an error class's own __init__ -/
def FX (K : PySem.W.Frag) (C : Addr) (qual : Str) (st : Stmt) : Prop := ∃ f, PySem.W.findIn K (.ref C) "__init__" = some (some (.ref f)) ∧ PySem.W.typeIn K (.ref f) = some (.type "function") ∧ FF K "__init__" qual st f
theorem FX.mk {C : Addr} {qual : Str} {st : Stmt} {f : Addr} {oc : Value} {od an : Option Addr} {osl : Array (Option Value)} {kV doc pm cdv ct : Value} (a : PySem.W.findIn K (.ref C) "__init__" = some (some (.ref f))) (i : PySem.W.typeIn K (.ref f) = some (.type "function"))
    (l : K.lookup f = some ⟨oc, od, .func (PySem.W.fnOf "__init__" qual (defArgs st) (defBody st) (defScope st) .none kV doc pm an cdv ct), osl⟩) (c : PySem.W.codeIn K cdv qual = true) (k : PySem.W.keepIn K (.ref f) = true) : FX K C qual st := ⟨f, a, i, _, _, _, _, _, _, _, _, _, l, c, k⟩
/-- how a def's arguments bind -/
def BA (x qual : Str) (st : Stmt) (ps : List Str) : Prop := ∀ (kV doc pm : Value) (an : Option Addr) (cdv ct : Value) (us : List Value), us.length = ps.length → bindArgs (PySem.W.fnOf x qual (defArgs st) (defBody st) (defScope st) .none kV doc pm an cdv ct) ⟨us, []⟩ = pure (ps.zip us)
theorem FF.fun {x qual : Str} {st : Stmt} {f : Addr} {ps : List Str} (F : FF K x qual st f) (b : BA x qual st ps) : ∃ fd, Fun K x qual st f fd ∧ Binds K fd ps [] ∧ ∀ (s : Shared) (us : List Value), us.length = ps.length → BindsTo s fd ⟨us, []⟩ (ps.zip us) := by
  obtain ⟨oc, od, osl, kV, doc, pm, an, cdv, ct, l, c, k⟩ := F
  have Fu := fun_mk (st := st) l c k
  exact ⟨_, Fu, Fu.binds b, fun s us hu => .of_eq (b _ _ _ _ _ _ us hu)⟩
theorem FG.funT {x : Str} {st : Stmt} {ps : List Str} (X : K.In h) (G : h.Ns mainGlobals mg) (F : FG K x st) (b : BA x x st ps) : FunT K mg x st ps := by
  obtain ⟨f, a, l⟩ := F
  obtain ⟨fd, Fu, hb, _⟩ := l.fun b
  exact ⟨f, fd, Fu, PySem.W.mg_of X G a, Fu.kp, hb⟩
theorem FM.methT {C : Addr} {m qual : Str} {st : Stmt} {ps : List Str} (F : FM K C m qual st) (cl : Cls K C) (b : BA m qual st ps) : MethT K C m qual st ps := by
  obtain ⟨f, a, i, l⟩ := F
  obtain ⟨fd, Fu, hb, _⟩ := l.fun b
  exact ⟨f, fd, Fu, cl, ⟨a, i, Fu.kp⟩, hb⟩
theorem FM.initT {C : Addr} {x qual : Str} {st : Stmt} {ps : List Str} (X : K.In h) (G : h.Ns mainGlobals mg) (F : FM K C "__init__" qual st) (aC : PySem.W.nsIn K mainGlobals x = some (some (.ref C))) (mk : PySem.W.makesIn K C = true) (kC : PySem.W.keepIn K (.ref C) = true) (b : BA "__init__" qual st ps) : InitT K mg x C qual st ps := by
  obtain ⟨f, a, i, l⟩ := F
  obtain ⟨fd, Fu, hb, _⟩ := l.fun b
  exact ⟨f, fd, Fu, ⟨mk, a, i, kC⟩, PySem.W.mg_of X G aC, hb⟩
theorem FX.excT {C : Addr} {x qual : Str} {st : Stmt} {ps : List Str} (X : K.In h) (G : h.Ns mainGlobals mg) (F : FX K C qual st) (aC : PySem.W.nsIn K mainGlobals x = some (some (.ref C))) (ox : OexC K C) (b : BA "__init__" qual st ps) : ExcT K mg x C qual st ps := by
  obtain ⟨f, a, i, l⟩ := F
  obtain ⟨fd, Fu, hb, _⟩ := l.fun b
  exact ⟨f, fd, Fu, ox, a, i, PySem.W.mg_of X G aC, hb⟩
theorem oex_of {C : Addr} {nm q : Str} {N : Addr} {bs : List Value} {sn : List Str} {sub : List Value} {ab : Bool} {col : Option Bool} {dd : Option Addr} {m0 m1 m2 m3 m5 : Option Value}
    (xL : K.lookup C = some (excClassObj nm q C N bs [.type "ValueError", .type "Exception", .type "BaseException", .type "object"] true sn sub ab col dd m0 m1 m2 m3 m5 "ValueError.__new__"))
    (sa : PySem.W.findIn K (.ref C) "__setattr__" = some (some (.builtin "object.__setattr__"))) (eC : PySem.W.subIn K (.ref C) (.type "BaseException") = some true) (tC : PySem.W.typeIn K (.ref C) = some (.type "type")) (kC : PySem.W.keepIn K (.ref C) = true) : OexC K C :=
  ⟨⟨nm, q, N, bs, _, sn, sub, ab, col, dd, m0, m1, m2, m3, m5, xL, by decide +kernel⟩, sa, eC, tC, kC⟩
/-- an error of the class at S is what «except S» names -/
theorem exm_of {S : Addr} (h1 : PySem.W.subIn K (.ref S) (.type "BaseException") = some true) (h2 : PySem.W.isClsIn K S = true) (h3 : PySem.W.typeIn K (.ref S) = some (.type "type")) (h4 : PySem.W.subIn K (.ref S) (.ref S) = some true) : PySem.W.exmOne K (.ref S) (.ref S) = some true := by
  have e1 : (PySem.W.subIn K (.ref S) (.type "BaseException") == some true) = true := by rw [h1] <;> rfl
  have e2 : ((PySem.W.clsIn K S).isSome && PySem.W.typeIn K (.ref S) == some (.type "type")) = true := by
    have z : (PySem.W.clsIn K S).isSome = true := h2
    rw [z, h3] <;> rfl
  show (if (PySem.W.subIn K (.ref S) (.type "BaseException") == some true) = true then (if ((PySem.W.clsIn K S).isSome && PySem.W.typeIn K (.ref S) == some (.type "type")) = true then PySem.W.subIn K (.ref S) (.ref S) else none) else none) = some true
  rw [if_pos e1, if_pos e2]
  exact h4
theorem int_of (X : K.In h) (G : h.Ns mainGlobals mg) {x : Str} {i : Int} {t : Tok} (a : PySem.W.nsIn K mainGlobals x = some (some (.int i t))) : ∃ t, mg x = some (.int i t) := ⟨t, PySem.W.mg_of X G a⟩
theorem str_of (X : K.In h) (G : h.Ns mainGlobals mg) {x : Str} {i : Str} {t : Tok} (a : PySem.W.nsIn K mainGlobals x = some (some (.str i t))) : ∃ t, mg x = some (.str i t) := ⟨t, PySem.W.mg_of X G a⟩
/-- what a class of one's own has -/
structure CF (K : PySem.W.Frag) (C : Addr) : Prop where
  pg : PySem.W.plainGet K C Str.empty = true
  hd : PySem.W.hasDictIn K C = true
  po : PySem.W.plainOver K C = true
  sa : PySem.W.findIn K (.ref C) "__setattr__" = some (some (.builtin "object.__setattr__"))
  mak : PySem.W.makesIn K C = true
  kC : PySem.W.keepIn K (.ref C) = true
theorem CF.cls {C : Addr} (c : CF K C) : Cls K C := ⟨c.pg, c.hd, c.po, c.sa⟩
/-- what an error's class has -/
structure XF (K : PySem.W.Frag) (C : Addr) : Prop where
  ox : OexC K C
  ga : PySem.W.findIn K (.ref C) "__getattribute__" = some (some (.builtin "BaseException.__getattribute__"))
  gg : PySem.W.findIn K (.ref C) "__getattr__" = some none
  hdC : PySem.W.hasDictIn K C = true
  isC : PySem.W.isClsIn K C = true
  self : PySem.W.subIn K (.ref C) (.ref C) = some true
theorem XF.xfc {C : Addr} (x : XF K C) : XfC K C := ⟨x.ga, x.gg, x.ox.exC, x.hdC⟩
theorem XF.exm {C : Addr} (x : XF K C) : PySem.W.exmOne K (.ref C) (.ref C) = some true := exm_of x.ox.exC x.isC x.ox.tyC x.self
end
end Sd

set_option Elab.async false
set_option linter.all false
set_option maxRecDepth 100000
set_option maxHeartbeats 4000000
set_option exponentiation.threshold 10000
namespace Sd
open PySem PySem.Spec PyProof.Rows L2
abbrev Bytes := List UInt8
/-- bytes as numbers -/
def nb (b : Bytes) : List Nat := b.map fun (c : UInt8) => c.toNat
theorem nb_inj {a b : Bytes} (h : nb a = nb b) : a = b := by
  revert b
  induction a with
  | nil =>
    intro b e
    cases b with
    | nil => rfl
    | cons y b => cases e
  | cons x a ih =>
    intro b e
    cases b with
    | nil => cases e
    | cons y b =>
      have e' : x.toNat :: nb a = y.toNat :: nb b := e
      injection e' with e1 e2
      rw [UInt8.toNat_inj.mp e1, ih e2]
theorem nb_eq {a b : Bytes} : nb a = nb b ↔ a = b := ⟨nb_inj, fun h => h ▸ rfl⟩
theorem nb_app (a b : Bytes) : nb (a ++ b) = nb a ++ nb b := List.map_append
/-- a number's digits -/
def dec (n : Nat) : List Nat := (Nat.toDigits 10 n).map Char.toNat
theorem dec_digit {n c : Nat} (h : c ∈ dec n) : 48 ≤ c ∧ c ≤ 57 := by
  obtain ⟨d, hd, rfl⟩ := List.mem_map.mp h
  have := Nat.isDigit_of_mem_toDigits (by decide) (by decide) hd
  unfold Char.isDigit at this
  rw [Bool.and_eq_true, decide_eq_true_eq, decide_eq_true_eq] at this
  exact ⟨UInt32.le_iff_toNat_le.mp this.1, UInt32.le_iff_toNat_le.mp this.2⟩
theorem nb_decimal (n : Nat) : nb (SeamNum.decimal n) = dec n := by
  unfold nb SeamNum.decimal dec
  rw [List.map_map]
  refine List.map_congr_left fun c hc => ?_
  have := dec_digit (n := n) (List.mem_map.mpr ⟨c, hc, rfl⟩)
  show (UInt8.ofNat c.toNat).toNat = c.toNat
  rw [UInt8.toNat_ofNat']
  omega
theorem dec_val (n : Nat) : valN (dec n) = n := PySem.W.KIN.val_back n
theorem dec_inj {m n : Nat} (h : dec m = dec n) : m = n := by rw [← dec_val m, ← dec_val n, h]
theorem dec_ne (n : Nat) : dec n ≠ [] := fun h => by
  unfold dec at h
  exact Nat.toDigits_ne_nil (List.map_eq_nil_iff.mp h)
theorem dec_head (n : Nat) : (dec n).head? = some 48 → n = 0 := by
  induction n using Nat.strongRecOn with
  | _ n ih =>
    intro h
    by_cases hn : n < 10
    · unfold dec at h
      rw [Nat.toDigits_of_lt_base hn] at h
      have e : (Nat.digitChar n).toNat = 48 := Option.some.inj h
      rw [Nat.toNat_digitChar_of_lt_ten hn] at e
      omega
    · have t : Nat.toDigits 10 (n / 10) ++ Nat.toDigits 10 (n % 10) = Nat.toDigits 10 (10 * (n / 10) + n % 10) := Nat.toDigits_append_toDigits (by decide) (by omega) (Nat.mod_lt _ (by decide))
      rw [Nat.div_add_mod] at t
      have e : dec n = dec (n / 10) ++ dec (n % 10) := by
        unfold dec
        rw [← t, List.map_append]
      rw [e] at h
      have h' : (dec (n / 10)).head? = some 48 := by
        cases e2 : dec (n / 10) with
        | nil => exact absurd e2 (dec_ne _)
        | cons c r => rw [e2] at h; exact h
      have := ih (n / 10) (by omega) h'
      omega
theorem plain_dec (n : Nat) : plain (dec n) = true := by
  have hd : digits (dec n) = true := by
    unfold digits
    rw [Bool.and_eq_true]
    refine ⟨by simpa using dec_ne n, List.all_eq_true.mpr fun c hc => ?_⟩
    have := dec_digit hc
    unfold isDig
    simp [this]
  unfold plain
  rw [hd, Bool.true_and, Bool.or_eq_true]
  by_cases h : (dec n).head? = some 48
  · have := dec_head n h
    subst this
    exact .inr (by decide)
  · exact .inl (by simp [h])
theorem dec_of_plain {l : List Nat} (h : plain l = true) : dec (valN l) = l := by
  obtain ⟨a, b⟩ := digits_all (plain_digits h)
  have len : l.length = (l.length - 1) + 1 := by
    cases l with
    | nil => exact absurd rfl b
    | cons c r => simp
  have hh : l.length - 1 = 0 ∨ ∃ c r, l = c :: r ∧ 49 ≤ c := by
    cases l with
    | nil => exact absurd rfl b
    | cons c r =>
      by_cases hc : c = 48
      · left
        subst hc
        unfold plain at h
        rw [Bool.and_eq_true] at h
        have : 48 :: r = [48] := by simpa using h.2
        rw [this]
        rfl
      · right
        have := a c List.mem_cons_self
        exact ⟨c, r, rfl, by omega⟩
  unfold dec
  rw [NumText.toDigits_digitsVal _ l len a hh, List.map_map]
  have : ∀ l : List Nat, NumText.AllDigits l → l.map (Char.toNat ∘ Char.ofNat) = l := fun l => by
    induction l with
    | nil => intro _; rfl
    | cons c r ih =>
      intro h
      rw [List.map_cons, ih h.tail]
      have hc := h.head
      have all : ∀ c, c < 58 → 48 ≤ c → (Char.ofNat c).toNat = c := by decide +kernel
      show (Char.ofNat c).toNat :: r = _
      rw [all c (by omega) hc.1]
  exact this l a
theorem natOf_eq (b : Bytes) : SeamPattern.natOf b = valN (nb b) := by
  have : ∀ (b : Bytes) (a : Nat), b.foldl (fun (n : Nat) (c : UInt8) => 10 * n + (c.toNat - 48)) a = (nb b).foldl (fun acc c => acc * 10 + (c - 48)) a := fun b => by
    induction b with
    | nil => intro a; rfl
    | cons c r ih =>
      intro a
      show r.foldl _ (10 * a + (c.toNat - 48)) = (nb r).foldl _ (a * 10 + (c.toNat - 48))
      rw [ih, Nat.mul_comm]
  exact this b 0
theorem readNat_eq (b : Bytes) : SeamPattern.readNat b = if plain (nb b) = true then some (valN (nb b)) else none := by
  unfold SeamPattern.readNat
  rw [natOf_eq]
  by_cases h : plain (nb b) = true
  · rw [if_pos h]
    obtain ⟨a1, a2⟩ := digits_all (plain_digits h)
    rw [if_pos]
    refine ⟨fun z => a2 (by rw [z]; rfl), List.all_eq_true.mpr fun c hc => ?_, nb_inj (by rw [nb_decimal, dec_of_plain h])⟩
    have := a1 c.toNat (List.mem_map.mpr ⟨c, hc, rfl⟩)
    unfold SeamPattern.isDigit
    rw [Bool.and_eq_true, decide_eq_true_eq, decide_eq_true_eq]
    exact ⟨UInt8.le_iff_toNat_le.mpr this.1, UInt8.le_iff_toNat_le.mpr this.2⟩
  · rw [if_neg h, if_neg]
    rintro ⟨_, _, e⟩
    apply h
    rw [← nb_eq, nb_decimal] at e
    rw [← e]
    exact plain_dec _
/-! ## strange signs tell nothing -/
theorem sg_li {c t : Nat} (ht : t ∈ LI) : sg c = t ↔ c = t := by
  unfold sg
  by_cases h : c ∈ LI
  · rw [if_pos h]
  · rw [if_neg h]
    refine ⟨fun e => ?_, fun e => absurd (e ▸ ht) h⟩
    subst e
    exact absurd ht (by decide +kernel)
theorem sg_dig (c : Nat) : isDig (sg c) = isDig c ∧ (isDig c = true → sg c = c) := by
  unfold sg
  by_cases h : c ∈ LI
  · rw [if_pos h]
    exact ⟨rfl, fun _ => rfl⟩
  · rw [if_neg h]
    have : isDig c = false := by
      cases e : isDig c with
      | false => rfl
      | true =>
        refine absurd ?_ h
        unfold isDig at e
        rw [Bool.and_eq_true, decide_eq_true_eq, decide_eq_true_eq] at e
        have all : ∀ c, c < 58 → 48 ≤ c → c ∈ LI := by decide +kernel
        exact all c (by omega) e.1
    rw [this]
    exact ⟨rfl, fun z => nomatch z⟩
theorem sg_al (c : Nat) : isAl (sg c) = isAl c ∧ (isAl c = true → sg c = c) := by
  unfold sg
  by_cases h : c ∈ LI
  · rw [if_pos h]
    exact ⟨rfl, fun _ => rfl⟩
  · rw [if_neg h]
    have : isAl c = false := by
      cases e : isAl c with
      | false => rfl
      | true =>
        refine absurd ?_ h
        have all : ∀ c, c < 123 → isAl c = true → c ∈ LI := by decide +kernel
        refine all c ?_ e
        unfold isAl at e
        simp only [Bool.or_eq_true, Bool.and_eq_true, decide_eq_true_eq] at e
        omega
    rw [this]
    exact ⟨rfl, fun z => nomatch z⟩
theorem digits_sg (l : List Nat) : digits (l.map sg) = digits l ∧ (digits l = true → l.map sg = l) := by
  refine ⟨?_, fun h => ?_⟩
  · unfold digits
    rw [List.all_map]
    have : (isDig ∘ sg) = isDig := funext fun c => (sg_dig c).1
    rw [this]
    cases l <;> rfl
  · have a := (digits_all h).1
    rw [List.map_congr_left (g := id) (fun c hc => (sg_dig c).2 (by have := a c hc; unfold isDig; simp [this])), List.map_id]
theorem plain_sg (l : List Nat) : plain (l.map sg) = plain l ∧ (plain l = true → l.map sg = l) := by
  refine ⟨?_, fun h => (digits_sg l).2 (plain_digits h)⟩
  cases hd : digits l with
  | true => rw [(digits_sg l).2 hd]
  | false =>
    have : digits (l.map sg) = false := by rw [(digits_sg l).1, hd]
    unfold plain
    rw [this, hd]
    rfl
theorem eq_sg {l t : List Nat} (ht : ∀ c ∈ t, c ∈ LI) : l.map sg = t ↔ l = t := by
  revert t
  induction l with
  | nil =>
    intro t ht
    cases t with
    | nil => exact ⟨fun _ => rfl, fun _ => rfl⟩
    | cons c r => exact ⟨(fun z => nomatch z), (fun z => nomatch z)⟩
  | cons x l ih =>
    intro t ht
    cases t with
    | nil => exact ⟨(fun z => nomatch z), (fun z => nomatch z)⟩
    | cons c r =>
      rw [List.map_cons, List.cons.injEq, List.cons.injEq, sg_li (ht c List.mem_cons_self), ih fun d hd => ht d (List.mem_cons_of_mem _ hd)]
theorem cut_sg (l : List Nat) : cutN 47 (l.map sg) = ((cutN 47 l).1.map sg, (cutN 47 l).2.map fun q => q.map sg) := by
  have hs : (47 : Nat) ∈ LI := by decide +kernel
  induction l with
  | nil => rfl
  | cons x r ih =>
    rw [List.map_cons]
    unfold cutN
    by_cases h : x = 47
    · rw [if_pos h, if_pos ((sg_li hs).mpr h)]
      rfl
    · rw [if_neg h, if_neg (fun z => h ((sg_li hs).mp z)), ih]
      rfl
theorem above_sg (h : List Nat) : aboveN (h.map sg) = (aboveN h).map sg ∧ ((h.map sg).head? = some 45 ↔ h.head? = some 45) := by
  have hs : (45 : Nat) ∈ LI := by decide +kernel
  cases h with
  | nil => exact ⟨rfl, Iff.rfl⟩
  | cons x r =>
    have e : ((x :: r).map sg).head? = some 45 ↔ (x :: r).head? = some 45 := by
      show some (sg x) = some 45 ↔ some x = some 45
      rw [Option.some.injEq, Option.some.injEq, sg_li hs]
    refine ⟨?_, e⟩
    unfold aboveN
    by_cases h : (x :: r).head? = some 45
    · rw [if_pos h, if_pos (e.mpr h)]
      rfl
    · rw [if_neg h, if_neg (fun z => h (e.mp z))]
theorem numIn_sg (l : List Nat) : numIn (l.map sg) = numIn l := by
  unfold numIn
  rw [cut_sg]
  generalize cutN 47 l = z
  obtain ⟨h, t⟩ := z
  cases t with
  | none =>
    show numOf (h.map sg) [] [] = numOf h [] []
    have e45 : h.map sg = [45, 48] ↔ h = [45, 48] := eq_sg (by decide +kernel)
    obtain ⟨a1, a2⟩ := above_sg h
    unfold numOf numN
    rw [a1, (plain_sg (aboveN h)).1]
    by_cases hp : plain (aboveN h) = true
    · rw [(plain_sg (aboveN h)).2 hp]
      simp only [e45, a2]
    · rw [Bool.not_eq_true] at hp
      rw [hp]
      rfl
  | some q =>
    show numOf (h.map sg) [47] (q.map sg) = numOf h [47] q
    have e45 : h.map sg = [45, 48] ↔ h = [45, 48] := eq_sg (by decide +kernel)
    have e0 : q.map sg = [48] ↔ q = [48] := eq_sg (by decide +kernel)
    have e1 : q.map sg = [49] ↔ q = [49] := eq_sg (by decide +kernel)
    obtain ⟨a1, a2⟩ := above_sg h
    unfold numOf numN
    rw [a1, (plain_sg (aboveN h)).1, (plain_sg q).1]
    by_cases hp : plain (aboveN h) = true
    · by_cases hq : plain q = true
      · rw [(plain_sg (aboveN h)).2 hp, (plain_sg q).2 hq]
        simp only [e45, a2]
      · rw [Bool.not_eq_true] at hq
        rw [hq]
        simp
    · rw [Bool.not_eq_true] at hp
      rw [hp]
      rfl
/-! ## a number's text -/
theorem nb_cut (c : UInt8) (b : Bytes) : cutN c.toNat (nb b) = (nb (SeamPattern.cutAt c b).1, (SeamPattern.cutAt c b).2.map nb) := by
  induction b with
  | nil => rfl
  | cons x r ih =>
    show cutN c.toNat (x.toNat :: nb r) = _
    unfold cutN SeamPattern.cutAt
    by_cases h : x = c
    · rw [if_pos h, if_pos (UInt8.toNat_inj.mpr h)]
      rfl
    · rw [if_neg h, if_neg (fun z => h (UInt8.toNat_inj.mp z)), ih]
      rfl
/-- a number's text as numbers -/
def textN (x : Rat) : List Nat := (if x < 0 then [45] else []) ++ (dec x.num.natAbs ++ (if x.den = 1 then [] else 47 :: dec x.den))
theorem nb_text (x : Rat) : nb (SeamPattern.numText x) = textN x := by
  unfold SeamPattern.numText textN
  rw [nb_app, nb_app, nb_decimal]
  congr 1
  · split <;> rfl
  · congr 1
    split
    · rfl
    · show (47 : UInt8).toNat :: nb (SeamNum.decimal x.den) = _
      rw [nb_decimal]
      rfl
theorem cut_no {c : Nat} {a t : List Nat} (h : c ∉ a) : cutN c (a ++ t) = (a ++ (cutN c t).1, (cutN c t).2) := by
  induction a with
  | nil => rfl
  | cons x a ih =>
    show (if x = c then ([], some (a ++ t)) else ((x :: (cutN c (a ++ t)).1), (cutN c (a ++ t)).2)) = _
    rw [if_neg (show ¬ x = c from fun z => h (z ▸ List.mem_cons_self)), ih fun z => h (List.mem_cons_of_mem _ z)]
    rfl
theorem dec_no {n c : Nat} (h : c < 48) : c ∉ dec n := fun z => by
  have := dec_digit z
  omega
theorem textN_cut (x : Rat) : cutN 47 (textN x) = ((if x < 0 then [45] else []) ++ dec x.num.natAbs, if x.den = 1 then none else some (dec x.den)) := by
  unfold textN
  rw [← List.append_assoc, cut_no]
  · by_cases h : x.den = 1
    · rw [if_pos h, if_pos h]
      show (_ ++ [], none) = _
      rw [List.append_nil]
    · rw [if_neg h, if_neg h]
      show (_ ++ [], some _) = _
      rw [List.append_nil]
  · intro z
    rcases List.mem_append.mp z with z | z
    · split at z
      · simp at z
      · cases z
    · exact dec_no (by omega) z
/-- a number read, as numbers -/
def readN (l : List Nat) : Option Rat :=
  let neg := decide (l.head? = some 45)
  let z := cutN 47 (aboveN l)
  if plain z.1 = true then (match z.2 with
    | none => some 1
    | some d => if plain d = true then some (valN d) else none).bind fun (q : Nat) =>
      let x : Rat := if q = 0 then 0 else (if neg = true then -((valN z.1 : Nat) : Rat) else ((valN z.1 : Nat) : Rat)) / (q : Rat)
      if q ≠ 0 ∧ SeamNum.fits x = true ∧ textN x = l then some x else none
  else none
theorem readNum_eq (b : Bytes) : SeamPattern.readNum b = readN (nb b) := by
  have h45 : ∀ c : UInt8, c.toNat = 45 ↔ c = 45 := fun c => ⟨fun h => UInt8.toNat_inj.mp h, fun h => h ▸ rfl⟩
  have key : ∀ (neg : Bool) (r : Bytes), ((SeamPattern.readNat (SeamPattern.cutAt 47 r).1).bind fun (p : Nat) => (match (SeamPattern.cutAt 47 r).2 with
      | none => some 1
      | some d => SeamPattern.readNat d).bind fun (q : Nat) =>
        let x : Rat := if q = 0 then 0 else (if neg = true then -(p : Rat) else (p : Rat)) / (q : Rat)
        if q ≠ 0 ∧ SeamNum.fits x = true ∧ SeamPattern.numText x = b then some x else none) =
      (let z := cutN 47 (nb r)
       if plain z.1 = true then (match z.2 with
        | none => some 1
        | some d => if plain d = true then some (valN d) else none).bind fun (q : Nat) =>
          let x : Rat := if q = 0 then 0 else (if neg = true then -((valN z.1 : Nat) : Rat) else ((valN z.1 : Nat) : Rat)) / (q : Rat)
          if q ≠ 0 ∧ SeamNum.fits x = true ∧ textN x = nb b then some x else none
        else none) := fun neg r => by
    have ec := nb_cut 47 r
    rw [show (47 : UInt8).toNat = 47 from rfl] at ec
    rw [ec]
    dsimp only
    rw [readNat_eq]
    by_cases hp : plain (nb (SeamPattern.cutAt 47 r).1) = true
    · rw [if_pos hp, if_pos hp]
      rw [Option.bind_some]
      have em : (match (SeamPattern.cutAt 47 r).2 with
          | none => some 1
          | some d => SeamPattern.readNat d) = (match (SeamPattern.cutAt 47 r).2.map nb with
          | none => some 1
          | some d => if plain d = true then some (valN d) else none) := by
        cases (SeamPattern.cutAt 47 r).2 with
        | none => rfl
        | some d => exact readNat_eq d
      rw [← em]
      congr 1
      funext q
      simp only [← nb_eq, nb_text]
    · rw [if_neg hp, if_neg hp]
      rfl
  unfold SeamPattern.readNum
  dsimp only
  split
  · rename_i r
    exact key true r
  · rename_i h
    have e2 : (nb b).head? ≠ some 45 := fun z => by
      cases b with
      | nil => cases z
      | cons c r => exact h r (by rw [(h45 c).mp (Option.some.inj z)])
    have e3 : aboveN (nb b) = nb b := if_neg e2
    unfold readN
    rw [e3, decide_eq_false e2]
    exact key false b
end Sd

set_option Elab.async false
set_option linter.all false
set_option maxRecDepth 100000
set_option maxHeartbeats 4000000
set_option exponentiation.threshold 10000
namespace Sd
open PySem PySem.Spec PyProof.Rows L2
/-- the goal of the head, with what is known of the loose names beside what is written -/
theorem walk_more {q : Program} {loose : List Str} {XP : (Str → Option Value) → Heap → Prop} {YP : World → Heap → Prop} {r : PySem.W.OpenSpec} {d : DefRec} {kwd : List (Str × Expr)} {f : Value → List Value → Sem Value}
    (h : PySem.W.WalkOS q loose XP (fun w h => YP w h ∧ ∃ mg, h.Ns mainGlobals mg ∧ XP mg h) r d kwd f) : PySem.W.WalkOS q loose XP YP r d kwd f :=
  fun w s₀ s₁ mg mb G Y => h w s₀ s₁ mg mb G ⟨Y, mg, G.T.g, G.X⟩
/-- the head's goal, where errors may be about on the way -/
theorem walk_specC {r : PySem.W.OpenSpec} {k : Nat} {q : Program} {loose : List Str} {XP : (Str → Option Value) → Heap → Prop} {YP : World → Heap → Prop} {d : DefRec} {K : Params → PySem.W.Frag} {ps : List Str} (sp : PySem.W.Frag → Sp)
    (hwell : r.wellSaid = true) (hdf : d.params.defaults = []) (hlen : r.args.length = ps.length) (hr : Room k callerA) (hY : ∀ (w : World) (h : Heap), YP w h → (K w.params).In h)
    (F : ∀ (w : World) (mg : Str → Option Value) (fa : Addr) (h : Heap), (YP w h ∧ ∃ mg, h.Ns mainGlobals mg ∧ XP mg h) → (K w.params).In h → h.Ns mainGlobals mg → mg d.name = some (.ref fa) →
      ∃ fd : FuncData, (∀ (s : Shared) (us : List Value), us.length = ps.length → BindsTo s fd ⟨us, []⟩ (ps.zip us)) ∧ ∀ base : Heap, (K w.params).In base → base.Ns mainGlobals mg → FnOk r.prog w (K w.params) mg base (L2.CX r.prog w) k fa fd ps (sp (K w.params)))
    (S : ∀ (K : PySem.W.Frag) (H : Hp) (xs : List V) (a : PySem.W.Codec.denoteAll r.args), OnlyF H → PySem.W.Codec.withinAll r.args a = true → PySem.W.Codec.app r.args r.asked a = true → DwAll K H xs (PySem.W.Codec.encAll r.args a) →
      sp K xs H (fun v H' => Dw K H' v (r.ret.enc (PySem.W.Codec.app r.args r.f a))) fun _ _ _ => False) :
    PySem.W.WalkOS q loose XP YP r d [] (fun f vs => PySem.call f vs) :=
  walk_more (L2.walk_spec (K := K) (CX := fun w => L2.CX r.prog w) (sp := fun w => sp (K w.params)) hwell hdf hlen hr (fun w h Y => hY w h Y.1) F (fun w H xs a h1 h2 h3 h4 => S (K w.params) H xs a h1 h2 h3 h4) fun w H s e s' => cx0 [] H s e s')
theorem na {K : PySem.W.Frag} {C : Addr} {f : Str} (h : PySem.W.findIn K (.ref C) f = some none) : NoAttr K C f := h
theorem ns_one {h : Heap} {a : Addr} {m m' : Str → Option Value} (x : h.Ns a m) (y : h.Ns a m') : m = m' := x.eq_nsMap.trans y.eq_nsMap.symm
/-- a loose text -/
theorem loose_str {q : Program} {lv : List (Str × PySem.W.WData)} {h : Heap} {mg : Str → Option Value} (G : h.Ns mainGlobals mg) (Y : ∃ mg, h.Ns mainGlobals mg ∧ PySem.W.XL q lv mg h) {x y : Str} (m : (x, PySem.W.WData.str y) ∈ lv) : ∃ t, mg x = some (.str y t) := by
  obtain ⟨mg', G', _, L⟩ := Y
  cases ns_one G G'
  obtain ⟨v, e, r⟩ := L.val _ m
  cases r
  exact ⟨_, e⟩
/-- numbers handed in -/
theorem raw_of {K : PySem.W.Frag} {H : Hp} {v : V} {ns : List Int} (hO : OnlyF H) (h : Dw K H v (.list (ns.map PySem.W.WData.int))) : Rp K (fun _ => False) H v (.raw (ns.map D.int)) := by
  have rl : ∀ ns : List Int, RpL K (fun _ => False) H (ns.map V.int) (ns.map D.int) := fun ns => by
    induction ns with
    | nil => exact .nil
    | cons n r ih => exact .cons (.int n) ih
  cases h with
  | @lst a xs _ hs ha =>
    have e := L2.ints_dw ns _ ha
    subst e
    rcases hs with (hs | ⟨o, hs⟩) | hs
    · rcases hO a with z | ⟨o, u, z⟩
      · rw [hs] at z; cases z
      · rw [hs] at z; cases z
    · exact .raw hs (fun z => z) (rl ns)
    · exact .rawK hs (rl ns)
theorem dw_of {K : PySem.W.Frag} {W : Addr → Prop} {H : Hp} {v : V} {ns : List Int} (h : Rp K W H v (.lst (ns.map D.int))) : Dw K H v (.list (ns.map PySem.W.WData.int)) := by
  obtain ⟨a, xs, rfl, hs, hx, _, hv⟩ := rpLst h
  refine .lst hs ?_
  clear h hs hx
  induction ns generalizing xs with
  | nil => cases hv; exact .nil
  | cons n r ih =>
    cases hv with
    | cons h1 h2 =>
      cases h1
      exact .cons (.int n) (ih _ h2)
theorem text_back {ns : List Int} (h : ∀ n ∈ ns, 0 ≤ n ∧ n ≤ 255) : ns = (nb (DraftsNeutral.text ns)).map fun c : Nat => (c : Int) := by
  unfold DraftsNeutral.text DraftsNeutral.nats nb
  rw [List.map_map, List.map_map, List.map_map]
  conv => lhs; rw [← List.map_id ns]
  refine List.map_congr_left fun n hn => ?_
  have b := h n hn
  show n = (((UInt8.ofNat n.toNat).toNat : Nat) : Int)
  rw [UInt8.toNat_ofNat']
  have : n.toNat < 256 := by omega
  rw [Nat.mod_eq_of_lt this]
  omega
theorem bytes_raw {ns : List Int} (h : ∀ n ∈ ns, 0 ≤ n ∧ n ≤ 255) : D.raw (ns.map D.int) = bytesD (nb (DraftsNeutral.text ns)) := by
  have e := text_back h
  unfold bytesD
  conv => lhs; rw [e]
  rw [List.map_map]
  rfl
theorem bounds_of {ns : List Int} {lo hi : Int} (h : ns.all (PySem.W.Codec.inInt lo hi) = true) : ∀ n ∈ ns, lo ≤ n ∧ n ≤ hi := fun n hn => by
  have := List.all_eq_true.mp h n hn
  unfold PySem.W.Codec.inInt at this
  simpa using this
/-- a number from nought on -/
theorem nat_of {K : PySem.W.Frag} {W : Addr → Prop} {H : Hp} {v : V} {n hi : Int} (h : Dw K H v (.int n)) (b : PySem.W.Codec.inInt 0 hi n = true) : Rp K W H v (.int (n.toNat : Int)) := by
  cases h
  unfold PySem.W.Codec.inInt at b
  have : 0 ≤ n := by
    have := of_decide_eq_true (Bool.and_eq_true_iff.mp b).1
    exact this
  rw [Int.toNat_of_nonneg this]
  exact .int n
theorem int_rp {K : PySem.W.Frag} {W : Addr → Prop} {H : Hp} {v : V} {n : Int} (h : Dw K H v (.int n)) : Rp K W H v (.int n) := by
  cases h
  exact .int n
/-- a def that answers numbers -/
theorem sp_ints {K : PySem.W.Frag} {F : FS} {H : Hp} {vs : List V} {ds : List D} {ns : List Int} {o : PySem.W.WData} (hv : RpL K (fun _ => False) H vs ds) (hF : F ds (.ret (.lst (ns.map D.int)))) (ho : o = .list (ns.map PySem.W.WData.int)) :
    spF K F vs H (fun v H' => Dw K H' v o) fun _ _ _ => False := ⟨fun _ => False, ds, _, fun _ z => z.elim, hv, hF, fun v H' _ r => ho ▸ dw_of r⟩
end Sd

set_option Elab.async false
set_option linter.all false
set_option maxRecDepth 100000
set_option maxHeartbeats 4000000
set_option exponentiation.threshold 10000
namespace Sd
open PySem PySem.Spec PyProof.Rows L2
/-! ## Tokens -/
inductive Fam where
  | word | name | num | sgn
  deriving DecidableEq
def Fam.s : Fam → Str
  | .word => "word"
  | .name => "name"
  | .num => "number"
  | .sgn => "sign"
structure Tk where
  fam : Fam
  text : List Nat
  place : Nat
abbrev tkD (Ck : Addr) (t : Tk) : D := .obj Ck [("family", .str t.fam.s), ("text", tx t.text), ("place", .int (t.place : Int))]
abbrev sgnS : Str := Str.ofString "(),=+-*/;"
def isLet (c : Nat) : Bool := (decide (65 ≤ c) && decide (c ≤ 90)) || (decide (97 ≤ c) && decide (c ≤ 122))
def sgns : List Nat := [40, 41, 44, 61, 43, 45, 42, 47, 59]
def isSgn (c : Nat) : Bool := decide (c ∈ sgns)
abbrev WORDSs : List Str := ["let", "point", "piece", "seam", "grain", "x", "y", "min", "max", "between", "meet", "foot", "mirror", "turn", "shift"]
def wordN (l : List Nat) : Bool := inF (tx l) (WORDSs.map D.str)
theorem let_list : letS.cps.toList = (List.range 26).map (· + 65) ++ (List.range 26).map (· + 97) := by decide +kernel
theorem let_in (c : Nat) : decide (c ∈ letS.cps.toList) = isLet c := by
  rw [let_list]
  unfold isLet
  rw [← Bool.decide_and, ← Bool.decide_and, ← Bool.decide_or]
  refine decide_eq_decide.mpr ?_
  simp only [List.mem_append, List.mem_map, List.mem_range]
  constructor
  · rintro (⟨a, h, e⟩ | ⟨a, h, e⟩) <;> omega
  · rintro (⟨h1, h2⟩ | ⟨h1, h2⟩)
    · exact .inl ⟨c - 65, by omega, by omega⟩
    · exact .inr ⟨c - 97, by omega, by omega⟩
theorem sgn_in (c : Nat) : decide (c ∈ sgnS.cps.toList) = isSgn c := by
  have e : sgnS.cps.toList = sgns := by decide +kernel
  rw [e]
  rfl
theorem digS_in (c : Nat) : decide (c ∈ digS.cps.toList) = isDig c := dig_in c
theorem cutS_mid (l : List Nat) (a b : Nat) (h : a ≤ b) : cutS (S l) (some (a : Int)) (some (b : Int)) = S ((l.drop a).take (b - a)) := by
  unfold cutS
  rw [S_len, HT.sIx_nat, HT.sIx_nat]
  show S ((l.drop (min a l.length)).take (min b l.length - min a l.length)) = _
  by_cases h1 : a ≤ l.length
  · rw [Nat.min_eq_left h1]
    by_cases h2 : b ≤ l.length
    · rw [Nat.min_eq_left h2]
    · rw [Nat.min_eq_right (by omega), List.take_of_length_le (by rw [List.length_drop]; exact Nat.le_refl _), List.take_of_length_le (by rw [List.length_drop]; omega)]
  · rw [Nat.min_eq_right (show l.length ≤ a by omega), Nat.min_eq_right (show l.length ≤ b by omega), List.drop_length, List.drop_of_length_le (show l.length ≤ a by omega)]
    simp
/-! ### what stands from a place on -/
theorem tw_step {p : Nat → Bool} : ∀ {l : List Nat} {j : Nat}, j ≤ (l.takeWhile p).length → ((j < l.length ∧ (∀ c, l[j]? = some c → p c = true)) ↔ j < (l.takeWhile p).length)
  | [], j, h => ⟨fun ⟨a, _⟩ => absurd a (Nat.not_lt_zero _), fun a => absurd a (Nat.not_lt_zero _)⟩
  | x :: l, j, h => by
    by_cases hx : p x = true
    · rw [List.takeWhile_cons_of_pos hx] at h ⊢
      cases j with
      | zero => exact ⟨fun _ => by simp, fun _ => ⟨by simp, fun c hc => by simp at hc; rw [← hc]; exact hx⟩⟩
      | succ j =>
        rw [List.length_cons] at h ⊢
        have ih := tw_step (p := p) (l := l) (j := j) (by omega)
        rw [List.length_cons]
        constructor
        · rintro ⟨a, b⟩
          have := ih.mp ⟨by omega, fun c hc => b c (by simpa using hc)⟩
          omega
        · intro a
          obtain ⟨b, d⟩ := ih.mpr (by omega)
          exact ⟨by omega, fun c hc => d c (by simpa using hc)⟩
    · rw [List.takeWhile_cons_of_neg hx] at h ⊢
      have : j = 0 := by simpa using h
      subst this
      exact ⟨fun ⟨_, b⟩ => absurd (b x rfl) hx, fun a => absurd a (Nat.not_lt_zero _)⟩
theorem tw_take {p : Nat → Bool} (l : List Nat) : l.take (l.takeWhile p).length = l.takeWhile p := by
  induction l with
  | nil => rfl
  | cons x l ih =>
    by_cases hx : p x = true
    · rw [List.takeWhile_cons_of_pos hx, List.length_cons, List.take_succ_cons, ih]
    · rw [List.takeWhile_cons_of_neg hx]
      rfl
theorem tw_le {p : Nat → Bool} (l : List Nat) : (l.takeWhile p).length ≤ l.length := by
  induction l with
  | nil => exact Nat.le_refl _
  | cons x l ih =>
    by_cases hx : p x = true
    · rw [List.takeWhile_cons_of_pos hx, List.length_cons, List.length_cons]
      omega
    · rw [List.takeWhile_cons_of_neg hx]
      exact Nat.zero_le _
section
variable {P : Program} {w : World} {K : PySem.W.Frag} {mg : Str → Option Value} {base : Heap} {Ck : Addr}
theorem sc_run_of : FnScope ["text", "at", "signs", "end"] ["text", "at", "signs"] (defScope s_run_of) := ⟨rfl, rfl, rfl, by decide +kernel, rfl, by decide +kernel, by decide +kernel⟩
def F_run_of : FS := fun ds r => ∃ (l : List Nat) (a : Nat) (g : Str) (p : Nat → Bool), ds = [tx l, .int (a : Int), .str g] ∧ (∀ c, decide (c ∈ g.cps.toList) = p c) ∧ a ≤ l.length ∧ l.length ≤ 4200 ∧ r = .ret (tx ((l.drop a).takeWhile p))
theorem fn_run_of (T : FunT K mg "run_of" s_run_of ["text", "at", "signs"]) (hLen : mg "len" = none) : FnN P w K mg base "run_of" 1 F_run_of := fnN T fun f fd Fu => by
  refine fn_intro Fu sc_run_of (fun ds r h => ?_) fun cd A outer s H E W room ds r h => ?_
  · obtain ⟨l, a, g, p, rfl, _⟩ := h
    rfl
  · obtain ⟨l, a, g, p, rfl, hp, ha, hl, rfl⟩ := h
    have sz : (S l).length ≤ sizeLine := by rw [S_len, sizeLine_eq]; omega
    refine ss_cons (sw_setD 3 (de_var 1) ?_)
    have hlt := tw_le (p := p) (l.drop a)
    rw [List.length_drop] at hlt
    refine ss_cons (sw_while (fun m Γ => ∃ j : Nat, j ≤ ((l.drop a).takeWhile p).length ∧ m = l.length - (a + j) ∧ Γ = [some (.im (tx l)), some (.im (.int (a : Int))), some (.im (.str g)), some (.im (.int ((a + j : Nat) : Int)))]) ?_ ?_)
    · exact ⟨_, 0, Nat.zero_le _, rfl, rfl⟩
    · rintro m Γ1 ⟨j, hj, rfl, rfl⟩
      have st := tw_step hj
      rw [List.length_drop, List.getElem?_drop] at st
      refine tw_pure (k := decide (j < ((l.drop a).takeWhile p).length)) (td_is (td_chain (wd_and (td_cmp (de_var 3) (de_bi hLen (des_cons (de_var 0) des_nil) (cd_lenS sz)) od_lt) (l := decide (j < ((l.drop a).takeWhile p).length)) fun h => ?_)) ?_) ⟨fun h => ?_, fun h => ?_⟩
      · have h1 : a + j < l.length := by rw [S_len] at h; have := of_decide_eq_true h; omega
        obtain ⟨c, hc⟩ : ∃ c, l[a + j]? = some c := ⟨_, List.getElem?_eq_getElem h1⟩
        refine wd_and1 (td_is (td_cmp (de_ix (de_var 0) (de_var 3) (ix_S (by omega) hc)) (de_var 2) od_inSign) ?_)
        rw [hp]
        rw [hc] at st
        cases e : p c with
        | true => exact (decide_eq_true (st.mp ⟨by omega, fun d hd => by cases hd; exact e⟩)).symm
        | false => exact (decide_eq_false (fun z => by have := (st.mpr z).2 c rfl; rw [e] at this; cases this)).symm
      · rw [S_len]
        cases e : decide (j < ((l.drop a).takeWhile p).length) with
        | true =>
          have := of_decide_eq_true e
          rw [Bool.and_true]
          exact decide_eq_true (by omega)
        | false => rw [Bool.and_false]
      · have h1 := of_decide_eq_true h
        refine ss_one (sw_setD 3 (de_op (de_var 3) de_int od_add) ?_)
        refine ⟨l.length - (a + (j + 1)), by omega, j + 1, by omega, rfl, ?_⟩
        show [_, _, _, some (Sl.im (.int (((a + j : Nat) : Int) + 1)))] = [_, _, _, some (Sl.im (.int ((a + (j + 1) : Nat) : Int)))]
        congr 5
      · have h1 : j = ((l.drop a).takeWhile p).length := by have := of_decide_eq_false h; omega
        refine ss_one (sw_retD (de_slS (de_var 0) (pd_some (de_var 1)) (pd_some (de_var 3)) sz) ?_)
        show Res.ret (tx ((l.drop a).takeWhile p)) = _
        rw [cutS_mid l a (a + j) (by omega), show a + j - a = j by omega, h1, tw_take]
/-! ### numbers -/
/-- a number that begins; whether it is too long -/
def numAt (l : List Nat) : List Nat × Bool :=
  let h := l.takeWhile isDig
  let s := l.drop h.length
  let b := if s.head? = some 46 then (s.drop 1).takeWhile isDig else []
  (if b = [] then h else h ++ 46 :: b, decide (18 < h.length) || decide (18 < b.length))
theorem sc_number_at : FnScope ["text", "at", "head", "end", "behind", "found"] ["text", "at"] (defScope s_number_at) := ⟨rfl, rfl, rfl, by decide +kernel, rfl, by decide +kernel, by decide +kernel⟩
def F_number_at : FS := fun ds r => ∃ (l : List Nat) (a : Nat), ds = [tx l, .int (a : Int)] ∧ a ≤ l.length ∧ l.length ≤ 4200 ∧ r = .ret (.tup [tx (numAt (l.drop a)).1, .bl (numAt (l.drop a)).2])
theorem fn_number_at (T : FunT K mg "number_at" s_number_at ["text", "at"]) (hLen : mg "len" = none) (hD : ∃ t, mg "DIGITS" = some (.str digS t)) (hM : ∃ t, mg "MOST_DIGITS" = some (.int 18 t)) (hR : FnN P w K mg base "run_of" 1 F_run_of) : FnN P w K mg base "number_at" 2 F_number_at := fnN T fun f fd Fu => by
  obtain ⟨t, hD⟩ := hD
  obtain ⟨t2, hM⟩ := hM
  refine fn_intro Fu sc_number_at (fun ds r h => ?_) fun cd A outer s H E W room ds r h => ?_
  · obtain ⟨l, a, rfl, _⟩ := h
    rfl
  · obtain ⟨l, a, rfl, ha, hl, rfl⟩ := h
    have sz : (S l).length ≤ sizeLine := by rw [S_len, sizeLine_eq]; omega
    have hlt := tw_le (p := isDig) (l.drop a)
    rw [List.length_drop] at hlt
    refine ss_cons (sw_setD 2 (de_call hR (des_cons (de_var 0) (des_cons (de_var 1) (des_cons (de_gstr hD) des_nil))) ⟨l, a, digS, isDig, rfl, digS_in, ha, hl, rfl⟩) ?_)
    have sz2 : (S ((l.drop a).takeWhile isDig)).length ≤ sizeLine := by rw [S_len, sizeLine_eq]; omega
    refine ss_cons (sw_setD 3 (d := .int ((a + ((l.drop a).takeWhile isDig).length : Nat) : Int)) (de_is (de_op (de_var 1) (de_bi hLen (des_cons (de_var 2) des_nil) (cd_lenS sz2)) od_add) (by rw [S_len]; rfl)) ?_)
    generalize hn : a + ((l.drop a).takeWhile isDig).length = n
    have hs : (l.drop a).drop ((l.drop a).takeWhile isDig).length = l.drop n := by rw [List.drop_drop, hn]
    have hnl : n ≤ l.length := by omega
    have hh : (cutS (S l) (some (n : Int)) (some ((n : Int) + 1)) = S [46]) ↔ (l.drop n).head? = some 46 := by
      rw [show ((n : Int) + 1) = ((n + 1 : Nat) : Int) from rfl, cutS_mid l n (n + 1) (by omega), show n + 1 - n = 1 by omega]
      refine ⟨fun h => ?_, fun h => ?_⟩
      · have := S_inj h
        cases e : l.drop n with
        | nil => rw [e] at this; cases this
        | cons x r =>
          rw [e] at this
          cases this
          rfl
      · cases e : l.drop n with
        | nil => rw [e] at h; cases h
        | cons x r =>
          rw [e] at h
          cases h
          rfl
    refine ss_cons (sw_setD 4 (d := tx (if (l.drop n).head? = some 46 then ((l.drop n).drop 1).takeWhile isDig else [])) (de_is (x := if decide ((l.drop n).head? = some 46) = true then tx (((l.drop n).drop 1).takeWhile isDig) else tx []) (de_if (td_is (td_cmp (de_slS (z := S l) (de_var 0) (pd_some (de_var 3)) (pd_some (de_op (de_var 3) de_int od_add)) sz) de_str od_eqS) (decide_eq_decide.mpr hh)) (fun h => ?_) (fun _ => de_str)) ?_) ?_)
    · have h1 := of_decide_eq_true h
      have h2 : n < l.length := by
        cases e : l.drop n with
        | nil => rw [e] at h1; cases h1
        | cons x r =>
          have := congrArg List.length e
          rw [List.length_drop, List.length_cons] at this
          omega
      refine de_is (de_call hR (des_cons (de_var 0) (des_cons (de_op (de_var 3) de_int od_add) (des_cons (de_gstr hD) des_nil))) ⟨l, n + 1, digS, isDig, rfl, digS_in, by omega, hl, rfl⟩) ?_
      rw [List.drop_drop]
    · by_cases h : (l.drop n).head? = some 46
      · rw [decide_eq_true h, if_pos rfl, if_pos h]
      · rw [decide_eq_false h, if_neg Bool.false_ne_true, if_neg h]
    have hb : (if (l.drop n).head? = some 46 then ((l.drop n).drop 1).takeWhile isDig else []).length ≤ 4200 := by
      split
      · have := tw_le (p := isDig) ((l.drop n).drop 1)
        rw [List.length_drop, List.length_drop] at this
        omega
      · exact Nat.zero_le _
    show SsW _ _ _ (postF (.ret (.tup [tx (numAt (l.drop a)).1, .bl (numAt (l.drop a)).2])))
    unfold numAt
    dsimp only
    rw [hs]
    generalize (if (l.drop n).head? = some 46 then ((l.drop n).drop 1).takeWhile isDig else []) = b at hb ⊢
    generalize hH : (l.drop a).takeWhile isDig = h at *
    have szb : (S b).length ≤ sizeLine := by rw [S_len, sizeLine_eq]; omega
    refine ss_cons (sw_setD 5 (d := tx (if b = [] then h else h ++ 46 :: b)) (de_is (de_if (td_is (td_cmp (de_var 4) de_str od_eqS) (S_eq (b := []))) (fun _ => de_var 2) (fun _ => de_op (de_op (de_var 2) de_str (od_addS ?_)) (de_var 4) (od_addS ?_))) ?_) ?_)
    · show (S h).length + (S [46]).length ≤ _
      rw [S_len, S_len, sizeLine_eq, List.length_cons, List.length_nil]
      omega
    · show (S h ++ S [46]).length + (S b).length ≤ _
      have : (S h ++ S [46]).length = h.length + 1 := by
        rw [show S h ++ S [46] = S (h ++ [46]) from SX.S_cat h [46], S_len, List.length_append]
        rfl
      rw [this, S_len, sizeLine_eq]
      omega
    · by_cases hbb : b = []
      · rw [decide_eq_true hbb, if_pos rfl, if_pos hbb]
      · rw [decide_eq_false hbb, if_neg Bool.false_ne_true, if_neg hbb]
        show D.str (S h ++ S [46] ++ S b) = tx (h ++ 46 :: b)
        rw [show S h ++ S [46] = S (h ++ [46]) from SX.S_cat h [46], show S (h ++ [46]) ++ S b = S ((h ++ [46]) ++ b) from SX.S_cat _ b, List.append_assoc]
        rfl
    refine ss_one (sw_retD (de_tup (des_cons (de_var 5) (des_cons (de_or (k := decide (18 < h.length)) (l := decide (18 < b.length)) (de_is (de_cmp (de_bi hLen (des_cons (de_var 2) des_nil) (cd_lenS sz2)) (de_gint hM) od_gt) ?_) fun _ => de_one (de_is (de_cmp (de_bi hLen (des_cons (de_var 4) des_nil) (cd_lenS szb)) (de_gint hM) od_gt) ?_)) des_nil))) rfl)
    · rw [S_len]
      congr 1
      exact decide_eq_decide.mpr ⟨fun h => by omega, fun h => by omega⟩
    · rw [S_len]
      congr 1
      exact decide_eq_decide.mpr ⟨fun h => by omega, fun h => by omega⟩
end
end Sd

set_option Elab.async false
set_option linter.all false
set_option maxRecDepth 100000
set_option maxHeartbeats 4000000
set_option exponentiation.threshold 10000
namespace Sd
open PySem PySem.Spec PyProof.Rows L2
/-- what the written part says of tokens -/
structure TkT (K : PySem.W.Frag) (Ck : Addr) : Prop where
  cl : Cls K Ck
  nf : NoAttr K Ck "family"
  nt : NoAttr K Ck "text"
  np : NoAttr K Ck "place"
def tokAt (p : Nat) (l : List Nat) : Option Tk := match l with
  | [] => none
  | c :: r =>
    if isLet c = true then (if 16 < ((c :: r).takeWhile isAl).length then none else some ⟨if wordN ((c :: r).takeWhile isAl) = true then .word else .name, (c :: r).takeWhile isAl, p⟩)
    else if isDig c = true then (if (numAt (c :: r)).2 = true then none else some ⟨.num, (numAt (c :: r)).1, p⟩)
    else if isSgn c = true then some ⟨.sgn, [c], p⟩ else none
def optTk (Ck : Addr) : Option Tk → D
  | none => .non
  | some t => tkD Ck t
theorem tw_app {p : Nat → Bool} {l : List Nat} : ∃ r, l = l.takeWhile p ++ r := ⟨l.dropWhile p, List.takeWhile_append_dropWhile.symm⟩
theorem numAt_len (l : List Nat) (hl : l ≠ []) (hd : ∀ c r, l = c :: r → isDig c = true) : 0 < (numAt l).1.length ∧ (numAt l).1.length ≤ l.length := by
  unfold numAt
  dsimp only
  have h1 := tw_le (p := isDig) l
  have h0 : 0 < (l.takeWhile isDig).length := by
    cases l with
    | nil => exact absurd rfl hl
    | cons c r =>
      rw [List.takeWhile_cons_of_pos (hd c r rfl)]
      simp
  generalize hH : l.takeWhile isDig = h at *
  by_cases h46 : (l.drop h.length).head? = some 46
  · rw [if_pos h46]
    have h2 := tw_le (p := isDig) ((l.drop h.length).drop 1)
    generalize (List.takeWhile isDig ((l.drop h.length).drop 1)) = b at h2 ⊢
    rw [List.length_drop, List.length_drop] at h2
    have h3 : h.length < l.length := by
      cases e : l.drop h.length with
      | nil => rw [e] at h46; cases h46
      | cons x r =>
        have := congrArg List.length e
        rw [List.length_drop, List.length_cons] at this
        omega
    split
    · exact ⟨h0, h1⟩
    · rw [List.length_append, List.length_cons]
      omega
  · rw [if_neg h46, if_pos rfl]
    exact ⟨h0, h1⟩
theorem tokAt_len {p : Nat} {l : List Nat} {t : Tk} (h : tokAt p l = some t) : 0 < t.text.length ∧ t.text.length ≤ l.length ∧ t.place = p := by
  cases l with
  | nil => cases h
  | cons c r =>
    unfold tokAt at h
    dsimp only at h
    split at h
    · rename_i hc
      split at h
      · cases h
      · cases h
        refine ⟨?_, tw_le _, rfl⟩
        have : isAl c = true := by
          unfold isLet at hc
          unfold isAl
          simp only [Bool.or_eq_true, Bool.and_eq_true, decide_eq_true_eq] at hc ⊢
          omega
        show 0 < ((c :: r).takeWhile isAl).length
        rw [List.takeWhile_cons_of_pos this]
        simp
    · split at h
      · rename_i hd
        split at h
        · cases h
        · cases h
          have := numAt_len (c :: r) (by simp) (fun _ _ e => by cases e; exact hd)
          exact ⟨this.1, this.2, rfl⟩
      · split at h
        · cases h
          exact ⟨by simp, by simp, rfl⟩
        · cases h
section
variable {P : Program} {w : World} {K : PySem.W.Frag} {mg : Str → Option Value} {base : Heap} {Ck : Addr}
theorem sc_token_init : FnScope ["self", "family", "text", "place"] ["self", "family", "text", "place"] (defScope m_Token_init) := ⟨rfl, rfl, rfl, by decide +kernel, rfl, by decide +kernel, by decide +kernel⟩
theorem mx_token (T : InitT K mg "Token" Ck "Token.__init__" m_Token_init ["self", "family", "text", "place"]) (C : TkT K Ck) : Mx (L2N.CX P w) P w K mg base "Token" Ck 1 ["family", "text", "place"] := by
  obtain ⟨f, fd, Fu, mk, hm, hb⟩ := T
  refine ⟨f, fd, _, ?_, mk, hm, hb⟩
  obtain ⟨oc, od, kV, doc, pm, an, cdv, ct, osl, rfl, lk, hcd⟩ := Fu.ex
  refine fn_of (N := ["self", "family", "text", "place"]) lk hcd sc_token_init (fun vs H Q E h => ?_) fun A outer s H vs Q E room h => ?_
  · obtain ⟨a, dx, ws, rfl, hl, _⟩ := h
    rw [List.length_cons, hl]
    rfl
  · exact init3 C.cl C.nf C.nt C.np (by decide) (by decide) (by decide) (pe_var (i := 0) rfl (Or.inl rfl) (by decide) (by decide)) (pe_var (i := 1) rfl (Or.inl rfl) (by decide) (by decide)) (pe_var (i := 0) rfl (Or.inl rfl) (by decide) (by decide)) (pe_var (i := 2) rfl (Or.inl rfl) (by decide) (by decide)) (pe_var (i := 0) rfl (Or.inl rfl) (by decide) (by decide)) (pe_var (i := 3) rfl (Or.inl rfl) (by decide) (by decide)) (E := E) (hq := h) (hσ := start_at)
def WordsT (K : PySem.W.Frag) (mg : Str → Option Value) : Prop := ∃ l, mg "WORDS" = some (.ref l) ∧ ∀ W H, Rp K W H (.ref l) (.tup (WORDSs.map D.str))
theorem sc_token_at : FnScope ["text", "at", "found", "is_long"] ["text", "at"] (defScope s_token_at) := ⟨rfl, rfl, rfl, by decide +kernel, rfl, by decide +kernel, by decide +kernel⟩
def F_token_at (Ck : Addr) : FS := fun ds r => ∃ (l : List Nat) (a : Nat), ds = [tx l, .int (a : Int)] ∧ a < l.length ∧ l.length ≤ 4200 ∧ r = .ret (optTk Ck (tokAt a (l.drop a)))
theorem fn_token_at (T : FunT K mg "token_at" s_token_at ["text", "at"]) (hLen : mg "len" = none) (hL : ∃ t, mg "LETTERS" = some (.str letS t)) (hD : ∃ t, mg "DIGITS" = some (.str digS t)) (hS : ∃ t, mg "SIGNS" = some (.str sgnS t)) (hW : WordsT K mg)
    (hN : ∃ t, mg "LONGEST_NAME" = some (.int 16 t)) (n1 : ∃ t, mg "WORD" = some (.str "word" t)) (n2 : ∃ t, mg "NAME" = some (.str "name" t)) (n3 : ∃ t, mg "NUMBER" = some (.str "number" t)) (n4 : ∃ t, mg "SIGN" = some (.str "sign" t))
    (hR : FnN P w K mg base "run_of" 1 F_run_of) (hA : FnN P w K mg base "number_at" 2 F_number_at) (hT : Mx (L2N.CX P w) P w K mg base "Token" Ck 1 ["family", "text", "place"]) : FnN P w K mg base "token_at" 3 (F_token_at Ck) := fnN T fun f fd Fu => by
  obtain ⟨t1, hL⟩ := hL
  obtain ⟨t2, hD⟩ := hD
  obtain ⟨t3, hS⟩ := hS
  obtain ⟨wl, hW, hwr⟩ := hW
  obtain ⟨t4, hN⟩ := hN
  obtain ⟨t5, n1⟩ := n1
  obtain ⟨t6, n2⟩ := n2
  obtain ⟨t7, n3⟩ := n3
  obtain ⟨t8, n4⟩ := n4
  refine fn_intro Fu sc_token_at (fun ds r h => ?_) fun cd A outer s H E W room ds r h => ?_
  · obtain ⟨l, a, rfl, _⟩ := h
    rfl
  · obtain ⟨l, a, rfl, ha, hl, rfl⟩ := h
    obtain ⟨c, r, hcr⟩ : ∃ c r, l.drop a = c :: r := by
      cases e : l.drop a with
      | nil =>
        have := congrArg List.length e
        rw [List.length_drop, List.length_nil] at this
        omega
      | cons c r => exact ⟨c, r, rfl⟩
    have hc : l[a]? = some c := by
      have := congrArg (·[0]?) hcr
      simpa [List.getElem?_drop] using this
    have hlen : (c :: r).length ≤ 4200 := by rw [← hcr, List.length_drop]; omega
    rw [hcr]
    refine ss_cons (sw_ifD (td_cmp (de_ix (de_var 0) (de_var 1) (ix_S (by omega) hc)) (de_gstr hL) od_inSign) (fun k => ?_) fun k => ?_)
    · rw [let_in] at k
      have hlt := tw_le (p := isAl) (c :: r)
      have e : tokAt a (c :: r) = if 16 < ((c :: r).takeWhile isAl).length then none else some ⟨if wordN ((c :: r).takeWhile isAl) = true then .word else .name, (c :: r).takeWhile isAl, a⟩ := if_pos k
      rw [e]
      refine ss_cons (sw_setD 2 (d := tx ((c :: r).takeWhile isAl)) (de_is (de_call hR (des_cons (de_var 0) (des_cons (de_var 1) (des_cons (de_op (de_gstr hL) (de_gstr hD) (od_addS (by rw [sizeLine_eq]; decide +kernel))) des_nil))) ⟨l, a, letS ++ digS, isAl, rfl, al_in, by omega, hl, rfl⟩) (by rw [hcr])) ?_)
      generalize (c :: r).takeWhile isAl = b at hlt ⊢
      have szb : (S b).length ≤ sizeLine := by rw [S_len, sizeLine_eq]; omega
      refine ss_cons (sw_ifD (td_cmp (de_bi hLen (des_cons (de_var 2) des_nil) (cd_lenS szb)) (de_gint hN) od_gt) (fun k2 => ?_) fun k2 => ?_)
      · have : 16 < b.length := by rw [S_len] at k2; have := of_decide_eq_true k2; omega
        refine ss_one (sw_retD de_non ?_)
        rw [if_pos this]
        rfl
      · have : ¬ 16 < b.length := by rw [S_len] at k2; have := of_decide_eq_false k2; omega
        have efam : (if wordN b = true then D.str "word" else D.str "name") = .str (if wordN b = true then Fam.word else Fam.name).s := by cases wordN b <;> rfl
        refine ss_nil ?_
        refine ss_one (sw_retD (?_ : DE _ _ _ (tkD Ck ⟨if wordN b = true then .word else .name, b, a⟩)) ?_)
        · exact de_make hT.mi (des_cons (de_is (de_if (td_cmp (de_var 2) (de_gtup hW hwr) (od_inT rfl (by decide +kernel))) (fun _ => de_gstr n1) fun _ => de_gstr n2) efam) (des_cons (de_var 2) (des_cons (de_var 1) des_nil))) ⟨rfl, rfl, rfl, rfl⟩
        rw [if_neg this]
        rfl
    · rw [let_in] at k
      refine ss_nil ?_
      have e : tokAt a (c :: r) = if isDig c = true then (if (numAt (c :: r)).2 = true then none else some ⟨.num, (numAt (c :: r)).1, a⟩) else if isSgn c = true then some ⟨.sgn, [c], a⟩ else none := if_neg (by rw [k]; exact Bool.false_ne_true)
      rw [e]
      refine ss_cons (sw_ifD (td_cmp (de_ix (de_var 0) (de_var 1) (ix_S (by omega) hc)) (de_gstr hD) od_inSign) (fun k2 => ?_) fun k2 => ?_)
      · rw [digS_in] at k2
        rw [if_pos k2]
        refine ss_cons (sw_unp [2, 3] (ew_pure (d := .tup [tx (numAt (c :: r)).1, .bl (numAt (c :: r)).2]) (de_is (de_call hA (des_cons (de_var 0) (des_cons (de_var 1) des_nil)) ⟨l, a, rfl, by omega, hl, rfl⟩) (by rw [hcr])) ⟨[tx (numAt (c :: r)).1, .bl (numAt (c :: r)).2], tg_two 2 3, ?_⟩))
        generalize numAt (c :: r) = z
        obtain ⟨b, k3⟩ := z
        refine ss_one (sw_retD (?_ : DE _ _ _ (if k3 = true then .non else tkD Ck ⟨.num, b, a⟩)) ?_)
        · exact de_if (td_val (de_var 3)) (fun _ => de_non) fun _ => de_make hT.mi (des_cons (de_gstr n3) (des_cons (de_var 2) (des_cons (de_var 1) des_nil))) ⟨rfl, rfl, rfl, rfl⟩
        cases k3 <;> rfl
      · rw [digS_in] at k2
        refine ss_nil ?_
        rw [if_neg (by rw [k2]; exact Bool.false_ne_true)]
        refine ss_one (sw_retD (?_ : DE _ _ _ (if isSgn c = true then tkD Ck ⟨.sgn, [c], a⟩ else .non)) ?_)
        · exact de_if (td_is (td_cmp (de_ix (de_var 0) (de_var 1) (ix_S (by omega) hc)) (de_gstr hS) od_inSign) (sgn_in c)) (fun _ => de_make hT.mi (des_cons (de_gstr n4) (des_cons (de_ix (de_var 0) (de_var 1) (ix_S (by omega) hc)) (des_cons (de_var 1) des_nil))) ⟨rfl, rfl, rfl, rfl⟩) fun _ => de_non
        cases isSgn c <;> rfl
end
end Sd

set_option Elab.async false
set_option linter.all false
set_option maxRecDepth 100000
set_option maxHeartbeats 4000000
set_option exponentiation.threshold 10000
namespace Sd
open PySem PySem.Spec PyProof.Rows L2
/-- all tokens; where none begins, if so -/
def lexN : Nat → Nat → List Nat → List Tk × Option Nat
  | 0, _, _ => ([], none)
  | _ + 1, _, [] => ([], none)
  | f + 1, p, c :: r =>
    if c = 35 then lexN f (p + (cutN 10 (c :: r)).1.length) ((c :: r).drop (cutN 10 (c :: r)).1.length)
    else if c = 32 ∨ c = 10 then lexN f (p + 1) r
    else match tokAt p (c :: r) with
      | none => ([], some p)
      | some t => (t :: (lexN f (p + t.text.length) ((c :: r).drop t.text.length)).1, (lexN f (p + t.text.length) ((c :: r).drop t.text.length)).2)
def optN : Option Nat → D
  | none => .non
  | some n => .int (n : Int)
theorem lexN_nil {f p : Nat} : lexN f p [] = ([], none) := by cases f <;> rfl
/-- one step: the lexer's own state -/
def lexP (a : Nat) (l : List Nat) (done : List Tk) (z : List Tk × Option Nat) : Prop := ∃ f, (l.drop a).length < f ∧ z = (done ++ (lexN f a (l.drop a)).1, (lexN f a (l.drop a)).2)
theorem cut_pos {c : Nat} {r : List Nat} (h : c ≠ 10) : 0 < (cutN 10 (c :: r)).1.length := by
  unfold cutN
  rw [if_neg h]
  simp
theorem tk_place {f : Nat} : ∀ {p : Nat} {l : List Nat}, (∀ t ∈ (lexN f p l).1, t.text.length ≤ l.length ∧ t.place ≤ p + l.length) ∧ (∀ q, (lexN f p l).2 = some q → q ≤ p + l.length) ∧ (lexN f p l).1.length ≤ l.length := by
  induction f with
  | zero => exact fun {p l} => ⟨fun t h => absurd h (by simp [lexN]), (fun q h => nomatch h), Nat.zero_le _⟩
  | succ f ih =>
    intro p l
    cases l with
    | nil => exact ⟨fun t h => absurd h (by simp [lexN]), (fun q h => nomatch h), Nat.zero_le _⟩
    | cons c r =>
      have mono : ∀ {q : Nat} {m : List Nat} {n : Nat}, p ≤ q → q + m.length ≤ p + (c :: r).length → m.length + n ≤ (c :: r).length → (∀ t ∈ (lexN f q m).1, t.text.length ≤ (c :: r).length ∧ t.place ≤ p + (c :: r).length) ∧ (∀ x, (lexN f q m).2 = some x → x ≤ p + (c :: r).length) ∧ (lexN f q m).1.length + n ≤ (c :: r).length := fun {q m n} h1 h2 h3 => by
        obtain ⟨a, b, d⟩ := ih (p := q) (l := m)
        exact ⟨fun t ht => ⟨by have := (a t ht).1; omega, by have := (a t ht).2; omega⟩, fun x hx => by have := b x hx; omega, by omega⟩
      unfold lexN
      by_cases h35 : c = 35
      · rw [if_pos h35]
        have := (cut_len 10 (c :: r)).1
        exact mono (n := 0) (by omega) (by rw [List.length_drop]; omega) (by rw [List.length_drop]; omega)
      · rw [if_neg h35]
        by_cases hb : c = 32 ∨ c = 10
        · rw [if_pos hb]
          exact mono (n := 0) (by omega) (by rw [List.length_cons]; omega) (by rw [List.length_cons]; omega)
        · rw [if_neg hb]
          cases e : tokAt p (c :: r) with
          | none => exact ⟨fun t h => absurd h (by simp), fun q h => by cases h; exact Nat.le_add_right _ _, Nat.zero_le _⟩
          | some t =>
            obtain ⟨t1, t2, t3⟩ := tokAt_len e
            obtain ⟨a, b, d⟩ := mono (q := p + t.text.length) (m := (c :: r).drop t.text.length) (n := 1) (by omega) (by rw [List.length_drop]; omega) (by rw [List.length_drop]; omega)
            dsimp only
            refine ⟨fun u hu => ?_, b, by rw [List.length_cons]; exact d⟩
            rcases List.mem_cons.mp hu with rfl | hu
            · exact ⟨t2, by omega⟩
            · exact a u hu
theorem cut_tk {p : Nat} {l : List Nat} (a : Nat) : (l.drop a).length = l.length - a := List.length_drop
section
variable {P : Program} {w : World} {K : PySem.W.Frag} {mg : Str → Option Value} {base : Heap} {Ck : Addr}
theorem sc_tokens_of : FnScope ["text", "found", "at", "token"] ["text"] (defScope s_tokens_of) := ⟨rfl, rfl, rfl, by decide +kernel, rfl, by decide +kernel, by decide +kernel⟩
def F_tokens_of (Ck : Addr) : FS := fun ds r => ∃ (l : List Nat), ds = [tx l] ∧ l.length ≤ 4200 ∧ r = .ret (.tup [.lst ((lexN (l.length + 1) 0 l).1.map (tkD Ck)), optN (lexN (l.length + 1) 0 l).2])
theorem blank_in (c : Nat) : decide (c ∈ (Str.ofString " \n").cps.toList) = decide (c = 32 ∨ c = 10) := by
  have e : (Str.ofString " \n").cps.toList = [32, 10] := by decide +kernel
  rw [e]
  exact decide_eq_decide.mpr (by simp)
theorem fn_tokens_of (T : FunT K mg "tokens_of" s_tokens_of ["text"]) (hLen : mg "len" = none) (C : TkT K Ck) (hA : FnN P w K mg base "token_at" 3 (F_token_at Ck)) : FnN P w K mg base "tokens_of" 4 (F_tokens_of Ck) := fnN T fun f fd Fu => by
  refine fn_intro Fu sc_tokens_of (fun ds r h => ?_) fun cd A outer s H E W room ds r h => ?_
  · obtain ⟨l, rfl, _⟩ := h
    rfl
  · obtain ⟨l, rfl, hl, rfl⟩ := h
    have sz : (S l).length ≤ sizeLine := by rw [S_len, sizeLine_eq]; omega
    generalize hz : lexN (l.length + 1) 0 l = z
    have hz0 : lexP 0 l [] z := ⟨l.length + 1, by rw [List.drop_zero]; omega, by rw [List.drop_zero, hz]; rfl⟩
    have hzl : z.1.length ≤ l.length := by rw [← hz]; exact (tk_place (f := l.length + 1) (p := 0) (l := l)).2.2
    clear hz
    refine ss_cons (sw_own 1 (aw_nil ⟨Nat.le_of_ble_eq_true rfl, rfl, ?_⟩))
    refine ss_cons (sw_setD 2 de_int ?_)
    refine ss_cons (sw_while (fun m Γ => ∃ (a : Nat) (done : List Tk) (o : Option Sl), a ≤ l.length ∧ lexP a l done z ∧ m = l.length - a ∧ Γ = [some (.im (tx l)), some (.ow (done.map (tkD Ck))), some (.im (.int (a : Int))), o]) ?_ ?_)
    · exact ⟨_, 0, [], none, Nat.zero_le _, hz0, rfl, rfl⟩
    · rintro m Γ1 ⟨a, done, o, ha, ⟨f, hf, hz⟩, rfl, rfl⟩
      refine tw_pure (td_cmp (de_var 2) (de_bi hLen (des_cons (de_var 0) des_nil) (cd_lenS sz)) od_lt) ⟨fun h => ?_, fun h => ?_⟩
      · have hlt : a < l.length := by rw [S_len] at h; have := of_decide_eq_true h; omega
        obtain ⟨c, r, hcr⟩ : ∃ c r, l.drop a = c :: r := by
          cases e : l.drop a with
          | nil =>
            have := congrArg List.length e
            rw [List.length_drop, List.length_nil] at this
            omega
          | cons c r => exact ⟨c, r, rfl⟩
        have hc : l[a]? = some c := by
          have := congrArg (·[0]?) hcr
          simpa [List.getElem?_drop] using this
        have hlen : (c :: r).length = l.length - a := by rw [← hcr, List.length_drop]
        rw [hcr] at hz hf
        obtain ⟨g, rfl⟩ : ∃ g, f = g + 1 := ⟨f - 1, by omega⟩
        have step : ∀ n, 0 < n → n ≤ (c :: r).length → (c :: r).drop n = l.drop (a + n) ∧ (l.drop (a + n)).length < g := fun n h0 hn => by
          rw [← hcr, List.drop_drop]
          refine ⟨rfl, ?_⟩
          rw [List.length_drop]
          omega
        unfold lexN at hz
        refine ss_one (sw_ifD (td_is (td_cmp (de_ix (de_var 0) (de_var 2) (ix_S (by omega) hc)) de_str od_eqS) (S_eq (a := [c]) (b := [35]))) (fun k => ?_) fun k => ?_)
        · have h35 : c = 35 := by have := of_decide_eq_true k; simpa using this
          rw [if_pos h35] at hz
          have hp := partition_cut 10 (c :: r)
          have e0 : Txt.partition (S (c :: r)) (S [10]) = (S (cutN 10 (c :: r)).1, S (lineN (cutN 10 (c :: r))), S ((cutN 10 (c :: r)).2.getD [])) → True := fun _ => trivial
          have n1 := cut_pos (c := c) (r := r) (by omega)
          have n2 := (cut_len 10 (c :: r)).1
          obtain ⟨s1, s2⟩ := step _ n1 n2
          rw [s1] at hz
          have hfst : ∃ x y, Txt.partition (S (c :: r)) (S [10]) = (S (cutN 10 (c :: r)).1, x, y) := by
            rw [hp]
            cases (cutN 10 (c :: r)).2 with
            | none => exact ⟨_, _, rfl⟩
            | some q => exact ⟨_, _, rfl⟩
          obtain ⟨x, y, hfst⟩ := hfst
          generalize hb : (cutN 10 (c :: r)).1 = b at *
          have szb : (S b).length ≤ sizeLine := by rw [S_len, sizeLine_eq]; omega
          refine ss_one (sw_setD 2 (de_op (de_var 2) (de_bi hLen (des_cons (de_ix (x := .tup [tx b, .str x, .str y]) (de_is (de_partition (a := S (c :: r)) (b := S [10]) (de_is (de_slS (de_var 0) (pd_some (de_var 2)) pd_none sz) (by rw [cutS_from, hcr])) de_str rfl (by rw [S_len, sizeLine_eq]; omega)) (by rw [hfst])) de_int rfl) des_nil) (cd_lenS szb)) od_add) ?_)
          refine ⟨l.length - (a + b.length), by omega, a + b.length, done, o, by omega, ⟨g, s2, hz⟩, rfl, ?_⟩
          rw [S_len]
          rfl
        · have h35 : ¬ c = 35 := fun z => by subst z; cases k
          rw [if_neg h35] at hz
          refine ss_one (sw_ifD (td_is (td_cmp (de_ix (de_var 0) (de_var 2) (ix_S (by omega) hc)) de_str od_inSign) (blank_in c)) (fun k2 => ?_) fun k2 => ?_)
          · rw [if_pos (of_decide_eq_true k2)] at hz
            obtain ⟨s1, s2⟩ := step 1 (by decide) (by simp)
            rw [List.drop_succ_cons, List.drop_zero] at s1
            rw [s1] at hz
            refine ss_one (sw_setD 2 (de_op (de_var 2) de_int od_add) ?_)
            exact ⟨l.length - (a + 1), by omega, a + 1, done, o, by omega, ⟨g, s2, hz⟩, rfl, rfl⟩
          · rw [if_neg (of_decide_eq_false k2)] at hz
            refine ss_cons (sw_setD 3 (d := optTk Ck (tokAt a (c :: r))) (de_is (de_call hA (des_cons (de_var 0) (des_cons (de_var 2) des_nil)) ⟨l, a, rfl, hlt, hl, rfl⟩) (by rw [hcr])) ?_)
            cases e : tokAt a (c :: r) with
            | none =>
              rw [e] at hz
              dsimp only at hz
              refine ss_cons (sw_ifD (k := true) (td_cmp (de_var 3) de_non od_isN) (fun k3 => ?_) fun k3 => nomatch k3)
              refine ss_freeze 1 rfl (ss_one (sw_retD (de_tup (des_cons (de_var 1) (des_cons (de_var 2) des_nil))) ?_))
              rw [hz, List.append_nil]
              rfl
            | some t =>
              rw [e] at hz
              dsimp only at hz
              obtain ⟨t1, t2, t3⟩ := tokAt_len e
              obtain ⟨s1, s2⟩ := step _ t1 t2
              rw [s1] at hz
              have hd : done.length < 1000000 := by
                have := congrArg (fun q => q.1.length) hz
                dsimp only at this
                rw [List.length_append] at this
                omega
              refine ss_cons (sw_ifD (k := false) (td_cmp (de_var 3) de_non od_isN) (fun k3 => nomatch k3) fun k3 => ?_)
              refine ss_nil ?_
              refine ss_cons (sw_app 1 ⟨_, rfl⟩ (ew_pure (de_var 3) ⟨_, rfl, by rw [List.length_map]; exact hd, ?_⟩))
              have szt : (S t.text).length ≤ sizeLine := by rw [S_len, sizeLine_eq]; omega
              refine ss_one (sw_setD 2 (de_op (de_var 2) (de_bi hLen (des_cons (de_fld (de_var 3) C.cl C.nt rfl) des_nil) (cd_lenS szt)) od_add) ?_)
              refine ⟨l.length - (a + t.text.length), by omega, a + t.text.length, done ++ [t], some (.im (tkD Ck t)), by omega, ⟨g, s2, ?_⟩, rfl, ?_⟩
              · rw [hz, List.append_assoc]
                rfl
              · rw [S_len, List.map_append]
                rfl
      · have hge : l.drop a = [] := List.drop_of_length_le (by rw [S_len] at h; have := of_decide_eq_false h; omega)
        rw [hge, lexN_nil, List.append_nil] at hz
        subst hz
        refine ss_freeze 1 rfl (ss_one (sw_retD (de_tup (des_cons (de_var 1) (des_cons de_non des_nil))) rfl))
end
end Sd

set_option Elab.async false
set_option linter.all false
set_option maxRecDepth 100000
set_option maxHeartbeats 4000000
set_option exponentiation.threshold 10000
namespace Sd
open PySem PySem.Spec PyProof.Rows L2
/-! ## self.f, x = e -/
def gFld (K : PySem.W.Frag) (ta : TE) (f : Str) : TG := fun v σ H Q => ta σ H fun x H1 => ∃ (a C dx : Addr) (fs : List (Str × V)), x = .ref a ∧ H1 a = some (.ins C dx fs) ∧ Cls K C ∧ NoAttr K C f ∧ fs.length < 1000 ∧ Q σ (upd H1 a (.ins C dx (putF f v fs)))
theorem pg_fld {X : Cx} {o : Expr} {ta : TE} {f : Str} {pos : Pos} (ha : PE X o ta) : PG X (.Attribute o f pos) (gFld X.K ta f) := by
  refine ⟨fun pins s σ H v u Q I r h => ?_⟩
  refine PySem.W.kas_attr (thn (ha.run pins s σ H _ I h) fun ov s1 ⟨x, H1, I1, rx, a, C, dx, fs, ex, ea, c, n, l, q⟩ => ?_)
  subst ex
  obtain rfl : ov = Value.ref a := rx
  exact setattr_ok I1 ea c n l r fun s2 I2 => ⟨σ, _, I2, q⟩
theorem sw_unpF {B : Bx} {e : Expr} {Γ : Env} {P : Post} {C : Addr} {f n m : Str} {p1 p2 p3 tp pos : Pos} {kk : Nat} (i j : Nat) (h : EW B e Γ (fun d Γ1 => ∃ d1 d2 a gs, d = .tup [d1, d2] ∧ Γ1[i]? = some (some (.mu a C gs)) ∧ gs.length < 900 ∧ P.nx ((Γ1.set i (some (.mu a C (putD f d1 gs)))).set j (some (.im d2)))) P.ex) (cl : Cls B.X.K C) (na : NoAttr B.X.K C f)
    (hN : B.X.N[i]? = some n := by rfl) (hv : Vis B.X.env.scope n := by first | exact Or.inl rfl | exact Or.inr (Or.inl rfl) | exact Or.inr (Or.inr rfl)) (hd : (n == ("__debug__" : Str)) = false := by decide) (hc : (n == ("__classdict__" : Str)) = false := by decide)
    (hN2 : B.X.N[j]? = some m := by rfl) (hx2 : Loc B.X.env.scope m := by first | exact Or.inl rfl | exact Or.inr rfl) (hf2 : B.X.fn m = true ∨ B.X.env.scope.names.lookup m = some .local := by first | exact .inl rfl | exact .inr rfl)
    (hs1 : (assignEach [.Attribute (.Name n p1) f p2, .Name m p3] B.X.env).map (·.2) = assign (.Attribute (.Name n p1) f p2) B.X.env :: (assignEach [.Name m p3] B.X.env).map (·.2) := by rfl) (hs2 : (assignEach [.Name m p3] B.X.env).map (·.2) = assign (.Name m p3) B.X.env :: (assignEach [] B.X.env).map (·.2) := by rfl)
    (hn : (assignEach [.Attribute (.Name n p1) f p2, .Name m p3] B.X.env).length = 2 := by rfl) (hst : (assignEach [.Attribute (.Name n p1) f p2, .Name m p3] B.X.env).findIdx? (·.1) = none := by rfl)
    (hs : swapsWithSole [.Tuple [.Attribute (.Name n p1) f p2, .Name m p3] kk tp] e pos.line B.X.env = pure false := by rfl) (hw : swappedStores [.Tuple [.Attribute (.Name n p1) f p2, .Name m p3] kk tp] e B.X.env = pure none := by rfl)
    (h1 : (assignEach [.Tuple [.Attribute (.Name n p1) f p2, .Name m p3] kk tp] B.X.env).map (·.2) = [assign (.Tuple [.Attribute (.Name n p1) f p2, .Name m p3] kk tp) B.X.env] := by rfl) (hh : B.hot = false := by rfl) : SW B (.Assign [.Tuple [.Attribute (.Name n p1) f p2, .Name m p3] kk tp] e pos) Γ P := fun T σ H D s r =>
  SemS.of (ps_asg semE (pg_tup (B.calm hh) (pgs_cons (pg_fld (pe_var hN hv hd hc)) (pgs_cons (pg_name B.nd hN2 hx2 hf2) pgs_nil hs2) hs1) hn hst) hs hw h1) (h T σ H _ s (fun v d H1 Γ1 ⟨d1, d2, a, gs, e1, hi1, hlen, q⟩ s1 => by
    subst e1
    obtain ⟨W, g⟩ := s1
    obtain ⟨l, xs, rfl, hsq, hr⟩ := rpTup g.top
    obtain ⟨v1, v2, rfl, r1, r2⟩ := rplTwo hr
    obtain ⟨v, hσ, dx, fs, rfl, wa, fa, ha, hf⟩ := g.slot i _ hi1
    refine ⟨l, [v1, v2], rfl, hsq, rfl, v1, [v2], rfl, .ref a, hσ, a, C, dx, fs, rfl, ha, cl, na, by rw [hf.length]; omega, v2, [], rfl, rfl, r.nx _ _ _ q ?_⟩
    have kp : Kp W W H1 (upd H1 a (.ins C dx (putF f v1 fs))) := ⟨fun b u nb e => by
      rw [upd_ne (fun z => nb (by rw [z]; exact wa))]
      exact e, fun _ z => .inl z⟩
    have g2 := (g.tl.put (p := .v v2 d2) r2).chg (H' := upd H1 a (.ins C dx (putF f v1 fs))) hi1 trivial (s' := .mu a C (putD f d1 gs)) trivial hσ wa fa (by rw [upd_same]; exact fun z => nomatch z) (fun b u nb e => by rw [upd_ne nb]; exact e) ⟨dx, _, rfl, wa, fa, upd_same, RpF.keep kp (RpF.put r1 hf)⟩
    exact Sta.store ⟨W, g2⟩) (r.ex σ))
/-! ## The reader -/
structure RdS where
  toks : List Tk
  ep : Nat
  ek : Nat
abbrev rdG (Ck : Addr) (S : RdS) (ts : List Tk) : List (Str × D) := [("tokens", .lst (S.toks.map (tkD Ck))), ("at", .int ((S.toks.length - ts.length : Nat) : Int)), ("end_place", .int (S.ep : Int)), ("end_kind", .int (S.ek : Int))]
structure RdOk (S : RdS) (ts : List Tk) : Prop where
  suf : ts <:+ S.toks
  len : S.toks.length ≤ 5000
  txt : ∀ t ∈ S.toks, t.text.length ≤ 5000
theorem RdOk.of {S : RdS} {ts us : List Tk} (h : RdOk S ts) (k : us <:+ ts) : RdOk S us := ⟨k.trans h.suf, h.len, h.txt⟩
/-- a parser's outcome: what is read and the tokens left; or the tokens from the one on that can't stand -/
inductive Pr (α : Type) where
  | ok (a : α) (ts : List Tk)
  | bad (ts : List Tk)
def Pr.bind {α β : Type} (p : Pr α) (f : α → List Tk → Pr β) : Pr β := match p with
  | .ok a ts => f a ts
  | .bad ts => .bad ts
def Pr.rest {α : Type} : Pr α → List Tk
  | .ok _ ts => ts
  | .bad ts => ts
/-- a fault -/
def fltG (S : RdS) : List Tk → List (Str × D)
  | [] => [("place", .int (S.ep : Int)), ("kind", .int (S.ek : Int))]
  | t :: _ => [("place", .int (t.place : Int)), ("kind", .int 2)]
def Pr.res {α : Type} (S : RdS) (Cx : Addr) (f : α → D) : Pr α → Res
  | .ok a _ => .ret (f a)
  | .bad ts => .exc Cx (fltG S ts)
def saysN (t : Tk) (x : Str) : Bool := decide (t.fam = .word ∨ t.fam = .sgn) && decide (S t.text = x)
def hereM : List Tk → Pr Tk
  | [] => .bad []
  | t :: r => .ok t (t :: r)
def allowM (b : Bool) : List Tk → Pr Unit
  | [] => .bad []
  | t :: r => if b = true then .ok () (t :: r) else .bad (t :: r)
def takeM : List Tk → Pr (List Nat)
  | [] => .bad []
  | t :: r => .ok t.text r
def comesM (x : Str) : List Tk → Pr Bool
  | [] => .bad []
  | t :: r => .ok (saysN t x) (t :: r)
def needM (x : Str) : List Tk → Pr Unit
  | [] => .bad []
  | t :: r => if saysN t x = true then .ok () r else .bad (t :: r)
def nameM : List Tk → Pr (List Nat)
  | [] => .bad []
  | t :: r => if t.fam = .name then .ok t.text r else .bad (t :: r)
def nonD (_ : Unit) : D := .non
/-- what a method of a reader does -/
def M_rd {α : Type} (Ck Cx : Addr) (ds0 : List D) (f : α → D) (p : List Tk → Pr α) : MS := fun gs ds gs' r => ∃ (S : RdS) (ts : List Tk), RdOk S ts ∧ gs = rdG Ck S ts ∧ ds = ds0 ∧ gs' = rdG Ck S (p ts).rest ∧ r = (p ts).res S Cx f
/-- what the written part says of readers -/
structure RdT (K : PySem.W.Frag) (Cd : Addr) : Prop where
  cl : Cls K Cd
  nt : NoAttr K Cd "tokens"
  na : NoAttr K Cd "at"
  np : NoAttr K Cd "end_place"
  nk : NoAttr K Cd "end_kind"
theorem suf_at {S : RdS} {t : Tk} {r : List Tk} (h : RdOk S (t :: r)) : S.toks[S.toks.length - (t :: r).length]? = some t := by
  obtain ⟨a, e⟩ := h.suf
  rw [← e, List.length_append, Nat.add_sub_cancel, List.getElem?_append_right (Nat.le_refl _), Nat.sub_self]
  rfl
theorem suf_len {S : RdS} {ts : List Tk} (h : RdOk S ts) : ts.length ≤ S.toks.length := h.suf.length_le
section
variable {P : Program} {w : World} {K : PySem.W.Frag} {mg : Str → Option Value} {base : Heap} {Ck Cd Cx : Addr}
theorem sc_says : FnScope ["self", "text"] ["self", "text"] (defScope m_Token_says) := ⟨rfl, rfl, rfl, by decide +kernel, rfl, by decide +kernel, by decide +kernel⟩
def F_says (Ck : Addr) : FS := fun ds r => ∃ (t : Tk) (x : Str), ds = [tkD Ck t, .str x] ∧ r = .ret (.bl (saysN t x))
theorem fn_says (T : MethT K Ck "says" "Token.says" m_Token_says ["self", "text"]) (C : TkT K Ck) (n1 : ∃ t, mg "WORD" = some (.str "word" t)) (n4 : ∃ t, mg "SIGN" = some (.str "sign" t)) : MfN P w K mg base Ck "says" 1 (F_says Ck) := mfN T fun f fd Fu => by
  obtain ⟨t5, n1⟩ := n1
  obtain ⟨t8, n4⟩ := n4
  refine fn_intro Fu sc_says (fun ds r h => ?_) fun cd A outer s H E W room ds r h => ?_
  · obtain ⟨t, x, rfl, _⟩ := h
    rfl
  · obtain ⟨t, x, rfl, rfl⟩ := h
    have ef : inF (.str t.fam.s) [.str "word", .str "sign"] = decide (t.fam = .word ∨ t.fam = .sgn) := by
      cases t.fam <;> decide
    refine ss_one (sw_retD (de_and (k := decide (t.fam = .word ∨ t.fam = .sgn)) (l := decide (S t.text = x)) (de_is (de_cmp (de_fld (de_var 0) C.cl C.nf rfl) (de_tup (des_cons (de_gstr n1) (des_cons (de_gstr n4) des_nil))) (od_inT rfl rfl)) (congrArg D.bl ef)) fun _ => de_one (de_cmp (de_fld (de_var 0) C.cl C.nt rfl) (de_var 1) od_eqS)) rfl)
theorem sc_is_at_end : FnScope ["self"] ["self"] (defScope m_Reader_is_at_end) := ⟨rfl, rfl, rfl, by decide +kernel, rfl, by decide +kernel, by decide +kernel⟩
def M_end (Ck : Addr) : MS := fun gs ds gs' r => ∃ (S : RdS) (ts : List Tk), RdOk S ts ∧ gs = rdG Ck S ts ∧ ds = [] ∧ gs' = rdG Ck S ts ∧ r = .ret (.bl (decide (ts = []) && decide (S.ek = 2)))
theorem mmN {C : Addr} {m qual : Str} {st : Stmt} {ps : List Str} {k : Nat} {M : MS} (T : MethT K C m qual st ps) (h : ∀ f fd, Fun K m qual st f fd → FnOk P w K mg base (L2N.CX P w) k f fd ps (spM K C M)) : Mm (L2N.CX P w) P w K mg base C m k M :=
  let ⟨f, fd, a, b, c, d⟩ := T; ⟨f, fd, ps, h f fd a, b, c, d⟩
theorem end_at {S : RdS} {ts : List Tk} (h : RdOk S ts) : decide (((S.toks.length - ts.length : Nat) : Int) = ((S.toks.map (tkD Ck)).length : Int)) = decide (ts = []) := by
  have := suf_len h
  rw [List.length_map]
  refine decide_eq_decide.mpr ⟨fun e => ?_, fun e => ?_⟩
  · cases ts with
    | nil => rfl
    | cons t r =>
      rw [List.length_cons] at e this
      omega
  · subst e
    rfl
theorem mm_end (T : MethT K Cd "is_at_end" "Reader.is_at_end" m_Reader_is_at_end ["self"]) (C : RdT K Cd) (hLen : mg "len" = none) (hN : ∃ t, mg "NO_DRAFT_grammar" = some (.int 2 t)) : Mm (L2N.CX P w) P w K mg base Cd "is_at_end" 1 (M_end Ck) := mmN T fun f fd Fu => by
  obtain ⟨t, hN⟩ := hN
  refine mm_intro Fu sc_is_at_end (fun gs ds gs' r h => ?_) fun cd A outer s H E W a room gs ds gs' r h => ?_
  · obtain ⟨S, ts, _, rfl, rfl, _⟩ := h
    rfl
  · obtain ⟨S, ts, ok, rfl, rfl, rfl, rfl⟩ := h
    refine ss_one (sw_retD (d := .bl (decide (ts = []) && decide (S.ek = 2))) (de_and (de_is (de_cmp (de_mfld 0 rfl C.cl C.na rfl) (de_bi hLen (des_cons (de_mfld 0 rfl C.cl C.nt rfl) des_nil) cd_lenL) od_eq) (congrArg D.bl (end_at ok))) fun _ => de_one (de_is (de_cmp (de_mfld 0 rfl C.cl C.nk rfl) (de_gint hN) od_eq) ?_)) ⟨rfl, rfl⟩)
    exact congrArg D.bl (decide_eq_decide.mpr ⟨fun h => by omega, fun h => by omega⟩)
theorem sc_here : FnScope ["self"] ["self"] (defScope m_Reader_here) := ⟨rfl, rfl, rfl, by decide +kernel, rfl, by decide +kernel, by decide +kernel⟩
theorem mm_here (T : MethT K Cd "here" "Reader.here" m_Reader_here ["self"]) (C : RdT K Cd) (hLen : mg "len" = none) (hX : Xc (L2N.CX P w) P w K mg base "TextFault" Cx 2 ["kind", "place"]) : Mm (L2N.CX P w) P w K mg base Cd "here" 4 (M_rd Ck Cx [] (tkD Ck) hereM) := mmN T fun f fd Fu => by
  refine mm_intro Fu sc_here (fun gs ds gs' r h => ?_) fun cd A outer s H E W a room gs ds gs' r h => ?_
  · obtain ⟨S, ts, _, rfl, rfl, _⟩ := h
    rfl
  · obtain ⟨S, ts, ok, rfl, rfl, rfl, rfl⟩ := h
    refine ss_cons (sw_ifD (td_is (td_cmp (de_mfld 0 rfl C.cl C.na rfl) (de_bi hLen (des_cons (de_mfld 0 rfl C.cl C.nt rfl) des_nil) cd_lenL) od_eq) (end_at ok)) (fun k => ?_) fun k => ?_)
    · have := of_decide_eq_true k
      subst this
      exact ss_one (sw_raise hX (by exact Nat.le_of_ble_eq_true rfl) (aw_pure (des_cons (de_mfld 0 rfl C.cl C.nk rfl) (des_cons (de_mfld 0 rfl C.cl C.np rfl) des_nil)) ⟨rfl, rfl, rfl⟩))
    · refine ss_nil ?_
      cases ts with
      | nil => exact absurd rfl (of_decide_eq_false k)
      | cons t r =>
        refine ss_one (sw_retD (d := tkD Ck t) (de_ix (de_mfld 0 rfl C.cl C.nt rfl) (de_mfld 0 rfl C.cl C.na rfl) ?_) ⟨rfl, rfl⟩)
        have e := suf_at ok
        show atI (S.toks.map (tkD Ck)) ((S.toks.length - (t :: r).length : Nat) : Int) = some (tkD Ck t)
        rw [atI_nat (by rw [List.length_map]; exact (List.getElem?_eq_some_iff.mp e).1), List.getElem?_map, e]
        rfl
theorem sc_allow : FnScope ["self", "is_so", "place"] ["self", "is_so"] (defScope m_Reader_allow) := ⟨rfl, rfl, rfl, by decide +kernel, rfl, by decide +kernel, by decide +kernel⟩
theorem mm_allow (T : MethT K Cd "allow" "Reader.allow" m_Reader_allow ["self", "is_so"]) (C : RdT K Cd) (D : TkT K Ck) (hN : ∃ t, mg "NO_DRAFT_grammar" = some (.int 2 t)) (hX : Xc (L2N.CX P w) P w K mg base "TextFault" Cx 2 ["kind", "place"]) (hH : Mm (L2N.CX P w) P w K mg base Cd "here" 4 (M_rd Ck Cx [] (tkD Ck) hereM)) (b : Bool) :
    Mm (L2N.CX P w) P w K mg base Cd "allow" 5 (M_rd Ck Cx [.bl b] nonD (allowM b)) := mmN T fun f fd Fu => by
  obtain ⟨t, hN⟩ := hN
  refine mm_intro Fu sc_allow (fun gs ds gs' r h => ?_) fun cd A outer s H E W a room gs ds gs' r h => ?_
  · obtain ⟨S, ts, _, rfl, rfl, _⟩ := h
    rfl
  · obtain ⟨S, ts, ok, rfl, rfl, rfl, rfl⟩ := h
    cases ts with
    | nil => exact ss_cons (sw_set 2 (ew_fld (ew_mmeth0 0 hH (hi := ⟨_, rfl, rfl⟩) (h := ⟨_, _, _, rfl, ⟨S, [], ok, rfl, rfl, rfl, rfl⟩, rfl, rfl⟩)) D.cl D.np))
    | cons u r =>
      refine ss_cons (sw_set 2 (ew_fld (ew_mmeth0 0 hH (hi := ⟨_, rfl, rfl⟩) (h := ⟨_, _, _, rfl, ⟨S, u :: r, ok, rfl, rfl, rfl, rfl⟩, ?_⟩)) D.cl D.np))
      refine ⟨_, _, rfl, rfl, ?_⟩
      refine ss_one (sw_ifD (td_not (td_val (de_var 1))) (fun k => ?_) fun k => ?_)
      · have : b = false := by cases b <;> first | rfl | cases k
        subst this
        exact ss_one (sw_raise hX (by exact Nat.le_of_ble_eq_true rfl) (aw_pure (des_cons (de_gint hN) (des_cons (de_var 2) des_nil)) ⟨rfl, rfl, rfl⟩))
      · have : b = true := by cases b <;> first | rfl | cases k
        subst this
        exact ss_nil ⟨rfl, rfl⟩
theorem sc_take2 : FnScope ["self", "found"] ["self"] (defScope m_Reader_take) := ⟨rfl, rfl, rfl, by decide +kernel, rfl, by decide +kernel, by decide +kernel⟩
theorem rd_next {S : RdS} {t : Tk} {r : List Tk} (ok : RdOk S (t :: r)) : (((S.toks.length - (t :: r).length : Nat) : Int) + 1) = ((S.toks.length - r.length : Nat) : Int) := by
  have := suf_len ok
  rw [List.length_cons] at this ⊢
  omega
theorem mm_take (T : MethT K Cd "take" "Reader.take" m_Reader_take ["self"]) (C : RdT K Cd) (D : TkT K Ck) (hH : Mm (L2N.CX P w) P w K mg base Cd "here" 4 (M_rd Ck Cx [] (tkD Ck) hereM)) :
    Mm (L2N.CX P w) P w K mg base Cd "take" 5 (M_rd Ck Cx [] tx takeM) := mmN T fun f fd Fu => by
  refine mm_intro Fu sc_take2 (fun gs ds gs' r h => ?_) fun cd A outer s H E W a room gs ds gs' r h => ?_
  · obtain ⟨S, ts, _, rfl, rfl, _⟩ := h
    rfl
  · obtain ⟨S, ts, ok, rfl, rfl, rfl, rfl⟩ := h
    cases ts with
    | nil => exact ss_cons (sw_set 1 (ew_fld (ew_mmeth0 0 hH (hi := ⟨_, rfl, rfl⟩) (h := ⟨_, _, _, rfl, ⟨S, [], ok, rfl, rfl, rfl, rfl⟩, rfl, rfl⟩)) D.cl D.nt))
    | cons u r =>
      refine ss_cons (sw_set 1 (ew_fld (ew_mmeth0 0 hH (hi := ⟨_, rfl, rfl⟩) (h := ⟨_, _, _, rfl, ⟨S, u :: r, ok, rfl, rfl, rfl, rfl⟩, ?_⟩)) D.cl D.nt))
      refine ⟨_, _, rfl, rfl, ?_⟩
      refine ss_cons (sw_fld 0 (ew_pure (de_op (de_mfld 0 rfl C.cl C.na rfl) de_int od_add) ⟨_, rfl, Nat.le_of_ble_eq_true rfl, ?_⟩) C.cl C.na)
      refine ss_one (sw_retD (de_var 1) ⟨rfl, ?_⟩)
      show some (some (Sl.mu a Cd [("tokens", .lst (S.toks.map (tkD Ck))), ("at", .int (((S.toks.length - (u :: r).length : Nat) : Int) + 1)), ("end_place", .int (S.ep : Int)), ("end_kind", .int (S.ek : Int))])) = _
      rw [rd_next ok]
      rfl
theorem sc_comes : FnScope ["self", "text"] ["self", "text"] (defScope m_Reader_comes) := ⟨rfl, rfl, rfl, by decide +kernel, rfl, by decide +kernel, by decide +kernel⟩
theorem mm_comes (T : MethT K Cd "comes" "Reader.comes" m_Reader_comes ["self", "text"]) (hH : Mm (L2N.CX P w) P w K mg base Cd "here" 4 (M_rd Ck Cx [] (tkD Ck) hereM)) (hS : MfN P w K mg base Ck "says" 1 (F_says Ck)) (x : Str) :
    Mm (L2N.CX P w) P w K mg base Cd "comes" 5 (M_rd Ck Cx [.str x] D.bl (comesM x)) := mmN T fun f fd Fu => by
  refine mm_intro Fu sc_comes (fun gs ds gs' r h => ?_) fun cd A outer s H E W a room gs ds gs' r h => ?_
  · obtain ⟨S, ts, _, rfl, rfl, _⟩ := h
    rfl
  · obtain ⟨S, ts, ok, rfl, rfl, rfl, rfl⟩ := h
    cases ts with
    | nil => exact ss_one (sw_ret (ew_meth hS (h := ew_mmeth0 0 hH (hi := ⟨_, rfl, rfl⟩) (h := ⟨_, _, _, rfl, ⟨S, [], ok, rfl, rfl, rfl, rfl⟩, rfl, rfl⟩))))
    | cons u r => exact ss_one (sw_ret (ew_meth hS (h := ew_mmeth0 0 hH (hi := ⟨_, rfl, rfl⟩) (h := ⟨_, _, _, rfl, ⟨S, u :: r, ok, rfl, rfl, rfl, rfl⟩, _, rfl, rfl, aw_pure (des_cons (de_var 1) des_nil) ⟨_, ⟨u, x, rfl, rfl⟩, rfl, rfl⟩⟩))))
theorem sc_need : FnScope ["self", "text"] ["self", "text"] (defScope m_Reader_need) := ⟨rfl, rfl, rfl, by decide +kernel, rfl, by decide +kernel, by decide +kernel⟩
theorem mm_need (T : MethT K Cd "need" "Reader.need" m_Reader_need ["self", "text"]) (x : Str) (hC : Mm (L2N.CX P w) P w K mg base Cd "comes" 5 (M_rd Ck Cx [.str x] D.bl (comesM x))) (hA : ∀ b, Mm (L2N.CX P w) P w K mg base Cd "allow" 5 (M_rd Ck Cx [.bl b] nonD (allowM b)))
    (hT : Mm (L2N.CX P w) P w K mg base Cd "take" 5 (M_rd Ck Cx [] tx takeM)) :
    Mm (L2N.CX P w) P w K mg base Cd "need" 6 (M_rd Ck Cx [.str x] nonD (needM x)) := mmN T fun f fd Fu => by
  refine mm_intro Fu sc_need (fun gs ds gs' r h => ?_) fun cd A outer s H E W a room gs ds gs' r h => ?_
  · obtain ⟨S, ts, _, rfl, rfl, _⟩ := h
    rfl
  · obtain ⟨S, ts, ok, rfl, rfl, rfl, rfl⟩ := h
    cases ts with
    | nil => exact ss_cons (sw_expr (ew_mmeth 0 (hA true) (hi := ⟨_, rfl, rfl⟩) (h := aw_cons (ew_mmeth 0 hC (hi := ⟨_, rfl, rfl⟩) (h := aw_pure (des_cons (de_var 1) des_nil) ⟨_, _, _, rfl, ⟨S, [], ok, rfl, rfl, rfl, rfl⟩, rfl, rfl⟩)))))
    | cons u r =>
      cases e : saysN u x with
      | true =>
        refine ss_cons (sw_expr (ew_mmeth 0 (hA true) (hi := ⟨_, rfl, rfl⟩) (h := aw_cons (ew_mmeth 0 hC (hi := ⟨_, rfl, rfl⟩) (h := aw_pure (des_cons (de_var 1) des_nil) ⟨_, _, _, rfl, ⟨S, u :: r, ok, rfl, rfl, rfl, rfl⟩, ?_⟩)))))
        refine aw_nil ⟨_, _, _, rfl, ⟨S, u :: r, ok, rfl, by rw [e], rfl, rfl⟩, ?_⟩
        refine ss_one (sw_expr (ew_mmeth0 0 hT (hi := ⟨_, rfl, rfl⟩) (h := ⟨_, _, _, rfl, ⟨S, u :: r, ok, rfl, rfl, rfl, rfl⟩, ?_⟩)))
        rw [show needM x (u :: r) = .ok () r from if_pos e]
        exact ⟨rfl, rfl⟩
      | false =>
        refine ss_cons (sw_expr (ew_mmeth 0 (hA false) (hi := ⟨_, rfl, rfl⟩) (h := aw_cons (ew_mmeth 0 hC (hi := ⟨_, rfl, rfl⟩) (h := aw_pure (des_cons (de_var 1) des_nil) ⟨_, _, _, rfl, ⟨S, u :: r, ok, rfl, rfl, rfl, rfl⟩, ?_⟩)))))
        refine aw_nil ⟨_, _, _, rfl, ⟨S, u :: r, ok, rfl, by rw [e], rfl, rfl⟩, ?_⟩
        rw [show needM x (u :: r) = .bad (u :: r) from if_neg (by rw [e]; exact Bool.false_ne_true)]
        exact ⟨rfl, rfl⟩
theorem sc_own_name : FnScope ["self"] ["self"] (defScope m_Reader_own_name) := ⟨rfl, rfl, rfl, by decide +kernel, rfl, by decide +kernel, by decide +kernel⟩
theorem mm_own_name (T : MethT K Cd "own_name" "Reader.own_name" m_Reader_own_name ["self"]) (D : TkT K Ck) (n2 : ∃ t, mg "NAME" = some (.str "name" t)) (hH : Mm (L2N.CX P w) P w K mg base Cd "here" 4 (M_rd Ck Cx [] (tkD Ck) hereM)) (hA : ∀ b, Mm (L2N.CX P w) P w K mg base Cd "allow" 5 (M_rd Ck Cx [.bl b] nonD (allowM b)))
    (hT : Mm (L2N.CX P w) P w K mg base Cd "take" 5 (M_rd Ck Cx [] tx takeM)) :
    Mm (L2N.CX P w) P w K mg base Cd "own_name" 6 (M_rd Ck Cx [] tx nameM) := mmN T fun f fd Fu => by
  obtain ⟨t6, n2⟩ := n2
  refine mm_intro Fu sc_own_name (fun gs ds gs' r h => ?_) fun cd A outer s H E W a room gs ds gs' r h => ?_
  · obtain ⟨S, ts, _, rfl, rfl, _⟩ := h
    rfl
  · obtain ⟨S, ts, ok, rfl, rfl, rfl, rfl⟩ := h
    cases ts with
    | nil => exact ss_cons (sw_expr (ew_mmeth 0 (hA true) (hi := ⟨_, rfl, rfl⟩) (h := aw_cons (ew_cmp (ew_fld (ew_mmeth0 0 hH (hi := ⟨_, rfl, rfl⟩) (h := ⟨_, _, _, rfl, ⟨S, [], ok, rfl, rfl, rfl, rfl⟩, rfl, rfl⟩)) D.cl D.nf)))))
    | cons u r =>
      have ef : decide (u.fam.s = ("name" : Str)) = decide (u.fam = .name) := by cases u.fam <;> decide
      cases e : decide (u.fam = .name) with
      | true =>
        refine ss_cons (sw_expr (ew_mmeth 0 (hA true) (hi := ⟨_, rfl, rfl⟩) (h := aw_cons (ew_cmp (ew_fld (ew_mmeth0 0 hH (hi := ⟨_, rfl, rfl⟩) (h := ⟨_, _, _, rfl, ⟨S, u :: r, ok, rfl, rfl, rfl, rfl⟩, _, _, rfl, rfl, ew_pure (de_gstr n2) fun T σ Γ' v w H Q s q => od_eqS T σ Γ' v w H Q s fun z d H' ez s' => q z d H' ?_ s'⟩)) D.cl D.nf)))))
        subst ez
        refine aw_nil ⟨_, _, _, rfl, ⟨S, u :: r, ok, rfl, by rw [ef, e], rfl, rfl⟩, ?_⟩
        refine ss_one (sw_ret (ew_mmeth0 0 hT (hi := ⟨_, rfl, rfl⟩) (h := ⟨_, _, _, rfl, ⟨S, u :: r, ok, rfl, rfl, rfl, rfl⟩, ?_⟩)))
        rw [show nameM (u :: r) = .ok u.text r from if_pos (of_decide_eq_true e)]
        exact ⟨rfl, rfl⟩
      | false =>
        refine ss_cons (sw_expr (ew_mmeth 0 (hA false) (hi := ⟨_, rfl, rfl⟩) (h := aw_cons (ew_cmp (ew_fld (ew_mmeth0 0 hH (hi := ⟨_, rfl, rfl⟩) (h := ⟨_, _, _, rfl, ⟨S, u :: r, ok, rfl, rfl, rfl, rfl⟩, _, _, rfl, rfl, ew_pure (de_gstr n2) fun T σ Γ' v w H Q s q => od_eqS T σ Γ' v w H Q s fun z d H' ez s' => q z d H' ?_ s'⟩)) D.cl D.nf)))))
        subst ez
        refine aw_nil ⟨_, _, _, rfl, ⟨S, u :: r, ok, rfl, by rw [ef, e], rfl, rfl⟩, ?_⟩
        rw [show nameM (u :: r) = .bad (u :: r) from if_neg (of_decide_eq_false e)]
        exact ⟨rfl, rfl⟩
end
end Sd

set_option Elab.async false
set_option linter.all false
set_option maxRecDepth 100000
set_option maxHeartbeats 4000000
set_option exponentiation.threshold 10000
namespace Sd
open PySem PySem.Spec PyProof.Rows L2
/-! ## The parser's mirror -/
/-- a sum or place as it is read; j: its first part is of the same row -/
inductive Nd where
  | num (b : List Nat)
  | name (b : List Nat)
  | neg (a : Nd)
  | op (c : Nat) (j : Bool) (a b : Nd)
  | call1 (f : Nat) (a : Nd)
  | call2 (f : Nat) (a b : Nd)
  | call3 (f : Nat) (a b c : Nd)
  | call4 (f : Nat) (a b c d : Nd)
def fnW : Nat → Str
  | 0 => "x"
  | 1 => "y"
  | 2 => "min"
  | 3 => "max"
  | 4 => "at"
  | 5 => "between"
  | 6 => "meet"
  | 7 => "foot"
  | 8 => "mirror"
  | 9 => "turn"
  | _ => "shift"
def isAdd (c : Nat) : Bool := decide (c = 43 ∨ c = 45)
def kindS (c : Nat) : Str := if isAdd c = true then "sum" else "product"
def headS (c : Nat) : Str := if isAdd c = true then "+" else "*"
/-- a node's data; its row's -/
def dr : Nd → D × List D
  | .num b => (.tup [.str "number", tx b], [])
  | .name b => (.tup [.str "name", tx b], [])
  | .neg a => (.tup [.str "less", (dr a).1], [])
  | .op c j a b => (.tup [.str (kindS c), .lst ((if j = true then (dr a).2 else [.tup [.str (headS c), (dr a).1]]) ++ [.tup [tx [c], (dr b).1]])], (if j = true then (dr a).2 else [.tup [.str (headS c), (dr a).1]]) ++ [.tup [tx [c], (dr b).1]])
  | .call1 f a => (.tup [.str (fnW f), (dr a).1], [])
  | .call2 f a b => (.tup [.str (fnW f), (dr a).1, (dr b).1], [])
  | .call3 f a b c => (.tup [.str (fnW f), (dr a).1, (dr b).1, (dr c).1], [])
  | .call4 f a b c d => (.tup [.str (fnW f), (dr a).1, (dr b).1, (dr c).1, (dr d).1], [])
abbrev dN (a : Nd) : D := (dr a).1
def callN (f : Nat) (l : List Nd) : Nd := match l with
  | [a] => .call1 f a
  | [a, b] => .call2 f a b
  | [a, b, c] => .call3 f a b c
  | [a, b, c, d] => .call4 f a b c d
  | _ => .num []
/-- the words of sums, of places: what stands within -/
abbrev SUMT : List (Str × Str) := [("x", "P"), ("y", "P"), ("min", "SS"), ("max", "SS")]
abbrev PLT : List (Str × Str) := [("between", "PPS"), ("meet", "PPPP"), ("foot", "PPP"), ("mirror", "PPP"), ("turn", "PPPP"), ("shift", "PSS")]
def fnNo (x : Str) : Nat := (([("x", 0), ("y", 1), ("min", 2), ("max", 3), ("between", 5), ("meet", 6), ("foot", 7), ("mirror", 8), ("turn", 9), ("shift", 10)] : List (Str × Nat)).lookup x).getD 0
structure Lv where
  fac : List Tk → Pr Nd
  sum : List Tk → Pr Nd
  pl : List Tk → Pr Nd
def partsL (lv : Lv) : Bool → List Nat → List Nd → List Tk → Pr (List Nd)
  | _, [], acc, ts => .ok acc ts
  | fst, k :: ks, acc, ts => (if fst = true then Pr.ok () ts else needM "," ts).bind fun _ us => (if k = 80 then lv.pl us else lv.sum us).bind fun a us => partsL lv false ks (acc ++ [a]) us
def partsM (go : Bool) (lv : Lv) (ks : List Nat) (ts : List Tk) : Pr (List Nd) :=
  (allowM go ts).bind fun _ us => (takeM us).bind fun _ us => (needM "(" us).bind fun _ us => (partsL lv true ks [] us).bind fun l us => (needM ")" us).bind fun _ us => .ok l us
def withinM (go : Bool) (lv : Lv) (ts : List Tk) : Pr Nd :=
  (allowM go ts).bind fun _ us => (takeM us).bind fun _ us => (lv.sum us).bind fun a us => (needM ")" us).bind fun _ us => .ok a us
def pairM (go : Bool) (lv : Lv) (ts : List Tk) : Pr Nd :=
  (allowM go ts).bind fun _ us => (takeM us).bind fun _ us => (lv.sum us).bind fun a us => (needM "," us).bind fun _ us => (lv.sum us).bind fun b us => (needM ")" us).bind fun _ us => .ok (.call2 4 a b) us
def facM (go : Bool) (lv : Lv) : List Tk → Pr Nd
  | [] => .bad []
  | t :: r =>
    if t.fam = .name then .ok (.name t.text) r
    else if t.fam = .num then .ok (.num t.text) r
    else if saysN t "-" = true then (allowM go (t :: r)).bind fun _ us => (takeM us).bind fun _ us => (lv.fac us).bind fun a us => .ok (.neg a) us
    else if saysN t "(" = true then withinM go lv (t :: r)
    else match SUMT.lookup (S t.text) with
      | none => .bad (t :: r)
      | some k => (partsM go lv k.cps.toList (t :: r)).bind fun l us => .ok (callN (fnNo (S t.text)) l) us
def plM (go : Bool) (lv : Lv) : List Tk → Pr Nd
  | [] => .bad []
  | t :: r =>
    if t.fam = .name then .ok (.name t.text) r
    else if saysN t "(" = true then pairM go lv (t :: r)
    else match PLT.lookup (S t.text) with
      | none => .bad (t :: r)
      | some k => (partsM go lv k.cps.toList (t :: r)).bind fun l us => .ok (callN (fnNo (S t.text)) l) us
def rowM (c1 c2 : Str) (it : List Tk → Pr Nd) : Nat → Nd → Bool → List Tk → Pr Nd
  | 0, _, _, ts => .bad ts
  | _ + 1, _, _, [] => .bad []
  | f + 1, a, j, t :: r => if (saysN t c1 || saysN t c2) = true then (it r).bind fun b us => rowM c1 c2 it f (.op (t.text.headD 0) j a b) true us else .ok a (t :: r)
def prodM (it : List Tk → Pr Nd) (ts : List Tk) : Pr Nd := (it ts).bind fun a us => rowM "*" "/" it (us.length + 1) a false us
def sumM (it : List Tk → Pr Nd) (ts : List Tk) : Pr Nd := (it ts).bind fun a us => rowM "+" "-" it (us.length + 1) a false us
/-- what may stand so many deep from the deepest -/
def lvl : Nat → Lv
  | 0 => ⟨.bad, .bad, .bad⟩
  | n + 1 => ⟨facM (decide (n ≠ 0)) (lvl n), sumM (prodM (facM (decide (n ≠ 0)) (lvl n))), plM (decide (n ≠ 0)) (lvl n)⟩
abbrev prodL (n : Nat) : List Tk → Pr Nd := prodM (lvl n).fac
/-! ### tokens are only gone by -/
def Sfx {α : Type} (p : List Tk → Pr α) : Prop := ∀ ts, (p ts).rest <:+ ts
theorem Sfx.at {α : Type} {p : List Tk → Pr α} (h : Sfx p) {ts us : List Tk} {a : α} (e : p ts = .ok a us) : us <:+ ts := by
  have := h ts
  rw [e] at this
  exact this
theorem Sfx.bad {α : Type} {p : List Tk → Pr α} (h : Sfx p) {ts us : List Tk} (e : p ts = .bad us) : us <:+ ts := by
  have := h ts
  rw [e] at this
  exact this
theorem rest_bind {α β : Type} {q : Pr α} {k : α → List Tk → Pr β} {ts : List Tk} (h : q.rest <:+ ts) (hk : ∀ a us, q = .ok a us → (k a us).rest <:+ us) : (q.bind k).rest <:+ ts := by
  cases q with
  | ok a us => exact (hk a us rfl).trans h
  | bad us => exact h
theorem sfx_need (x : Str) : Sfx (needM x) := fun ts => by
  cases ts with
  | nil => exact List.suffix_refl _
  | cons t r =>
    unfold needM
    dsimp only
    split
    · exact List.suffix_cons t r
    · exact List.suffix_refl _
theorem sfx_allow (b : Bool) : Sfx (allowM b) := fun ts => by
  cases ts with
  | nil => exact List.suffix_refl _
  | cons t r =>
    unfold allowM
    dsimp only
    split <;> exact List.suffix_refl _
theorem sfx_take : Sfx takeM := fun ts => by
  cases ts with
  | nil => exact List.suffix_refl _
  | cons t r => exact List.suffix_cons t r
theorem sfx_name : Sfx nameM := fun ts => by
  cases ts with
  | nil => exact List.suffix_refl _
  | cons t r =>
    unfold nameM
    dsimp only
    split
    · exact List.suffix_cons t r
    · exact List.suffix_refl _
theorem sfx_bad {α : Type} : Sfx (fun ts => (Pr.bad ts : Pr α)) := fun ts => List.suffix_refl _
structure LvS (lv : Lv) : Prop where
  fac : Sfx lv.fac
  sum : Sfx lv.sum
  pl : Sfx lv.pl
section
variable {lv : Lv} (L : LvS lv)
include L
theorem sfx_partsL : ∀ (ks : List Nat) (fst : Bool) (acc : List Nd), Sfx (partsL lv fst ks acc)
  | [], _, _, ts => List.suffix_refl _
  | k :: ks, fst, acc, ts => by
    unfold partsL
    refine rest_bind ?_ fun _ us _ => rest_bind ?_ fun a vs _ => sfx_partsL ks false _ vs
    · split
      · exact List.suffix_refl _
      · exact sfx_need _ ts
    · split
      · exact L.pl us
      · exact L.sum us
theorem sfx_parts (go : Bool) (ks : List Nat) : Sfx (partsM go lv ks) := fun ts =>
  rest_bind (sfx_allow go ts) fun _ us _ => rest_bind (sfx_take us) fun _ us _ => rest_bind (sfx_need _ us) fun _ us _ => rest_bind (sfx_partsL L ks true [] us) fun _ us _ => rest_bind (sfx_need _ us) fun _ us _ => List.suffix_refl _
theorem sfx_within (go : Bool) : Sfx (withinM go lv) := fun ts =>
  rest_bind (sfx_allow go ts) fun _ us _ => rest_bind (sfx_take us) fun _ us _ => rest_bind (L.sum us) fun _ us _ => rest_bind (sfx_need _ us) fun _ us _ => List.suffix_refl _
theorem sfx_pair (go : Bool) : Sfx (pairM go lv) := fun ts =>
  rest_bind (sfx_allow go ts) fun _ us _ => rest_bind (sfx_take us) fun _ us _ => rest_bind (L.sum us) fun _ us _ => rest_bind (sfx_need _ us) fun _ us _ => rest_bind (L.sum us) fun _ us _ => rest_bind (sfx_need _ us) fun _ us _ => List.suffix_refl _
theorem sfx_fac (go : Bool) : Sfx (facM go lv) := fun ts => by
  cases ts with
  | nil => exact List.suffix_refl _
  | cons t r =>
    unfold facM
    dsimp only
    split
    · exact List.suffix_cons t r
    · split
      · exact List.suffix_cons t r
      · split
        · exact rest_bind (sfx_allow go _) fun _ us _ => rest_bind (sfx_take us) fun _ us _ => rest_bind (L.fac us) fun _ us _ => List.suffix_refl _
        · split
          · exact sfx_within L go _
          · split
            · exact List.suffix_refl _
            · exact rest_bind (sfx_parts L go _ _) fun _ us _ => List.suffix_refl _
theorem sfx_pl (go : Bool) : Sfx (plM go lv) := fun ts => by
  cases ts with
  | nil => exact List.suffix_refl _
  | cons t r =>
    unfold plM
    dsimp only
    split
    · exact List.suffix_cons t r
    · split
      · exact sfx_pair L go _
      · split
        · exact List.suffix_refl _
        · exact rest_bind (sfx_parts L go _ _) fun _ us _ => List.suffix_refl _
end
theorem sfx_row {c1 c2 : Str} {it : List Tk → Pr Nd} (h : Sfx it) : ∀ (f : Nat) (a : Nd) (j : Bool), Sfx (rowM c1 c2 it f a j)
  | 0, _, _, ts => List.suffix_refl _
  | f + 1, a, j, ts => by
    cases ts with
    | nil => exact List.suffix_refl _
    | cons t r =>
      unfold rowM
      split
      · exact (rest_bind (h r) fun b us _ => sfx_row h f _ true us).trans (List.suffix_cons t r)
      · exact List.suffix_refl _
theorem sfx_prod {it : List Tk → Pr Nd} (h : Sfx it) : Sfx (prodM it) := fun ts => rest_bind (h ts) fun _ us _ => sfx_row h _ _ _ us
theorem sfx_sum {it : List Tk → Pr Nd} (h : Sfx it) : Sfx (sumM it) := fun ts => rest_bind (h ts) fun _ us _ => sfx_row h _ _ _ us
theorem lvS : ∀ n, LvS (lvl n)
  | 0 => ⟨sfx_bad, sfx_bad, sfx_bad⟩
  | n + 1 => ⟨sfx_fac (lvS n) _, sfx_sum (sfx_prod (sfx_fac (lvS n) _)), sfx_pl (lvS n) _⟩
/-! ### how many parts -/
theorem partsL_len {lv : Lv} : ∀ {ks : List Nat} {fst : Bool} {acc : List Nd} {ts us : List Tk} {l : List Nd}, partsL lv fst ks acc ts = .ok l us → l.length = acc.length + ks.length
  | [], _, _, _, _, _, h => by cases h; rfl
  | k :: ks, fst, acc, ts, us, l, h => by
    unfold partsL at h
    cases e1 : (if fst = true then Pr.ok () ts else needM "," ts) with
    | bad vs => rw [e1] at h; cases h
    | ok x vs =>
      rw [e1] at h
      have h' : (if k = 80 then lv.pl vs else lv.sum vs).bind (fun a us => partsL lv false ks (acc ++ [a]) us) = .ok l us := h
      cases e2 : (if k = 80 then lv.pl vs else lv.sum vs) with
      | bad ws => rw [e2] at h'; cases h'
      | ok a ws =>
        rw [e2] at h'
        have := partsL_len (ks := ks) h'
        rw [this, List.length_append, List.length_cons, List.length_cons, List.length_nil]
        omega
theorem parts_len {go : Bool} {lv : Lv} {ks : List Nat} {ts us : List Tk} {l : List Nd} (h : partsM go lv ks ts = .ok l us) : l.length = ks.length := by
  unfold partsM at h
  cases e1 : allowM go ts with
  | bad vs => rw [e1] at h; cases h
  | ok x vs =>
    rw [e1] at h
    replace h : (takeM vs).bind _ = _ := h
    cases e2 : takeM vs with
    | bad vs => rw [e2] at h; cases h
    | ok x vs =>
      rw [e2] at h
      replace h : (needM "(" vs).bind _ = _ := h
      cases e3 : needM "(" vs with
      | bad vs => rw [e3] at h; cases h
      | ok x vs =>
        rw [e3] at h
        replace h : (partsL lv true ks [] vs).bind _ = _ := h
        cases e4 : partsL lv true ks [] vs with
        | bad vs => rw [e4] at h; cases h
        | ok m vs =>
          rw [e4] at h
          replace h : (needM ")" vs).bind _ = _ := h
          cases e5 : needM ")" vs with
          | bad vs => rw [e5] at h; cases h
          | ok x vs =>
            rw [e5] at h
            cases h
            have := partsL_len e4
            rw [this]
            simp
theorem call_dN {x k : Str} {l : List Nd} (h : SUMT.lookup x = some k ∨ PLT.lookup x = some k) (hl : l.length = k.cps.toList.length) : dN (callN (fnNo x) l) = .tup (.str x :: l.map dN) := by
  have main : ∀ (y v : Str) (n : Nat), v.cps.toList.length = n → (n = 1 ∨ n = 2 ∨ n = 3 ∨ n = 4) → fnW (fnNo y) = y → l.length = v.cps.toList.length → dN (callN (fnNo y) l) = .tup (.str y :: l.map dN) := fun y v n hv hn hw hl => by
    rw [hv] at hl
    match l, hl with
    | [a], _ => show D.tup [.str (fnW (fnNo y)), _] = _; rw [hw]; rfl
    | [a, b], _ => show D.tup [.str (fnW (fnNo y)), _, _] = _; rw [hw]; rfl
    | [a, b, c], _ => show D.tup [.str (fnW (fnNo y)), _, _, _] = _; rw [hw]; rfl
    | [a, b, c, d], _ => show D.tup [.str (fnW (fnNo y)), _, _, _, _] = _; rw [hw]; rfl
    | [], h => simp at h; omega
    | _ :: _ :: _ :: _ :: _ :: _, h => simp at h; omega
  have go : ∀ (tab : List (Str × Str)), (∀ p ∈ tab, (p.2.cps.toList.length = 1 ∨ p.2.cps.toList.length = 2 ∨ p.2.cps.toList.length = 3 ∨ p.2.cps.toList.length = 4) ∧ fnW (fnNo p.1) = p.1) → tab.lookup x = some k → dN (callN (fnNo x) l) = .tup (.str x :: l.map dN) := fun tab ht e => by
    induction tab with
    | nil => cases e
    | cons p tab ih =>
      obtain ⟨y, v⟩ := p
      rw [List.lookup_cons] at e
      cases q : (x == y) with
      | false => rw [q] at e; exact ih (fun p hp => ht p (List.mem_cons_of_mem _ hp)) e
      | true =>
        rw [q] at e
        cases e
        obtain ⟨h1, h2⟩ := ht (y, k) List.mem_cons_self
        have e := beq_iff_eq.mp q
        subst e
        exact main x k _ rfl h1 h2 hl
  rcases h with h | h
  · exact go SUMT (by decide +kernel) h
  · exact go PLT (by decide +kernel) h
end Sd

set_option exponentiation.threshold 256
set_option Elab.async false
set_option linter.all false
set_option maxRecDepth 100000
set_option maxHeartbeats 4000000
namespace Sd
open PySem PySem.Spec PyProof.Rows L2
/-! ## enumerate over a text -/
def Ites (x : Str) : It :=
  ⟨fun i _ => i < x.cps.size, fun i H v H' => ∃ T c, v = .ref T ∧ H T = none ∧ H' = upd H T (.tup [.int (i : Nat), .str ⟨#[c]⟩]) ∧ x.cps[i]? = some c, fun i _ => i = x.cps.size⟩
theorem turn_enumS {P : Program} {w : World} {K : PySem.W.Frag} {elts : List Expr} {kk : Nat} {tpos : Pos} (x : Str) (t : Tok) (e it : Addr) :
    Turn P w K (.Tuple elts kk tpos) (Ites x) [e, it] e (fun i h => (∃ old, IsEnum h e it ((i : Nat) : Int) old) ∧ h.IsStrIter it (strIterType x) x t i ∧ e ≠ it) where
  mem := by simp
  obj := fun i h st b hb => by
    obtain ⟨⟨old, he⟩, ⟨o, ho, hc, hd⟩, _⟩ := st
    have e' : b = e ∨ b = it := by simpa using hb
    rcases e' with z | z
    · rw [z]; exact ⟨_, he, fun v q => nomatch q⟩
    · rw [z]; exact ⟨o, ho, fun v q => by rw [hd] at q; cases q⟩
  keep := fun i h h' st k => let ⟨⟨old, he⟩, ⟨o, ho, r⟩, hne⟩ := st; ⟨⟨old, k e (by simp) _ he⟩, ⟨o, k it (by simp) o ho, r⟩, hne⟩
  item := by
    intro X hP hw hK hc i pins s σ H E I hf st hg
    subst hP hw hK
    obtain ⟨⟨old, he⟩, hit, hne⟩ := st
    have hel : e < s.heap.objs.size := Heap.lt_size he
    have hil : it < s.heap.objs.size := by obtain ⟨_, q, _⟩ := hit; exact Heap.lt_size q
    have D : Draws X.prog X.w X.A.in1 it [it] x.cps.size (fun i v => ∃ c u, x.cps[i]? = some c ∧ v = .str ⟨#[c]⟩ u) (fun i h => h.IsStrIter it (strIterType x) x t i) := by
      unfold strIterType
      split
      · exact Draws.strAscii (A := X.A.in1) (show X.A.in1.handled = none from I.ok.hd hc) it x t
      · exact Draws.strWide (A := X.A.in1) (show X.A.in1.handled = none from I.ok.hd hc) it x t
    refine wpAny_pyNext_enum_itemD D he hit hg hne (by simpa using hne) fun v h' tk hv ho hit' hT hsz hk => ?_
    obtain ⟨c, u, hcx, rfl⟩ := hv
    refine ⟨_, rfl, wpAny_letOwnedTupleGo_enum (s := { s with heap := h', toks := tk + 1 }) ho fun h'' he' sb => ?_⟩
    have hT2 : h''.get? s.heap.objs.size = some { cls := .type "tuple", data := .seq #[.int i tk, .str ⟨#[c]⟩ u] } := (sb.2 _ (Nat.ne_of_gt hel)).trans hT
    have new : ObjOk X.prog X.w (upd H s.heap.objs.size (.tup [.int (i : Nat), .str ⟨#[c]⟩])) h'' s.heap.objs.size (.tup [.int (i : Nat), .str ⟨#[c]⟩]) :=
      ⟨by show 2 ≤ sizeLine; decide, [.int i tk, .str ⟨#[c]⟩ u], .cons ⟨_, rfl⟩ (.cons ⟨u, rfl⟩ .nil), ⟨_, hT2, rfl, _, rfl⟩⟩
    have I1 : Inv X pins σ (upd H s.heap.objs.size (.tup [.int (i : Nat), .str ⟨#[c]⟩])) { s with heap := h'', toks := tk + 1 } :=
      I.turnedNew (ch := [e, it]) (fun b ob hb q => (sb.2 b (fun z => hb (by simp [z]))).trans (hk b ob (fun z => hb (by simp [z])) (fun z => hb (by simp [z])) q)) hf (Nat.le_refl _) new
    refine ⟨.ref s.heap.objs.size, _, I1, rfl, ⟨_, c, rfl, I.hok.fresh (Nat.le_refl _), rfl, hcx⟩, ⟨⟨.str ⟨#[c]⟩ u, ?_⟩, ?_, hne⟩, fun b hb => ?_⟩
    · have e1 : ((i + 1 : Nat) : Int) = (i : Int) + 1 := by omega
      rw [e1]; exact he'
    · obtain ⟨o, ho2, r⟩ := hit'
      exact ⟨o, (sb.2 it (Ne.symm hne)).trans ho2, r⟩
    · have hb' : b < s.heap.objs.size := by
        have e' : b = e ∨ b = it := by simpa using hb
        rcases e' with z | z
        · rw [z]; exact hel
        · rw [z]; exact hil
      rw [upd_ne (Nat.ne_of_lt hb')]
      exact (hf b hb).1
  done := by
    intro X hP hw hK hc i pins s σ H E I hf st hg
    subst hP hw hK
    obtain ⟨⟨old, he⟩, hit, hne⟩ := st
    have D : Draws X.prog X.w X.A.in1 it [it] x.cps.size (fun i v => ∃ c u, x.cps[i]? = some c ∧ v = .str ⟨#[c]⟩ u) (fun i h => h.IsStrIter it (strIterType x) x t i) := by
      unfold strIterType
      split
      · exact Draws.strAscii (A := X.A.in1) (show X.A.in1.handled = none from I.ok.hd hc) it x t
      · exact Draws.strWide (A := X.A.in1) (show X.A.in1.handled = none from I.ok.hd hc) it x t
    have hi : i = x.cps.size := hg
    subst hi
    obtain ⟨f0, f1, f2, f3, f4, f5⟩ := hf it (by simp)
    exact wpAny_pyNext_enum_endD D he hit fun h' eb => ⟨rfl, I.turned (t' := s.toks) (fun b o hb q => eb b o hb q) f0 f1 f3 f4 f5⟩
  self := fun A i s Q E st h => let ⟨⟨_, he⟩, _⟩ := st; wpAny_pyIter_enum he h
def iEnumS (ta : TA) : TI := fun σ H R => ta σ H fun vs H1 => ∃ x, vs = [.str x] ∧ R (Ites x) H1
theorem pi_enumS {X : Cx} {e : Expr} {ta : TA} {p pos tpos : Pos} {elts : List Expr} {kk : Nat} (hg : Gl X "enumerate") (hm : X.mg "enumerate" = none) (ha : PA X [e] ta) (hs : starEach [e] X.env = [(false, eval e X.env)] := by rfl) :
    PI X (.Tuple elts kk tpos) (.Call (.Name "enumerate" p) [e] [] pos) (iEnumS ta) := by
  refine ⟨fun pins s σ H R I h => ?_⟩
  refine Call_ (ld_blt I hg hm boot_enumerate (PyProof.Rows.callWith_type1 (thn (ha.run pos pins s σ H _ I h) fun us s1 ⟨vs, H1, I1, r1, q1⟩ => ?_) hs rfl))
  obtain ⟨x, ex, q⟩ := q1
  subst ex
  cases r1 with
  | cons r rr =>
    cases rr
    obtain ⟨t, rfl⟩ := r
    refine call_enumerate_str fun h' he hit hsz hk => wpAny_pyIter_enum he ?_
    have I2 : Inv X pins σ H1 { s1 with heap := h' } := I1.kept (t' := s1.toks) hk
    refine ⟨s1.heap.objs.size + 1, [s1.heap.objs.size + 1, s1.heap.objs.size], _, _, H1, rfl, I2, turn_enumS x t (s1.heap.objs.size + 1) s1.heap.objs.size, ⟨⟨.none, he⟩, hit, Nat.succ_ne_self _⟩, fun b hb => ?_, q⟩
    have e' : b = s1.heap.objs.size + 1 ∨ b = s1.heap.objs.size := by simpa using hb
    have hle : s1.heap.objs.size ≤ b := by
      rcases e' with z | z
      · rw [z]; exact Nat.le_add_right _ _
      · rw [z]; exact Nat.le_refl _
    exact I1.fpOk hle (I1.hok.fresh hle)
theorem sd_enumS {B : Bx} {e : Expr} {Γ : Env} {z : Str} {p pos : Pos} {elts : List Expr} {kk : Nat} {tpos : Pos} (hm : B.X.mg "enumerate" = none) (h : DE B e Γ (.str z)) (hg : Gl B.X "enumerate" := by rfl) (hs : starEach [e] B.X.env = [(false, eval e B.X.env)] := by rfl) : SD B (.Tuple elts kk tpos) (.Call (.Name "enumerate" p) [e] [] pos) Γ (enumD (signsOf z)) := fun T σ H R s r =>
  SemI.of (pi_enumS hg hm semA hs) ((des_cons h des_nil hs).run s fun vs H1 hl s1 => by
    obtain ⟨v, rfl, s2⟩ := s1.l2v
    have ev := s2.str'
    subst ev
    have hlen : (enumD (signsOf z)).length = z.cps.size := by unfold enumD signsOf; simp
    refine ⟨z, rfl, r _ [] H1 (fun W H wd t => ⟨fun i hi => ?_, ?_, fun i d x H' hd hy => ?_⟩) s2.tail⟩
    · rw [hlen] at hi
      exact hi
    · exact hlen
    · obtain ⟨q, c, rfl, hq, rfl, hc⟩ := hy
      unfold enumD signsOf at hd
      rw [List.getElem?_mapIdx, List.getElem?_map, Array.getElem?_toList, hc] at hd
      cases hd
      exact ⟨same_new hq, .tup (.inl upd_same) (fun z => wd q z hq) (.cons (.int _) (.cons (.str _) .nil))⟩)
end Sd

set_option exponentiation.threshold 256
set_option Elab.async false
set_option linter.all false
set_option maxRecDepth 100000
set_option maxHeartbeats 4000000
namespace Sd
open PySem PySem.Spec PyProof.Rows L2
/-! ## a written table from texts to texts -/
def TabT (K : PySem.W.Frag) (w : World) (mg : Str → Option Value) (x : Str) (tab : List (Str × Str)) : Prop :=
  ∃ (a : Addr) (es : Array DictEntry) (n : Nat), mg x = some (.ref a) ∧ KDict K w a es n ∧ ∀ z, (tab.lookup z = none → PySem.W.nsIn K a z = some none) ∧ ∀ v, tab.lookup z = some v → ∃ t, PySem.W.nsIn K a z = some (some (.str v t))
section
variable {B : Bx} {Γ : Env} {e : Expr} {x z v : Str} {tab : List (Str × Str)} {p pos : Pos}
theorem de_inTab (T : TabT B.X.K B.X.w B.X.mg x tab) (he : DE B e Γ (.str z)) (hg : Gl B.X x := by rfl) (hd : (x == ("__debug__" : Str)) = false := by decide) (hm : behindInMarks .In (.Name x p) = false := by first | exact nomark _ | rfl) :
    DE B (.Compare e [.In] [.Name x p] pos) Γ (.bl (tab.lookup z).isSome) := de_of fun T' σ H Q s q => by
  obtain ⟨a, es, n, hx, D, h⟩ := T
  refine SemE.of (pe_cmpR (op_in_kd D) semE (pe_glob (v := .ref a) hg hx rfl hd) hm) (he.run s fun u H1 s1 => ?_)
  obtain rfl := s1.str'
  cases e1 : tab.lookup z with
  | none => exact ⟨z, _, rfl, rfl, (h z).1 e1, q _ H1 (by rw [e1]; exact s1.tail.bl)⟩
  | some v =>
    obtain ⟨t, e2⟩ := (h z).2 v e1
    exact ⟨z, _, rfl, rfl, e2, q _ H1 (by rw [e1]; exact s1.tail.bl)⟩
theorem de_ixTab (T : TabT B.X.K B.X.w B.X.mg x tab) (he : DE B e Γ (.str z)) (hl : tab.lookup z = some v) (hg : Gl B.X x := by rfl) (hd : (x == ("__debug__" : Str)) = false := by decide) (hp : PlainIx e := by intro _ _; rfl) :
    DE B (.Subscript (.Name x p) e pos) Γ (.str v) := de_of fun T' σ H Q s q => by
  obtain ⟨a, es, n, hx, D, h⟩ := T
  obtain ⟨t, e2⟩ := (h z).2 v hl
  refine SemE.of (pe_ix ix_kdict (pe_glob (v := .ref a) hg hx rfl hd) semE hp) (he.run s fun u H1 s1 => ?_)
  obtain rfl := s1.str'
  exact ⟨a, z, .str v, rfl, rfl, ⟨es, n, _, D.at_, D.lit, e2, t, rfl⟩, q _ H1 s1.tail.str⟩
end
end Sd

set_option Elab.async false
set_option linter.all false
set_option maxRecDepth 100000
set_option maxHeartbeats 4000000
set_option exponentiation.threshold 10000
namespace Sd
open PySem PySem.Spec PyProof.Rows L2
theorem rd_ok {α : Type} {Ck Cx : Addr} {ds0 : List D} {f : α → D} {p : List Tk → Pr α} {S : RdS} {ts us : List Tk} {a : α} (ok : RdOk S ts) (e : p ts = .ok a us) : M_rd Ck Cx ds0 f p (rdG Ck S ts) ds0 (rdG Ck S us) (.ret (f a)) :=
  ⟨S, ts, ok, rfl, rfl, by rw [e]; rfl, by rw [e]; rfl⟩
theorem rd_bad {α : Type} {Ck Cx : Addr} {ds0 : List D} {f : α → D} {p : List Tk → Pr α} {S : RdS} {ts us : List Tk} (ok : RdOk S ts) (e : p ts = .bad us) : M_rd Ck Cx ds0 f p (rdG Ck S ts) ds0 (rdG Ck S us) (.exc Cx (fltG S us)) :=
  ⟨S, ts, ok, rfl, rfl, by rw [e]; rfl, by rw [e]; rfl⟩
theorem allow_go {b : Bool} {ts us : List Tk} {x : Unit} (h : allowM b ts = .ok x us) : b = true := by
  cases b with
  | true => rfl
  | false =>
    cases ts with
    | nil => cases h
    | cons t r => cases h
/-- what the small methods do -/
structure SmT (P : Program) (w : World) (K : PySem.W.Frag) (mg : Str → Option Value) (base : Heap) (Ck Cd Cx : Addr) : Prop where
  rc : RdT K Cd
  tk : TkT K Ck
  here : Mm (L2N.CX P w) P w K mg base Cd "here" 4 (M_rd Ck Cx [] (tkD Ck) hereM)
  allow : ∀ b, Mm (L2N.CX P w) P w K mg base Cd "allow" 5 (M_rd Ck Cx [.bl b] nonD (allowM b))
  take : Mm (L2N.CX P w) P w K mg base Cd "take" 5 (M_rd Ck Cx [] tx takeM)
  comes : ∀ x, Mm (L2N.CX P w) P w K mg base Cd "comes" 5 (M_rd Ck Cx [.str x] D.bl (comesM x))
  need : ∀ x, Mm (L2N.CX P w) P w K mg base Cd "need" 6 (M_rd Ck Cx [.str x] nonD (needM x))
  own_name : Mm (L2N.CX P w) P w K mg base Cd "own_name" 6 (M_rd Ck Cx [] tx nameM)
  says : MfN P w K mg base Ck "says" 1 (F_says Ck)
  deepest : ∃ t, mg "DEEPEST" = some (.int 6 t)
section
variable {P : Program} {w : World} {K : PySem.W.Frag} {mg : Str → Option Value} {base : Heap} {Ck Cd Cx : Addr} {k : Nat} {d : Int} {lv : Lv}
theorem sc_within : FnScope ["self", "deep", "found"] ["self", "deep"] (defScope m_Reader_within) := ⟨rfl, rfl, rfl, by decide +kernel, rfl, by decide +kernel, by decide +kernel⟩
theorem mm_within (T : MethT K Cd "within" "Reader.within" m_Reader_within ["self", "deep"]) (M : SmT P w K mg base Ck Cd Cx) (L : LvS lv) (h6 : 6 ≤ k) (hS : d < 6 → ∃ j, j ≤ k ∧ Mm (L2N.CX P w) P w K mg base Cd "sum_at" j (M_rd Ck Cx [.int (d + 1)] dN lv.sum)) :
    Mm (L2N.CX P w) P w K mg base Cd "within" (k + 1) (M_rd Ck Cx [.int d] dN (withinM (decide (d < 6)) lv)) := mmN T fun f fd Fu => by
  obtain ⟨t, hD⟩ := M.deepest
  have h5 : 5 ≤ k := by omega
  refine mm_intro Fu sc_within (fun gs ds gs' r h => ?_) fun cd A outer s H E W a room gs ds gs' r h => ?_
  · obtain ⟨S, ts, _, rfl, rfl, _⟩ := h
    rfl
  · obtain ⟨S, ts, ok, rfl, rfl, rfl, rfl⟩ := h
    generalize hq : withinM (decide (d < 6)) lv ts = q
    unfold withinM at hq
    cases e1 : allowM (decide (d < 6)) ts with
    | bad us =>
      rw [e1] at hq
      subst hq
      exact ss_cons (sw_expr (ew_mmeth 0 (M.allow (decide (d < 6))) (hk := h5) (hi := ⟨_, rfl, rfl⟩) (h := aw_pure (des_cons (de_cmp (de_var 1) (de_gint hD) od_lt) des_nil) ⟨_, _, _, rfl, rd_bad ok e1, rfl, rfl⟩)))
    | ok x us =>
      rw [e1] at hq
      replace hq : (takeM us).bind _ = q := hq
      have hd : d < 6 := of_decide_eq_true (allow_go e1)
      obtain ⟨j, hj, hS⟩ := hS hd
      refine ss_cons (sw_expr (ew_mmeth 0 (M.allow (decide (d < 6))) (hk := h5) (hi := ⟨_, rfl, rfl⟩) (h := aw_pure (des_cons (de_cmp (de_var 1) (de_gint hD) od_lt) des_nil) ⟨_, _, _, rfl, rd_ok ok e1, ?_⟩)))
      have ok := ok.of ((sfx_allow _).at e1)
      cases e2 : takeM us with
      | bad vs =>
        rw [e2] at hq
        subst hq
        exact ss_cons (sw_expr (ew_mmeth0 0 M.take (hk := h5) (hi := ⟨_, rfl, rfl⟩) (h := ⟨_, _, _, rfl, rd_bad ok e2, rfl, rfl⟩)))
      | ok x vs =>
        rw [e2] at hq
        replace hq : (lv.sum vs).bind _ = q := hq
        refine ss_cons (sw_expr (ew_mmeth0 0 M.take (hk := h5) (hi := ⟨_, rfl, rfl⟩) (h := ⟨_, _, _, rfl, rd_ok ok e2, ?_⟩)))
        have ok := ok.of (sfx_take.at e2)
        cases e3 : lv.sum vs with
        | bad ws =>
          rw [e3] at hq
          subst hq
          exact ss_cons (sw_set 2 (ew_mmeth 0 hS (hk := hj) (hi := ⟨_, rfl, rfl⟩) (h := aw_pure (des_cons (de_op (de_var 1) de_int od_add) des_nil) ⟨_, _, _, rfl, rd_bad ok e3, rfl, rfl⟩)))
        | ok y ws =>
          rw [e3] at hq
          replace hq : (needM ")" ws).bind _ = q := hq
          refine ss_cons (sw_set 2 (ew_mmeth 0 hS (hk := hj) (hi := ⟨_, rfl, rfl⟩) (h := aw_pure (des_cons (de_op (de_var 1) de_int od_add) des_nil) ⟨_, _, _, rfl, rd_ok ok e3, ?_⟩)))
          have ok := ok.of (L.sum.at e3)
          cases e4 : needM ")" ws with
          | bad zs =>
            rw [e4] at hq
            subst hq
            exact ss_cons (sw_expr (ew_mmeth 0 (M.need ")") (hk := h6) (hi := ⟨_, rfl, rfl⟩) (h := aw_pure (des_cons de_str des_nil) ⟨_, _, _, rfl, rd_bad ok e4, rfl, rfl⟩)))
          | ok x zs =>
            rw [e4] at hq
            replace hq : Pr.ok y zs = q := hq
            subst hq
            refine ss_cons (sw_expr (ew_mmeth 0 (M.need ")") (hk := h6) (hi := ⟨_, rfl, rfl⟩) (h := aw_pure (des_cons de_str des_nil) ⟨_, _, _, rfl, rd_ok ok e4, ?_⟩)))
            exact ss_one (sw_retD (de_var 2) ⟨rfl, rfl⟩)
end
end Sd

set_option Elab.async false
set_option linter.all false
set_option maxRecDepth 100000
set_option maxHeartbeats 4000000
set_option exponentiation.threshold 10000
namespace Sd
open PySem PySem.Spec PyProof.Rows L2
section
variable {P : Program} {w : World} {K : PySem.W.Frag} {mg : Str → Option Value} {base : Heap} {Ck Cd Cx : Addr} {k : Nat} {d : Int} {lv : Lv}
theorem sc_pair : FnScope ["self", "deep", "first", "second"] ["self", "deep"] (defScope m_Reader_pair) := ⟨rfl, rfl, rfl, by decide +kernel, rfl, by decide +kernel, by decide +kernel⟩
theorem mm_pair (T : MethT K Cd "pair" "Reader.pair" m_Reader_pair ["self", "deep"]) (M : SmT P w K mg base Ck Cd Cx) (L : LvS lv) (h6 : 6 ≤ k) (hS : d < 6 → ∃ j, j ≤ k ∧ Mm (L2N.CX P w) P w K mg base Cd "sum_at" j (M_rd Ck Cx [.int (d + 1)] dN lv.sum)) :
    Mm (L2N.CX P w) P w K mg base Cd "pair" (k + 1) (M_rd Ck Cx [.int d] dN (pairM (decide (d < 6)) lv)) := mmN T fun f fd Fu => by
  obtain ⟨t, hD⟩ := M.deepest
  have h5 : 5 ≤ k := by omega
  refine mm_intro Fu sc_pair (fun gs ds gs' r h => ?_) fun cd A outer s H E W a room gs ds gs' r h => ?_
  · obtain ⟨S, ts, _, rfl, rfl, _⟩ := h
    rfl
  · obtain ⟨S, ts, ok, rfl, rfl, rfl, rfl⟩ := h
    generalize hq : pairM (decide (d < 6)) lv ts = q
    unfold pairM at hq
    cases e0 : allowM (decide (d < 6)) ts with
    | bad u0 =>
      rw [e0] at hq
      subst hq
      exact ss_cons (sw_expr (ew_mmeth 0 (M.allow (decide (d < 6))) (hk := h5) (hi := ⟨_, rfl, rfl⟩) (h := aw_pure (des_cons (de_cmp (de_var 1) (de_gint hD) od_lt) des_nil) ⟨_, _, _, rfl, rd_bad ok e0, rfl, rfl⟩)))
    | ok x0 u0 =>
      rw [e0] at hq
      replace hq : (takeM u0).bind _ = q := hq
      obtain ⟨j, hj, hS⟩ := hS (of_decide_eq_true (allow_go e0))
      refine ss_cons (sw_expr (ew_mmeth 0 (M.allow (decide (d < 6))) (hk := h5) (hi := ⟨_, rfl, rfl⟩) (h := aw_pure (des_cons (de_cmp (de_var 1) (de_gint hD) od_lt) des_nil) ⟨_, _, _, rfl, rd_ok ok e0, ?_⟩)))
      have ok := ok.of ((sfx_allow _).at e0)
      cases e1 : takeM u0 with
      | bad u1 =>
        rw [e1] at hq
        subst hq
        exact ss_cons (sw_expr (ew_mmeth0 0 M.take (hk := h5) (hi := ⟨_, rfl, rfl⟩) (h := ⟨_, _, _, rfl, rd_bad ok e1, rfl, rfl⟩)))
      | ok x1 u1 =>
        rw [e1] at hq
        replace hq : (lv.sum u1).bind _ = q := hq
        refine ss_cons (sw_expr (ew_mmeth0 0 M.take (hk := h5) (hi := ⟨_, rfl, rfl⟩) (h := ⟨_, _, _, rfl, rd_ok ok e1, ?_⟩)))
        have ok := ok.of ((sfx_take).at e1)
        cases e2 : lv.sum u1 with
        | bad u2 =>
          rw [e2] at hq
          subst hq
          exact ss_cons (sw_set 2 (ew_mmeth 0 hS (hk := hj) (hi := ⟨_, rfl, rfl⟩) (h := aw_pure (des_cons (de_op (de_var 1) de_int od_add) des_nil) ⟨_, _, _, rfl, rd_bad ok e2, rfl, rfl⟩)))
        | ok x2 u2 =>
          rw [e2] at hq
          replace hq : (needM "," u2).bind _ = q := hq
          refine ss_cons (sw_set 2 (ew_mmeth 0 hS (hk := hj) (hi := ⟨_, rfl, rfl⟩) (h := aw_pure (des_cons (de_op (de_var 1) de_int od_add) des_nil) ⟨_, _, _, rfl, rd_ok ok e2, ?_⟩)))
          have ok := ok.of ((L.sum).at e2)
          cases e3 : needM "," u2 with
          | bad u3 =>
            rw [e3] at hq
            subst hq
            exact ss_cons (sw_expr (ew_mmeth 0 (M.need ",") (hk := h6) (hi := ⟨_, rfl, rfl⟩) (h := aw_pure (des_cons de_str des_nil) ⟨_, _, _, rfl, rd_bad ok e3, rfl, rfl⟩)))
          | ok x3 u3 =>
            rw [e3] at hq
            replace hq : (lv.sum u3).bind _ = q := hq
            refine ss_cons (sw_expr (ew_mmeth 0 (M.need ",") (hk := h6) (hi := ⟨_, rfl, rfl⟩) (h := aw_pure (des_cons de_str des_nil) ⟨_, _, _, rfl, rd_ok ok e3, ?_⟩)))
            have ok := ok.of ((sfx_need _).at e3)
            cases e4 : lv.sum u3 with
            | bad u4 =>
              rw [e4] at hq
              subst hq
              exact ss_cons (sw_set 3 (ew_mmeth 0 hS (hk := hj) (hi := ⟨_, rfl, rfl⟩) (h := aw_pure (des_cons (de_op (de_var 1) de_int od_add) des_nil) ⟨_, _, _, rfl, rd_bad ok e4, rfl, rfl⟩)))
            | ok x4 u4 =>
              rw [e4] at hq
              replace hq : (needM ")" u4).bind _ = q := hq
              refine ss_cons (sw_set 3 (ew_mmeth 0 hS (hk := hj) (hi := ⟨_, rfl, rfl⟩) (h := aw_pure (des_cons (de_op (de_var 1) de_int od_add) des_nil) ⟨_, _, _, rfl, rd_ok ok e4, ?_⟩)))
              have ok := ok.of ((L.sum).at e4)
              cases e5 : needM ")" u4 with
              | bad u5 =>
                rw [e5] at hq
                subst hq
                exact ss_cons (sw_expr (ew_mmeth 0 (M.need ")") (hk := h6) (hi := ⟨_, rfl, rfl⟩) (h := aw_pure (des_cons de_str des_nil) ⟨_, _, _, rfl, rd_bad ok e5, rfl, rfl⟩)))
              | ok x5 u5 =>
                rw [e5] at hq
                replace hq : Pr.ok (Nd.call2 4 x2 x4) u5 = q := hq
                refine ss_cons (sw_expr (ew_mmeth 0 (M.need ")") (hk := h6) (hi := ⟨_, rfl, rfl⟩) (h := aw_pure (des_cons de_str des_nil) ⟨_, _, _, rfl, rd_ok ok e5, ?_⟩)))
                have ok := ok.of ((sfx_need _).at e5)
                subst hq
                exact ss_one (sw_retD (de_tup (des_cons de_str (des_cons (de_var 2) (des_cons (de_var 3) des_nil)))) ⟨rfl, rfl⟩)
theorem sc_parts : FnScope ["self", "word", "kinds", "deep", "found", "k", "kind"] ["self", "word", "kinds", "deep"] (defScope m_Reader_parts_within) := ⟨rfl, rfl, rfl, by decide +kernel, rfl, by decide +kernel, by decide +kernel⟩
theorem signsOf_get {z : Str} {i : Nat} {d : D} (h : (enumD (signsOf z))[i]? = some d) : ∃ c, z.cps.toList[i]? = some c ∧ d = .tup [.int (i : Nat), tx [c]] := by
  unfold enumD signsOf at h
  rw [List.getElem?_mapIdx, List.getElem?_map] at h
  cases e : z.cps.toList[i]? with
  | none => rw [e] at h; cases h
  | some c =>
    rw [e] at h
    cases h
    exact ⟨c, rfl, rfl⟩
theorem mm_parts {x ks : Str} (T : MethT K Cd "parts_within" "Reader.parts_within" m_Reader_parts_within ["self", "word", "kinds", "deep"]) (M : SmT P w K mg base Ck Cd Cx) (L : LvS lv) (hEn : mg "enumerate" = none) (hTu : mg "tuple" = none) (h6 : 6 ≤ k) (hks : ks.cps.toList.length ≤ 100)
    (hS : d < 6 → ∃ j, j ≤ k ∧ Mm (L2N.CX P w) P w K mg base Cd "sum_at" j (M_rd Ck Cx [.int (d + 1)] dN lv.sum)) (hP : d < 6 → ∃ j, j ≤ k ∧ Mm (L2N.CX P w) P w K mg base Cd "place_node" j (M_rd Ck Cx [.int (d + 1)] dN lv.pl)) :
    Mm (L2N.CX P w) P w K mg base Cd "parts_within" (k + 1) (M_rd Ck Cx [.str x, .str ks, .int d] (fun l : List Nd => .tup (.str x :: l.map dN)) (partsM (decide (d < 6)) lv ks.cps.toList)) := mmN T fun f fd Fu => by
  obtain ⟨t, hD⟩ := M.deepest
  have h5 : 5 ≤ k := by omega
  refine mm_intro Fu sc_parts (fun gs ds gs' r h => ?_) fun cd A outer s H E W a room gs ds gs' r h => ?_
  · obtain ⟨S, ts, _, rfl, rfl, _⟩ := h
    rfl
  · obtain ⟨S, ts, ok, rfl, rfl, rfl, rfl⟩ := h
    generalize hq : partsM (decide (d < 6)) lv ks.cps.toList ts = q
    unfold partsM at hq
    cases e1 : allowM (decide (d < 6)) ts with
    | bad us =>
      rw [e1] at hq
      subst hq
      exact ss_cons (sw_expr (ew_mmeth 0 (M.allow (decide (d < 6))) (hk := h5) (hi := ⟨_, rfl, rfl⟩) (h := aw_pure (des_cons (de_cmp (de_var 3) (de_gint hD) od_lt) des_nil) ⟨_, _, _, rfl, rd_bad ok e1, rfl, rfl⟩)))
    | ok x0 us =>
    rw [e1] at hq
    replace hq : (takeM us).bind _ = q := hq
    obtain ⟨j, hj, hS⟩ := hS (of_decide_eq_true (allow_go e1))
    obtain ⟨j2, hj2, hP⟩ := hP (of_decide_eq_true (allow_go e1))
    refine ss_cons (sw_expr (ew_mmeth 0 (M.allow (decide (d < 6))) (hk := h5) (hi := ⟨_, rfl, rfl⟩) (h := aw_pure (des_cons (de_cmp (de_var 3) (de_gint hD) od_lt) des_nil) ⟨_, _, _, rfl, rd_ok ok e1, ?_⟩)))
    have ok := ok.of ((sfx_allow _).at e1)
    cases e2 : takeM us with
    | bad vs =>
      rw [e2] at hq
      subst hq
      exact ss_cons (sw_expr (ew_mmeth0 0 M.take (hk := h5) (hi := ⟨_, rfl, rfl⟩) (h := ⟨_, _, _, rfl, rd_bad ok e2, rfl, rfl⟩)))
    | ok x1 vs =>
    rw [e2] at hq
    replace hq : (needM "(" vs).bind _ = q := hq
    refine ss_cons (sw_expr (ew_mmeth0 0 M.take (hk := h5) (hi := ⟨_, rfl, rfl⟩) (h := ⟨_, _, _, rfl, rd_ok ok e2, ?_⟩)))
    have ok := ok.of (sfx_take.at e2)
    cases e3 : needM "(" vs with
    | bad us =>
      rw [e3] at hq
      subst hq
      exact ss_cons (sw_expr (ew_mmeth 0 (M.need "(") (hk := h6) (hi := ⟨_, rfl, rfl⟩) (h := aw_pure (des_cons de_str des_nil) ⟨_, _, _, rfl, rd_bad ok e3, rfl, rfl⟩)))
    | ok x2 us =>
    rw [e3] at hq
    replace hq : (partsL lv true ks.cps.toList [] us).bind _ = q := hq
    refine ss_cons (sw_expr (ew_mmeth 0 (M.need "(") (hk := h6) (hi := ⟨_, rfl, rfl⟩) (h := aw_pure (des_cons de_str des_nil) ⟨_, _, _, rfl, rd_ok ok e3, ?_⟩)))
    have ok := ok.of ((sfx_need _).at e3)
    refine ss_cons (sw_own 4 (aw_pure (des_cons (de_var 1) des_nil) ⟨Nat.le_of_ble_eq_true rfl, rfl, ?_⟩))
    clear e3 e2 e1
    refine ss_cons (sw_for [5, 6] (fun d => match d with
      | .tup ds => ds
      | _ => []) (fun i Γ => ∃ (acc : List Nd) (us : List Tk) (b c : Option Sl), i ≤ ks.cps.toList.length ∧ acc.length = i ∧ RdOk S us ∧ (partsL lv (decide (i = 0)) (ks.cps.toList.drop i) acc us).bind (fun l us => (needM ")" us).bind fun _ us => .ok l us) = q ∧
        Γ = [some (.mu a Cd (rdG Ck S us)), some (.im (.str x)), some (.im (.str ks)), some (.im (.int d)), some (.ow (.str x :: acc.map dN)), b, c]) (sd_enumS hEn (de_var 2)) ⟨[], us, none, none, Nat.zero_le _, rfl, ok, hq, rfl⟩ (fun d hd => ?_) (fun i d Γ1 hd hI => ?_) (fun Γ1 hI => ?_))
    · obtain ⟨i, hi, rfl⟩ := List.mem_mapIdx.mp hd
      exact tg_two 5 6
    · obtain ⟨acc, us, b, c0, hi, ha, ok, hq, rfl⟩ := hI
      obtain ⟨c, hc, rfl⟩ := signsOf_get hd
      have hil : i < ks.cps.toList.length := (List.getElem?_eq_some_iff.mp hc).1
      have hdr : ks.cps.toList.drop i = c :: ks.cps.toList.drop (i + 1) := by
        rw [List.drop_eq_getElem_cons hil]
        rw [List.getElem?_eq_getElem hil] at hc
        cases hc
        rfl
      rw [hdr] at hq
      unfold partsL at hq
      have i0 : decide (((0 : Nat) : Int) < ((i : Nat) : Int)) = !decide (i = 0) := by
        rw [← decide_not]
        exact decide_eq_decide.mpr ⟨fun h => by omega, fun h => by omega⟩
      -- what comes behind the comma
      have tail : ∀ (Pq : Post) us, RdOk S us → ((if c = 80 then lv.pl us else lv.sum us).bind fun a us => partsL lv false (ks.cps.toList.drop (i + 1)) (acc ++ [a]) us).bind (fun l us => (needM ")" us).bind fun _ us => .ok l us) = q →
          (∀ Γ, (∃ (acc : List Nd) (us : List Tk) (b c : Option Sl), i + 1 ≤ ks.cps.toList.length ∧ acc.length = i + 1 ∧ RdOk S us ∧ (partsL lv (decide (i + 1 = 0)) (ks.cps.toList.drop (i + 1)) acc us).bind (fun l us => (needM ")" us).bind fun _ us => .ok l us) = q ∧
              Γ = [some (.mu a Cd (rdG Ck S us)), some (.im (.str x)), some (.im (.str ks)), some (.im (.int d)), some (.ow (.str x :: acc.map dN)), b, c]) → Pq.nx Γ) →
          (∀ C gs Γ, (postM a Cd (rdG Ck S q.rest) (q.res S Cx (fun l : List Nd => .tup (.str x :: l.map dN)))).ex C gs Γ → Pq.ex C gs Γ) →
          SsW (bxN P w K mg base ["self", "word", "kinds", "deep", "found", "k", "kind"] "Reader.parts_within" (defScope m_Reader_parts_within) f cd A outer s H E k W (fun b => b = a) room sc_parts.nd) ((defBody m_Reader_parts_within).getD 4 (.Pass ⟨0, 0, 0, 0⟩) |> fun s => match s with | .For _ _ b _ _ => b.drop 1 | _ => [])
            [some (.mu a Cd (rdG Ck S us)), some (.im (.str x)), some (.im (.str ks)), some (.im (.int d)), some (.ow (.str x :: acc.map dN)), some (.im (.int (i : Nat))), some (.im (tx [c]))]
            Pq := fun Pq us ok hq hnx hxx => by
        cases e80 : decide (c = 80) with
        | true =>
          have h80 := of_decide_eq_true e80
          rw [if_pos h80] at hq
          cases e : lv.pl us with
          | bad vs =>
            rw [e] at hq
            subst hq
            exact ss_one (sw_app 4 ⟨_, rfl⟩ (ew_if (tw_pure (td_is (td_cmp (de_var 6) de_str od_eqS) (S_eq (a := [c]) (b := [80]))) ⟨fun _ => ew_mmeth 0 hP (hk := hj2) (hi := ⟨_, rfl, rfl⟩) (h := aw_pure (des_cons (de_op (de_var 3) de_int od_add) des_nil) ⟨_, _, _, rfl, rd_bad ok e, hxx _ _ _ ⟨rfl, rfl⟩⟩), fun z => absurd (of_decide_eq_false z) (by simp [h80])⟩)))
          | ok y vs =>
            rw [e] at hq
            refine ss_one (sw_app 4 ⟨_, rfl⟩ (ew_if (tw_pure (td_is (td_cmp (de_var 6) de_str od_eqS) (S_eq (a := [c]) (b := [80]))) ⟨fun _ => ew_mmeth 0 hP (hk := hj2) (hi := ⟨_, rfl, rfl⟩) (h := aw_pure (des_cons (de_op (de_var 3) de_int od_add) des_nil) ⟨_, _, _, rfl, rd_ok ok e, ?_⟩), fun z => absurd (of_decide_eq_false z) (by simp [h80])⟩)))
            refine ⟨_, rfl, by rw [List.length_cons, List.length_map]; omega, hnx _ ⟨acc ++ [y], vs, some (.im (.int ((i : Nat) : Int))), some (.im (tx [c])), hil, by rw [List.length_append, ha]; rfl, ok.of (L.pl.at e), hq, ?_⟩⟩
            rw [List.map_append]
            rfl
        | false =>
          have h80 := of_decide_eq_false e80
          rw [if_neg h80] at hq
          cases e : lv.sum us with
          | bad vs =>
            rw [e] at hq
            subst hq
            exact ss_one (sw_app 4 ⟨_, rfl⟩ (ew_if (tw_pure (td_is (td_cmp (de_var 6) de_str od_eqS) (S_eq (a := [c]) (b := [80]))) ⟨fun z => absurd (of_decide_eq_true z) (by simp [h80]), fun _ => ew_mmeth 0 hS (hk := hj) (hi := ⟨_, rfl, rfl⟩) (h := aw_pure (des_cons (de_op (de_var 3) de_int od_add) des_nil) ⟨_, _, _, rfl, rd_bad ok e, hxx _ _ _ ⟨rfl, rfl⟩⟩)⟩)))
          | ok y vs =>
            rw [e] at hq
            refine ss_one (sw_app 4 ⟨_, rfl⟩ (ew_if (tw_pure (td_is (td_cmp (de_var 6) de_str od_eqS) (S_eq (a := [c]) (b := [80]))) ⟨fun z => absurd (of_decide_eq_true z) (by simp [h80]), fun _ => ew_mmeth 0 hS (hk := hj) (hi := ⟨_, rfl, rfl⟩) (h := aw_pure (des_cons (de_op (de_var 3) de_int od_add) des_nil) ⟨_, _, _, rfl, rd_ok ok e, ?_⟩)⟩)))
            refine ⟨_, rfl, by rw [List.length_cons, List.length_map]; omega, hnx _ ⟨acc ++ [y], vs, some (.im (.int ((i : Nat) : Int))), some (.im (tx [c])), hil, by rw [List.length_append, ha]; rfl, ok.of (L.sum.at e), hq, ?_⟩⟩
            rw [List.map_append]
            rfl
      cases hz : decide (i = 0) with
      | true =>
        rw [hz, if_pos rfl] at hq
        refine ss_cons (sw_ifD (td_is (td_cmp (de_var 5) de_int od_gt) i0) (fun z => ?_) fun z => ?_)
        · rw [hz] at z; cases z
        · refine ss_nil ?_
          exact tail _ us ok hq (fun _ h => h) (fun _ _ _ h => h)
      | false =>
        rw [hz, if_neg Bool.false_ne_true] at hq
        refine ss_cons (sw_ifD (td_is (td_cmp (de_var 5) de_int od_gt) i0) (fun z => ?_) fun z => ?_)
        · cases e : needM "," us with
          | bad vs =>
            rw [e] at hq
            subst hq
            exact ss_one (sw_expr (ew_mmeth 0 (M.need ",") (hk := h6) (hi := ⟨_, rfl, rfl⟩) (h := aw_pure (des_cons de_str des_nil) ⟨_, _, _, rfl, rd_bad ok e, rfl, rfl⟩)))
          | ok y vs =>
            rw [e] at hq
            refine ss_one (sw_expr (ew_mmeth 0 (M.need ",") (hk := h6) (hi := ⟨_, rfl, rfl⟩) (h := aw_pure (des_cons de_str des_nil) ⟨_, _, _, rfl, rd_ok ok e, ?_⟩)))
            exact tail _ vs (ok.of ((sfx_need _).at e)) hq (fun _ h => h) (fun _ _ _ h => h)
        · rw [hz] at z; cases z
    · obtain ⟨acc, us, b, c0, hi, ha, ok, hq, rfl⟩ := hI
      have hlen : (enumD (signsOf ks)).length = ks.cps.toList.length := by unfold enumD signsOf; simp
      rw [hlen, List.drop_length] at hq
      replace hq : (needM ")" us).bind _ = q := hq
      cases e : needM ")" us with
      | bad vs =>
        rw [e] at hq
        subst hq
        exact ss_cons (sw_expr (ew_mmeth 0 (M.need ")") (hk := h6) (hi := ⟨_, rfl, rfl⟩) (h := aw_pure (des_cons de_str des_nil) ⟨_, _, _, rfl, rd_bad ok e, rfl, rfl⟩)))
      | ok y vs =>
        rw [e] at hq
        replace hq : Pr.ok acc vs = q := hq
        subst hq
        refine ss_cons (sw_expr (ew_mmeth 0 (M.need ")") (hk := h6) (hi := ⟨_, rfl, rfl⟩) (h := aw_pure (des_cons de_str des_nil) ⟨_, _, _, rfl, rd_ok ok e, ?_⟩)))
        exact ss_freeze 4 rfl (ss_one (sw_retD (de_bty hTu (des_cons (de_var 4) des_nil) cd_tuple) ⟨rfl, rfl⟩))
end
end Sd

set_option Elab.async false
set_option linter.all false
set_option maxRecDepth 100000
set_option maxHeartbeats 4000000
set_option exponentiation.threshold 10000
namespace Sd
open PySem PySem.Spec PyProof.Rows L2
section
variable {P : Program} {w : World} {K : PySem.W.Frag} {mg : Str → Option Value} {base : Heap} {Ck Cd Cx : Addr} {k : Nat} {d : Int} {lv : Lv}
theorem sign_c {t : Tk} {n : Nat} (h : saysN t (S [n]) = true) : ∃ c, t.text = [c] ∧ c = n := by
  unfold saysN at h
  rw [Bool.and_eq_true] at h
  exact ⟨n, S_inj (of_decide_eq_true h.2), rfl⟩
theorem sc_sum_at : FnScope ["self", "deep", "found", "sign"] ["self", "deep"] (defScope m_Reader_sum_at) := ⟨rfl, rfl, rfl, by decide +kernel, rfl, by decide +kernel, by decide +kernel⟩
theorem mm_sum_at {it : List Tk → Pr Nd} (T : MethT K Cd "sum_at" "Reader.sum_at" m_Reader_sum_at ["self", "deep"]) (M : SmT P w K mg base Ck Cd Cx) (L : Sfx it) (hLen : mg "len" = none) (h6 : 6 ≤ k) (hI : Mm (L2N.CX P w) P w K mg base Cd "product" k (M_rd Ck Cx [.int d] dN it)) :
    Mm (L2N.CX P w) P w K mg base Cd "sum_at" (k + 1) (M_rd Ck Cx [.int d] dN (sumM it)) := mmN T fun f fd Fu => by
  have h5 : 5 ≤ k := by omega
  have hkk : k ≤ k := Nat.le_refl k
  refine mm_intro Fu sc_sum_at (fun gs ds gs' r h => ?_) fun cd A outer s H E W a room gs ds gs' r h => ?_
  · obtain ⟨S, ts, _, rfl, rfl, _⟩ := h
    rfl
  · obtain ⟨S, ts, ok, rfl, rfl, rfl, rfl⟩ := h
    generalize hq : sumM it ts = q
    unfold sumM at hq
    cases e0 : it ts with
    | bad us =>
      rw [e0] at hq
      subst hq
      exact ss_cons (sw_own 2 (aw_cons (ew_tup (aw_cons (ew_pure de_str (aw_cons (ew_mmeth 0 hI (hk := hkk) (hi := ⟨_, rfl, rfl⟩) (h := aw_pure (des_cons (de_var 1) des_nil) ⟨_, _, _, rfl, rd_bad ok e0, rfl, rfl⟩))))))))
    | ok x us =>
    rw [e0] at hq
    replace hq : rowM "+" "-" it (us.length + 1) x false us = q := hq
    refine ss_cons (sw_own 2 (aw_cons (ew_tup (aw_cons (ew_pure de_str (aw_cons (ew_mmeth 0 hI (hk := hkk) (hi := ⟨_, rfl, rfl⟩) (h := aw_pure (des_cons (de_var 1) des_nil) ⟨_, _, _, rfl, rd_ok ok e0, ?_⟩))))))))
    refine aw_nil (aw_nil ⟨Nat.le_of_ble_eq_true rfl, rfl, ?_⟩)
    have ok := ok.of (L.at e0)
    have hrl : us.length ≤ S.toks.length := suf_len ok
    refine ss_cons (sw_while (fun m Γ => ∃ (g : Nat) (x : Nd) (j : Bool) (us : List Tk) (o : Option Sl), us.length < g ∧ RdOk S us ∧ rowM "+" "-" it g x j us = q ∧ m = g ∧
      (j = true → dN x = .tup [.str "sum", .lst (dr x).2] ∧ 2 ≤ (dr x).2.length) ∧ (if j = true then (dr x).2 else [.tup [.str "+", dN x]]).length + us.length ≤ S.toks.length + 1 ∧
      Γ = [some (.mu a Cd (rdG Ck S us)), some (.im (.int d)), some (.ow (if j = true then (dr x).2 else [.tup [.str "+", dN x]])), o]) ?_ ?_)
    · exact ⟨_, _, x, false, us, none, Nat.lt_succ_self _, ok, hq, rfl, (fun z => nomatch z), by rw [if_neg Bool.false_ne_true, List.length_cons, List.length_nil]; omega, rfl⟩
    · clear hq hrl e0 ok
      rintro m Γ1 ⟨g, x, j, us, o, hg, ok, hq, rfl, hj, hlen, rfl⟩
      obtain ⟨g, rfl⟩ : ∃ g', m = g' + 1 := ⟨m - 1, by omega⟩
      cases us with
      | nil =>
        replace hq : Pr.bad [] = q := hq
        subst hq
        exact tw_chain (ww_or (tw_val (ew_mmeth 0 (M.comes "+") (hk := h5) (hi := ⟨_, rfl, rfl⟩) (h := aw_pure (des_cons de_str des_nil) ⟨_, _, _, rfl, rd_bad (us := []) ok rfl, rfl, rfl⟩))))
      | cons t r =>
        have hr : RdOk S r := ok.of (List.suffix_cons t r)
        have hq' : (if (saysN t "+" || saysN t "-") = true then (it r).bind fun b us => rowM "+" "-" it g (.op (t.text.headD 0) j x b) true us else .ok x (t :: r)) = q := hq
        clear hq
        have body : ∀ (c : Nat), t.text = [c] → (c = 43 ∨ c = 45) → (saysN t "+" || saysN t "-") = true → ∀ (Pq : Post), (∀ Γ, (∃ m', m' < g + 1 ∧ ∃ (g : Nat) (x : Nd) (j : Bool) (us : List Tk) (o : Option Sl), us.length < g ∧ RdOk S us ∧ rowM "+" "-" it g x j us = q ∧ m' = g ∧
            (j = true → dN x = .tup [.str "sum", .lst (dr x).2] ∧ 2 ≤ (dr x).2.length) ∧ (if j = true then (dr x).2 else [.tup [.str "+", dN x]]).length + us.length ≤ S.toks.length + 1 ∧
            Γ = [some (.mu a Cd (rdG Ck S us)), some (.im (.int d)), some (.ow (if j = true then (dr x).2 else [.tup [.str "+", dN x]])), o]) → Pq.nx Γ) → (∀ C gs Γ, (postM a Cd (rdG Ck S q.rest) (q.res S Cx dN)).ex C gs Γ → Pq.ex C gs Γ) →
            SsW (bxN P w K mg base ["self", "deep", "found", "sign"] "Reader.sum_at" (defScope m_Reader_sum_at) f cd A outer s H E k W (fun b => b = a) room sc_sum_at.nd) ((defBody m_Reader_sum_at).getD 1 (.Pass ⟨0, 0, 0, 0⟩) |> fun s => match s with | .While _ b _ _ => b | _ => [])
            [some (.mu a Cd (rdG Ck S (t :: r))), some (.im (.int d)), some (.ow (if j = true then (dr x).2 else [.tup [.str "+", dN x]])), o] Pq := fun c hc ha hsay Pq hnx hxx => by
          rw [if_pos hsay, hc] at hq'
          refine ss_cons (sw_set 3 (ew_mmeth0 0 M.take (hk := h5) (hi := ⟨_, rfl, rfl⟩) (h := ⟨_, _, _, rfl, rd_ok (us := r) (a := t.text) ok rfl, ?_⟩)))
          cases e1 : it r with
          | bad us =>
            rw [e1] at hq'
            subst hq'
            exact ss_one (sw_app 2 ⟨_, rfl⟩ (ew_tup (aw_cons (ew_pure (de_var 3) (aw_cons (ew_mmeth 0 hI (hk := hkk) (hi := ⟨_, rfl, rfl⟩) (h := aw_pure (des_cons (de_var 1) des_nil) ⟨_, _, _, rfl, rd_bad hr e1, hxx _ _ _ ⟨rfl, rfl⟩⟩)))))))
          | ok y us =>
            rw [e1] at hq'
            replace hq' : rowM "+" "-" it g (.op c j x y) true us = q := hq'
            refine ss_one (sw_app 2 ⟨_, rfl⟩ (ew_tup (aw_cons (ew_pure (de_var 3) (aw_cons (ew_mmeth 0 hI (hk := hkk) (hi := ⟨_, rfl, rfl⟩) (h := aw_pure (des_cons (de_var 1) des_nil) ⟨_, _, _, rfl, rd_ok hr e1, ?_⟩)))))))
            have hu := (L.at e1).length_le
            have hrs := suf_len hr
            rw [List.length_cons] at hlen hg
            have hh : (if j = true then (dr x).2 else [.tup [.str (headS c), dN x]]) = (if j = true then (dr x).2 else [.tup [.str "+", dN x]]) := by
              rcases ha with rfl | rfl <;> rfl
            have hk2 : kindS c = "sum" := by rcases ha with rfl | rfl <;> rfl
            have h1 : 1 ≤ (if j = true then (dr x).2 else [.tup [.str "+", dN x]]).length := by
              cases j with
              | true => rw [if_pos rfl]; have := (hj rfl).2; omega
              | false => rw [if_neg Bool.false_ne_true]; exact Nat.le_refl _
            have okl := ok.len
            refine aw_nil ⟨_, rfl, by omega, hnx _ ⟨g, Nat.lt_succ_self _, g, .op c j x y, true, us, some (.im (tx t.text)), by omega, hr.of (L.at e1), hq', rfl, fun _ => ⟨?_, ?_⟩, ?_, ?_⟩⟩
            · show D.tup [.str (kindS c), .lst (dr (.op c j x y)).2] = _
              rw [hk2]
            · show 2 ≤ (_ ++ [_]).length
              rw [List.length_append, hh]
              exact Nat.add_le_add h1 (Nat.le_refl 1)
            · rw [if_pos rfl]
              show (_ ++ [_]).length + _ ≤ _
              rw [List.length_append, hh]
              show _ + 1 + _ ≤ _
              omega
            · rw [if_pos rfl]
              show _ = [_, _, some (Sl.ow ((if j = true then (dr x).2 else [.tup [.str (headS c), dN x]]) ++ [.tup [tx [c], dN y]])), _]
              rw [hh, hc]
              rfl
        have out : (saysN t "+" || saysN t "-") = false → SsW (bxN P w K mg base ["self", "deep", "found", "sign"] "Reader.sum_at" (defScope m_Reader_sum_at) f cd A outer s H E k W (fun b => b = a) room sc_sum_at.nd) ((defBody m_Reader_sum_at).drop 2)
            [some (.mu a Cd (rdG Ck S (t :: r))), some (.im (.int d)), some (.ow (if j = true then (dr x).2 else [.tup [.str "+", dN x]])), o] (postM a Cd (rdG Ck S q.rest) (q.res S Cx dN)) := fun hsay => by
          rw [if_neg (by rw [hsay]; exact Bool.false_ne_true)] at hq'
          subst hq'
          refine ss_freeze 2 rfl ?_
          cases j with
          | false =>
            exact ss_one (sw_ret (ew_if (tw_pure (k := true) (td_cmp (de_bi hLen (des_cons (de_var 2) des_nil) cd_lenL) de_int od_eq) ⟨fun _ => ew_pure (d := dN x) (de_ix (x := .tup [.str "+", dN x]) (de_ix (x := .lst [.tup [.str "+", dN x]]) (de_var 2) de_int rfl) de_int rfl) ⟨rfl, rfl⟩, fun z => nomatch z⟩)))
          | true =>
            obtain ⟨hj1, hj2⟩ := hj rfl
            refine ss_one (sw_retD (de_if (k := false) (x := .non) (td_is (td_cmp (de_bi hLen (des_cons (de_var 2) des_nil) cd_lenL) de_int od_eq) (decide_eq_false ?_)) (fun z => nomatch z) fun _ => de_tup (des_cons de_str (des_cons (de_var 2) des_nil))) ⟨?_, rfl⟩)
            · rw [if_pos rfl]
              omega
            · show Res.ret (dN x) = _
              rw [hj1]
              rfl
        refine tw_chain (ww_or (tw_val (ew_mmeth 0 (M.comes "+") (hk := h5) (hi := ⟨_, rfl, rfl⟩) (h := aw_pure (des_cons de_str des_nil) ⟨_, _, _, rfl, rd_ok (us := t :: r) (a := saysN t "+") ok rfl, saysN t "+", rfl, fun z => ?_, fun z => ww_or1 (tw_val (ew_mmeth 0 (M.comes "-") (hk := h5) (hi := ⟨_, rfl, rfl⟩) (h := aw_pure (des_cons de_str des_nil) ⟨_, _, _, rfl, rd_ok (us := t :: r) (a := saysN t "-") ok rfl, saysN t "-", rfl, ?_⟩)))⟩))))
        · have hs : (saysN t "+" || saysN t "-") = true := by rw [z]; rfl
          refine ⟨fun _ => ?_, fun z => nomatch z⟩
          obtain ⟨c, hc, ha⟩ := sign_c z
          exact body c hc (.inl ha) hs _ (fun _ h => h) (fun _ _ _ h => h)
        · refine ⟨fun z2 => ?_, fun z2 => ?_⟩
          · have hs : (saysN t "+" || saysN t "-") = true := by rw [z2, Bool.or_true]
            obtain ⟨c, hc, ha⟩ := sign_c z2
            exact body c hc (.inr ha) hs _ (fun _ h => h) (fun _ _ _ h => h)
          · exact out (by rw [z, z2]; rfl)
theorem sc_product : FnScope ["self", "deep", "found", "sign"] ["self", "deep"] (defScope m_Reader_product) := ⟨rfl, rfl, rfl, by decide +kernel, rfl, by decide +kernel, by decide +kernel⟩
theorem mm_product {it : List Tk → Pr Nd} (T : MethT K Cd "product" "Reader.product" m_Reader_product ["self", "deep"]) (M : SmT P w K mg base Ck Cd Cx) (L : Sfx it) (hLen : mg "len" = none) (h6 : 6 ≤ k) (hI : Mm (L2N.CX P w) P w K mg base Cd "factor" k (M_rd Ck Cx [.int d] dN it)) :
    Mm (L2N.CX P w) P w K mg base Cd "product" (k + 1) (M_rd Ck Cx [.int d] dN (prodM it)) := mmN T fun f fd Fu => by
  have h5 : 5 ≤ k := by omega
  have hkk : k ≤ k := Nat.le_refl k
  refine mm_intro Fu sc_product (fun gs ds gs' r h => ?_) fun cd A outer s H E W a room gs ds gs' r h => ?_
  · obtain ⟨S, ts, _, rfl, rfl, _⟩ := h
    rfl
  · obtain ⟨S, ts, ok, rfl, rfl, rfl, rfl⟩ := h
    generalize hq : prodM it ts = q
    unfold prodM at hq
    cases e0 : it ts with
    | bad us =>
      rw [e0] at hq
      subst hq
      exact ss_cons (sw_own 2 (aw_cons (ew_tup (aw_cons (ew_pure de_str (aw_cons (ew_mmeth 0 hI (hk := hkk) (hi := ⟨_, rfl, rfl⟩) (h := aw_pure (des_cons (de_var 1) des_nil) ⟨_, _, _, rfl, rd_bad ok e0, rfl, rfl⟩))))))))
    | ok x us =>
    rw [e0] at hq
    replace hq : rowM "*" "/" it (us.length + 1) x false us = q := hq
    refine ss_cons (sw_own 2 (aw_cons (ew_tup (aw_cons (ew_pure de_str (aw_cons (ew_mmeth 0 hI (hk := hkk) (hi := ⟨_, rfl, rfl⟩) (h := aw_pure (des_cons (de_var 1) des_nil) ⟨_, _, _, rfl, rd_ok ok e0, ?_⟩))))))))
    refine aw_nil (aw_nil ⟨Nat.le_of_ble_eq_true rfl, rfl, ?_⟩)
    have ok := ok.of (L.at e0)
    have hrl : us.length ≤ S.toks.length := suf_len ok
    refine ss_cons (sw_while (fun m Γ => ∃ (g : Nat) (x : Nd) (j : Bool) (us : List Tk) (o : Option Sl), us.length < g ∧ RdOk S us ∧ rowM "*" "/" it g x j us = q ∧ m = g ∧
      (j = true → dN x = .tup [.str "product", .lst (dr x).2] ∧ 2 ≤ (dr x).2.length) ∧ (if j = true then (dr x).2 else [.tup [.str "*", dN x]]).length + us.length ≤ S.toks.length + 1 ∧
      Γ = [some (.mu a Cd (rdG Ck S us)), some (.im (.int d)), some (.ow (if j = true then (dr x).2 else [.tup [.str "*", dN x]])), o]) ?_ ?_)
    · exact ⟨_, _, x, false, us, none, Nat.lt_succ_self _, ok, hq, rfl, (fun z => nomatch z), by rw [if_neg Bool.false_ne_true, List.length_cons, List.length_nil]; omega, rfl⟩
    · clear hq hrl e0 ok
      rintro m Γ1 ⟨g, x, j, us, o, hg, ok, hq, rfl, hj, hlen, rfl⟩
      obtain ⟨g, rfl⟩ : ∃ g', m = g' + 1 := ⟨m - 1, by omega⟩
      cases us with
      | nil =>
        replace hq : Pr.bad [] = q := hq
        subst hq
        exact tw_chain (ww_or (tw_val (ew_mmeth 0 (M.comes "*") (hk := h5) (hi := ⟨_, rfl, rfl⟩) (h := aw_pure (des_cons de_str des_nil) ⟨_, _, _, rfl, rd_bad (us := []) ok rfl, rfl, rfl⟩))))
      | cons t r =>
        have hr : RdOk S r := ok.of (List.suffix_cons t r)
        have hq' : (if (saysN t "*" || saysN t "/") = true then (it r).bind fun b us => rowM "*" "/" it g (.op (t.text.headD 0) j x b) true us else .ok x (t :: r)) = q := hq
        clear hq
        have body : ∀ (c : Nat), t.text = [c] → (c = 42 ∨ c = 47) → (saysN t "*" || saysN t "/") = true → ∀ (Pq : Post), (∀ Γ, (∃ m', m' < g + 1 ∧ ∃ (g : Nat) (x : Nd) (j : Bool) (us : List Tk) (o : Option Sl), us.length < g ∧ RdOk S us ∧ rowM "*" "/" it g x j us = q ∧ m' = g ∧
            (j = true → dN x = .tup [.str "product", .lst (dr x).2] ∧ 2 ≤ (dr x).2.length) ∧ (if j = true then (dr x).2 else [.tup [.str "*", dN x]]).length + us.length ≤ S.toks.length + 1 ∧
            Γ = [some (.mu a Cd (rdG Ck S us)), some (.im (.int d)), some (.ow (if j = true then (dr x).2 else [.tup [.str "*", dN x]])), o]) → Pq.nx Γ) → (∀ C gs Γ, (postM a Cd (rdG Ck S q.rest) (q.res S Cx dN)).ex C gs Γ → Pq.ex C gs Γ) →
            SsW (bxN P w K mg base ["self", "deep", "found", "sign"] "Reader.product" (defScope m_Reader_product) f cd A outer s H E k W (fun b => b = a) room sc_product.nd) ((defBody m_Reader_product).getD 1 (.Pass ⟨0, 0, 0, 0⟩) |> fun s => match s with | .While _ b _ _ => b | _ => [])
            [some (.mu a Cd (rdG Ck S (t :: r))), some (.im (.int d)), some (.ow (if j = true then (dr x).2 else [.tup [.str "*", dN x]])), o] Pq := fun c hc ha hsay Pq hnx hxx => by
          rw [if_pos hsay, hc] at hq'
          refine ss_cons (sw_set 3 (ew_mmeth0 0 M.take (hk := h5) (hi := ⟨_, rfl, rfl⟩) (h := ⟨_, _, _, rfl, rd_ok (us := r) (a := t.text) ok rfl, ?_⟩)))
          cases e1 : it r with
          | bad us =>
            rw [e1] at hq'
            subst hq'
            exact ss_one (sw_app 2 ⟨_, rfl⟩ (ew_tup (aw_cons (ew_pure (de_var 3) (aw_cons (ew_mmeth 0 hI (hk := hkk) (hi := ⟨_, rfl, rfl⟩) (h := aw_pure (des_cons (de_var 1) des_nil) ⟨_, _, _, rfl, rd_bad hr e1, hxx _ _ _ ⟨rfl, rfl⟩⟩)))))))
          | ok y us =>
            rw [e1] at hq'
            replace hq' : rowM "*" "/" it g (.op c j x y) true us = q := hq'
            refine ss_one (sw_app 2 ⟨_, rfl⟩ (ew_tup (aw_cons (ew_pure (de_var 3) (aw_cons (ew_mmeth 0 hI (hk := hkk) (hi := ⟨_, rfl, rfl⟩) (h := aw_pure (des_cons (de_var 1) des_nil) ⟨_, _, _, rfl, rd_ok hr e1, ?_⟩)))))))
            have hu := (L.at e1).length_le
            have hrs := suf_len hr
            rw [List.length_cons] at hlen hg
            have hh : (if j = true then (dr x).2 else [.tup [.str (headS c), dN x]]) = (if j = true then (dr x).2 else [.tup [.str "*", dN x]]) := by
              rcases ha with rfl | rfl <;> rfl
            have hk2 : kindS c = "product" := by rcases ha with rfl | rfl <;> rfl
            have h1 : 1 ≤ (if j = true then (dr x).2 else [.tup [.str "*", dN x]]).length := by
              cases j with
              | true => rw [if_pos rfl]; have := (hj rfl).2; omega
              | false => rw [if_neg Bool.false_ne_true]; exact Nat.le_refl _
            have okl := ok.len
            refine aw_nil ⟨_, rfl, by omega, hnx _ ⟨g, Nat.lt_succ_self _, g, .op c j x y, true, us, some (.im (tx t.text)), by omega, hr.of (L.at e1), hq', rfl, fun _ => ⟨?_, ?_⟩, ?_, ?_⟩⟩
            · show D.tup [.str (kindS c), .lst (dr (.op c j x y)).2] = _
              rw [hk2]
            · show 2 ≤ (_ ++ [_]).length
              rw [List.length_append, hh]
              exact Nat.add_le_add h1 (Nat.le_refl 1)
            · rw [if_pos rfl]
              show (_ ++ [_]).length + _ ≤ _
              rw [List.length_append, hh]
              show _ + 1 + _ ≤ _
              omega
            · rw [if_pos rfl]
              show _ = [_, _, some (Sl.ow ((if j = true then (dr x).2 else [.tup [.str (headS c), dN x]]) ++ [.tup [tx [c], dN y]])), _]
              rw [hh, hc]
              rfl
        have out : (saysN t "*" || saysN t "/") = false → SsW (bxN P w K mg base ["self", "deep", "found", "sign"] "Reader.product" (defScope m_Reader_product) f cd A outer s H E k W (fun b => b = a) room sc_product.nd) ((defBody m_Reader_product).drop 2)
            [some (.mu a Cd (rdG Ck S (t :: r))), some (.im (.int d)), some (.ow (if j = true then (dr x).2 else [.tup [.str "*", dN x]])), o] (postM a Cd (rdG Ck S q.rest) (q.res S Cx dN)) := fun hsay => by
          rw [if_neg (by rw [hsay]; exact Bool.false_ne_true)] at hq'
          subst hq'
          refine ss_freeze 2 rfl ?_
          cases j with
          | false =>
            exact ss_one (sw_ret (ew_if (tw_pure (k := true) (td_cmp (de_bi hLen (des_cons (de_var 2) des_nil) cd_lenL) de_int od_eq) ⟨fun _ => ew_pure (d := dN x) (de_ix (x := .tup [.str "*", dN x]) (de_ix (x := .lst [.tup [.str "*", dN x]]) (de_var 2) de_int rfl) de_int rfl) ⟨rfl, rfl⟩, fun z => nomatch z⟩)))
          | true =>
            obtain ⟨hj1, hj2⟩ := hj rfl
            refine ss_one (sw_retD (de_if (k := false) (x := .non) (td_is (td_cmp (de_bi hLen (des_cons (de_var 2) des_nil) cd_lenL) de_int od_eq) (decide_eq_false ?_)) (fun z => nomatch z) fun _ => de_tup (des_cons de_str (des_cons (de_var 2) des_nil))) ⟨?_, rfl⟩)
            · rw [if_pos rfl]
              omega
            · show Res.ret (dN x) = _
              rw [hj1]
              rfl
        refine tw_chain (ww_or (tw_val (ew_mmeth 0 (M.comes "*") (hk := h5) (hi := ⟨_, rfl, rfl⟩) (h := aw_pure (des_cons de_str des_nil) ⟨_, _, _, rfl, rd_ok (us := t :: r) (a := saysN t "*") ok rfl, saysN t "*", rfl, fun z => ?_, fun z => ww_or1 (tw_val (ew_mmeth 0 (M.comes "/") (hk := h5) (hi := ⟨_, rfl, rfl⟩) (h := aw_pure (des_cons de_str des_nil) ⟨_, _, _, rfl, rd_ok (us := t :: r) (a := saysN t "/") ok rfl, saysN t "/", rfl, ?_⟩)))⟩))))
        · have hs : (saysN t "*" || saysN t "/") = true := by rw [z]; rfl
          refine ⟨fun _ => ?_, fun z => nomatch z⟩
          obtain ⟨c, hc, ha⟩ := sign_c z
          exact body c hc (.inl ha) hs _ (fun _ h => h) (fun _ _ _ h => h)
        · refine ⟨fun z2 => ?_, fun z2 => ?_⟩
          · have hs : (saysN t "*" || saysN t "/") = true := by rw [z2, Bool.or_true]
            obtain ⟨c, hc, ha⟩ := sign_c z2
            exact body c hc (.inr ha) hs _ (fun _ h => h) (fun _ _ _ h => h)
          · exact out (by rw [z, z2]; rfl)
end
end Sd

set_option Elab.async false
set_option linter.all false
set_option maxRecDepth 100000
set_option maxHeartbeats 4000000
set_option exponentiation.threshold 10000
namespace Sd
open PySem PySem.Spec PyProof.Rows L2
section
variable {P : Program} {w : World} {K : PySem.W.Frag} {mg : Str → Option Value} {base : Heap} {Ck Cd Cx : Addr} {k : Nat} {d : Int} {lv : Lv}
theorem fam_eq (t : Tk) (f : Fam) : decide (t.fam.s = f.s) = decide (t.fam = f) := by
  cases t.fam <;> cases f <;> decide
theorem tab_small {tab : List (Str × Str)} {x k : Str} (h : ∀ p ∈ tab, p.2.cps.toList.length ≤ 100) (e : tab.lookup x = some k) : k.cps.toList.length ≤ 100 := by
  induction tab with
  | nil => cases e
  | cons p tab ih =>
    obtain ⟨y, v⟩ := p
    rw [List.lookup_cons] at e
    cases q : (x == y) with
    | false => rw [q] at e; exact ih (fun p hp => h p (List.mem_cons_of_mem _ hp)) e
    | true =>
      rw [q] at e
      cases e
      exact h (y, k) List.mem_cons_self
theorem sc_factor : FnScope ["self", "deep", "token"] ["self", "deep"] (defScope m_Reader_factor) := ⟨rfl, rfl, rfl, by decide +kernel, rfl, by decide +kernel, by decide +kernel⟩
theorem mm_factor (T : MethT K Cd "factor" "Reader.factor" m_Reader_factor ["self", "deep"]) (M : SmT P w K mg base Ck Cd Cx) (L : LvS lv) (h6 : 6 ≤ k) (n2 : ∃ t, mg "NAME" = some (.str "name" t)) (n3 : ∃ t, mg "NUMBER" = some (.str "number" t)) (tab : TabT K w mg "SUM_WORDS" SUMT)
    (hF : d < 6 → ∃ j, j ≤ k ∧ Mm (L2N.CX P w) P w K mg base Cd "factor" j (M_rd Ck Cx [.int (d + 1)] dN lv.fac))
    (hW : Mm (L2N.CX P w) P w K mg base Cd "within" k (M_rd Ck Cx [.int d] dN (withinM (decide (d < 6)) lv)))
    (hP : ∀ x ks : Str, ks.cps.toList.length ≤ 100 → Mm (L2N.CX P w) P w K mg base Cd "parts_within" k (M_rd Ck Cx [.str x, .str ks, .int d] (fun l : List Nd => .tup (.str x :: l.map dN)) (partsM (decide (d < 6)) lv ks.cps.toList))) :
    Mm (L2N.CX P w) P w K mg base Cd "factor" (k + 1) (M_rd Ck Cx [.int d] dN (facM (decide (d < 6)) lv)) := mmN T fun f fd Fu => by
  obtain ⟨t6, n2⟩ := n2
  obtain ⟨t7, n3⟩ := n3
  obtain ⟨t8, hD⟩ := M.deepest
  have h5 : 5 ≤ k := by omega
  have h4 : 4 ≤ k := by omega
  have h1 : 1 ≤ k := by omega
  have hkk : k ≤ k := Nat.le_refl k
  refine mm_intro Fu sc_factor (fun gs ds gs' r h => ?_) fun cd A outer s H E W a room gs ds gs' r h => ?_
  · obtain ⟨S, ts, _, rfl, rfl, _⟩ := h
    rfl
  · obtain ⟨S, ts, ok, rfl, rfl, rfl, rfl⟩ := h
    generalize hq : facM (decide (d < 6)) lv ts = q
    cases ts with
    | nil =>
      replace hq : Pr.bad [] = q := hq
      subst hq
      exact ss_cons (sw_set 2 (ew_mmeth0 0 M.here (hk := h4) (hi := ⟨_, rfl, rfl⟩) (h := ⟨_, _, _, rfl, rd_bad (us := []) ok rfl, rfl, rfl⟩)))
    | cons t r =>
      unfold facM at hq
      dsimp only at hq
      refine ss_cons (sw_set 2 (ew_mmeth0 0 M.here (hk := h4) (hi := ⟨_, rfl, rfl⟩) (h := ⟨_, _, _, rfl, rd_ok (us := t :: r) (a := t) ok rfl, ?_⟩)))
      refine ss_cons (sw_ifD (td_is (td_cmp (de_fld (de_var 2) M.tk.cl M.tk.nf rfl) (de_gstr n2) od_eqS) (fam_eq t .name)) (fun z => ?_) fun z => ?_)
      · rw [if_pos (of_decide_eq_true z)] at hq
        subst hq
        exact ss_one (sw_ret (ew_tup (aw_cons (ew_pure de_str (aw_cons (ew_mmeth0 0 M.take (hk := h5) (hi := ⟨_, rfl, rfl⟩) (h := ⟨_, _, _, rfl, rd_ok (us := r) (a := t.text) ok rfl, aw_nil ⟨rfl, rfl⟩⟩)))))))
      rw [if_neg (of_decide_eq_false z)] at hq
      refine ss_nil ?_
      refine ss_cons (sw_ifD (td_is (td_cmp (de_fld (de_var 2) M.tk.cl M.tk.nf rfl) (de_gstr n3) od_eqS) (fam_eq t .num)) (fun z => ?_) fun z => ?_)
      · rw [if_pos (of_decide_eq_true z)] at hq
        subst hq
        exact ss_one (sw_ret (ew_tup (aw_cons (ew_pure de_str (aw_cons (ew_mmeth0 0 M.take (hk := h5) (hi := ⟨_, rfl, rfl⟩) (h := ⟨_, _, _, rfl, rd_ok (us := r) (a := t.text) ok rfl, aw_nil ⟨rfl, rfl⟩⟩)))))))
      rw [if_neg (of_decide_eq_false z)] at hq
      refine ss_nil ?_
      refine ss_cons (sw_ifD (k := saysN t "-") (td_val (de_meth M.says (de_var 2) rfl (des_cons de_str des_nil) ⟨t, _, rfl, rfl⟩ (hk := h1))) (fun z => ?_) fun z => ?_)
      · rw [if_pos z] at hq
        cases e1 : allowM (decide (d < 6)) (t :: r) with
        | bad us =>
          rw [e1] at hq
          subst hq
          exact ss_cons (sw_expr (ew_mmeth 0 (M.allow (decide (d < 6))) (hk := h5) (hi := ⟨_, rfl, rfl⟩) (h := aw_pure (des_cons (de_cmp (de_var 1) (de_gint hD) od_lt) des_nil) ⟨_, _, _, rfl, rd_bad ok e1, rfl, rfl⟩)))
        | ok x us =>
        rw [e1] at hq
        replace hq : (takeM us).bind _ = q := hq
        obtain ⟨j, hj, hF⟩ := hF (of_decide_eq_true (allow_go e1))
        refine ss_cons (sw_expr (ew_mmeth 0 (M.allow (decide (d < 6))) (hk := h5) (hi := ⟨_, rfl, rfl⟩) (h := aw_pure (des_cons (de_cmp (de_var 1) (de_gint hD) od_lt) des_nil) ⟨_, _, _, rfl, rd_ok ok e1, ?_⟩)))
        have ok := ok.of ((sfx_allow _).at e1)
        cases e2 : takeM us with
        | bad vs =>
          rw [e2] at hq
          subst hq
          exact ss_cons (sw_expr (ew_mmeth0 0 M.take (hk := h5) (hi := ⟨_, rfl, rfl⟩) (h := ⟨_, _, _, rfl, rd_bad ok e2, rfl, rfl⟩)))
        | ok x1 vs =>
        rw [e2] at hq
        replace hq : (lv.fac vs).bind _ = q := hq
        refine ss_cons (sw_expr (ew_mmeth0 0 M.take (hk := h5) (hi := ⟨_, rfl, rfl⟩) (h := ⟨_, _, _, rfl, rd_ok ok e2, ?_⟩)))
        have ok := ok.of (sfx_take.at e2)
        cases e3 : lv.fac vs with
        | bad us =>
          rw [e3] at hq
          subst hq
          exact ss_one (sw_ret (ew_tup (aw_cons (ew_pure de_str (aw_cons (ew_mmeth 0 hF (hk := hj) (hi := ⟨_, rfl, rfl⟩) (h := aw_pure (des_cons (de_op (de_var 1) de_int od_add) des_nil) ⟨_, _, _, rfl, rd_bad ok e3, rfl, rfl⟩)))))))
        | ok y us =>
          rw [e3] at hq
          replace hq : Pr.ok (Nd.neg y) us = q := hq
          subst hq
          exact ss_one (sw_ret (ew_tup (aw_cons (ew_pure de_str (aw_cons (ew_mmeth 0 hF (hk := hj) (hi := ⟨_, rfl, rfl⟩) (h := aw_pure (des_cons (de_op (de_var 1) de_int od_add) des_nil) ⟨_, _, _, rfl, rd_ok ok e3, aw_nil ⟨rfl, rfl⟩⟩)))))))
      rw [if_neg (by rw [z]; exact Bool.false_ne_true)] at hq
      refine ss_nil ?_
      refine ss_cons (sw_ifD (k := saysN t "(") (td_val (de_meth M.says (de_var 2) rfl (des_cons de_str des_nil) ⟨t, _, rfl, rfl⟩ (hk := h1))) (fun z => ?_) fun z => ?_)
      · rw [if_pos z] at hq
        cases e1 : withinM (decide (d < 6)) lv (t :: r) with
        | bad us =>
          rw [e1] at hq
          subst hq
          exact ss_one (sw_ret (ew_mmeth 0 hW (hk := hkk) (hi := ⟨_, rfl, rfl⟩) (h := aw_pure (des_cons (de_var 1) des_nil) ⟨_, _, _, rfl, rd_bad ok e1, rfl, rfl⟩)))
        | ok y us =>
          rw [e1] at hq
          subst hq
          exact ss_one (sw_ret (ew_mmeth 0 hW (hk := hkk) (hi := ⟨_, rfl, rfl⟩) (h := aw_pure (des_cons (de_var 1) des_nil) ⟨_, _, _, rfl, rd_ok ok e1, rfl, rfl⟩)))
      rw [if_neg (by rw [z]; exact Bool.false_ne_true)] at hq
      refine ss_nil ?_
      cases e : SUMT.lookup (Sd.S t.text) with
      | none =>
        rw [e] at hq
        dsimp only at hq
        subst hq
        exact ss_cons (sw_expr (ew_mmeth 0 (M.allow false) (hk := h5) (hi := ⟨_, rfl, rfl⟩) (h := aw_pure (des_cons (de_is (de_inTab tab (de_fld (de_var 2) M.tk.cl M.tk.nt rfl)) (by rw [e]; rfl)) des_nil) ⟨_, _, _, rfl, rd_bad (us := t :: r) ok rfl, rfl, rfl⟩)))
      | some ks =>
        rw [e] at hq
        dsimp only at hq
        refine ss_cons (sw_expr (ew_mmeth 0 (M.allow true) (hk := h5) (hi := ⟨_, rfl, rfl⟩) (h := aw_pure (des_cons (de_is (de_inTab tab (de_fld (de_var 2) M.tk.cl M.tk.nt rfl)) (by rw [e]; rfl)) des_nil) ⟨_, _, _, rfl, rd_ok (us := t :: r) ok rfl, ?_⟩)))
        have hks := tab_small (tab := SUMT) (by decide +kernel) e
        cases e1 : partsM (decide (d < 6)) lv ks.cps.toList (t :: r) with
        | bad us =>
          rw [e1] at hq
          subst hq
          exact ss_one (sw_ret (ew_mmeth 0 (hP (Sd.S t.text) ks hks) (hk := hkk) (hi := ⟨_, rfl, rfl⟩) (h := aw_pure (des_cons (de_fld (de_var 2) M.tk.cl M.tk.nt rfl) (des_cons (de_ixTab tab (de_fld (de_var 2) M.tk.cl M.tk.nt rfl) e) (des_cons (de_var 1) des_nil))) ⟨_, _, _, rfl, rd_bad ok e1, rfl, rfl⟩)))
        | ok l us =>
          rw [e1] at hq
          replace hq : Pr.ok (callN (fnNo (Sd.S t.text)) l) us = q := hq
          subst hq
          refine ss_one (sw_ret (ew_mmeth 0 (hP (Sd.S t.text) ks hks) (hk := hkk) (hi := ⟨_, rfl, rfl⟩) (h := aw_pure (des_cons (de_fld (de_var 2) M.tk.cl M.tk.nt rfl) (des_cons (de_ixTab tab (de_fld (de_var 2) M.tk.cl M.tk.nt rfl) e) (des_cons (de_var 1) des_nil))) ⟨_, _, _, rfl, rd_ok ok e1, ?_, rfl⟩)))
          show Res.ret (dN (callN (fnNo (Sd.S t.text)) l)) = _
          rw [call_dN (.inl e) (parts_len e1)]
theorem sc_place_node : FnScope ["self", "deep", "token"] ["self", "deep"] (defScope m_Reader_place_node) := ⟨rfl, rfl, rfl, by decide +kernel, rfl, by decide +kernel, by decide +kernel⟩
theorem mm_place_node (T : MethT K Cd "place_node" "Reader.place_node" m_Reader_place_node ["self", "deep"]) (M : SmT P w K mg base Ck Cd Cx) (L : LvS lv) (h6 : 6 ≤ k) (n2 : ∃ t, mg "NAME" = some (.str "name" t)) (tab : TabT K w mg "PLACE_WORDS" PLT)
    (hW : Mm (L2N.CX P w) P w K mg base Cd "pair" k (M_rd Ck Cx [.int d] dN (pairM (decide (d < 6)) lv)))
    (hP : ∀ x ks : Str, ks.cps.toList.length ≤ 100 → Mm (L2N.CX P w) P w K mg base Cd "parts_within" k (M_rd Ck Cx [.str x, .str ks, .int d] (fun l : List Nd => .tup (.str x :: l.map dN)) (partsM (decide (d < 6)) lv ks.cps.toList))) :
    Mm (L2N.CX P w) P w K mg base Cd "place_node" (k + 1) (M_rd Ck Cx [.int d] dN (plM (decide (d < 6)) lv)) := mmN T fun f fd Fu => by
  obtain ⟨t6, n2⟩ := n2
  have h5 : 5 ≤ k := by omega
  have h4 : 4 ≤ k := by omega
  have h1 : 1 ≤ k := by omega
  have hkk : k ≤ k := Nat.le_refl k
  refine mm_intro Fu sc_place_node (fun gs ds gs' r h => ?_) fun cd A outer s H E W a room gs ds gs' r h => ?_
  · obtain ⟨S, ts, _, rfl, rfl, _⟩ := h
    rfl
  · obtain ⟨S, ts, ok, rfl, rfl, rfl, rfl⟩ := h
    generalize hq : plM (decide (d < 6)) lv ts = q
    cases ts with
    | nil =>
      replace hq : Pr.bad [] = q := hq
      subst hq
      exact ss_cons (sw_set 2 (ew_mmeth0 0 M.here (hk := h4) (hi := ⟨_, rfl, rfl⟩) (h := ⟨_, _, _, rfl, rd_bad (us := []) ok rfl, rfl, rfl⟩)))
    | cons t r =>
      unfold plM at hq
      dsimp only at hq
      refine ss_cons (sw_set 2 (ew_mmeth0 0 M.here (hk := h4) (hi := ⟨_, rfl, rfl⟩) (h := ⟨_, _, _, rfl, rd_ok (us := t :: r) (a := t) ok rfl, ?_⟩)))
      refine ss_cons (sw_ifD (td_is (td_cmp (de_fld (de_var 2) M.tk.cl M.tk.nf rfl) (de_gstr n2) od_eqS) (fam_eq t .name)) (fun z => ?_) fun z => ?_)
      · rw [if_pos (of_decide_eq_true z)] at hq
        subst hq
        exact ss_one (sw_ret (ew_tup (aw_cons (ew_pure de_str (aw_cons (ew_mmeth0 0 M.take (hk := h5) (hi := ⟨_, rfl, rfl⟩) (h := ⟨_, _, _, rfl, rd_ok (us := r) (a := t.text) ok rfl, aw_nil ⟨rfl, rfl⟩⟩)))))))
      rw [if_neg (of_decide_eq_false z)] at hq
      refine ss_nil ?_
      refine ss_cons (sw_ifD (k := saysN t "(") (td_val (de_meth M.says (de_var 2) rfl (des_cons de_str des_nil) ⟨t, _, rfl, rfl⟩ (hk := h1))) (fun z => ?_) fun z => ?_)
      · rw [if_pos z] at hq
        cases e1 : pairM (decide (d < 6)) lv (t :: r) with
        | bad us =>
          rw [e1] at hq
          subst hq
          exact ss_one (sw_ret (ew_mmeth 0 hW (hk := hkk) (hi := ⟨_, rfl, rfl⟩) (h := aw_pure (des_cons (de_var 1) des_nil) ⟨_, _, _, rfl, rd_bad ok e1, rfl, rfl⟩)))
        | ok y us =>
          rw [e1] at hq
          subst hq
          exact ss_one (sw_ret (ew_mmeth 0 hW (hk := hkk) (hi := ⟨_, rfl, rfl⟩) (h := aw_pure (des_cons (de_var 1) des_nil) ⟨_, _, _, rfl, rd_ok ok e1, rfl, rfl⟩)))
      rw [if_neg (by rw [z]; exact Bool.false_ne_true)] at hq
      refine ss_nil ?_
      cases e : PLT.lookup (Sd.S t.text) with
      | none =>
        rw [e] at hq
        dsimp only at hq
        subst hq
        exact ss_cons (sw_expr (ew_mmeth 0 (M.allow false) (hk := h5) (hi := ⟨_, rfl, rfl⟩) (h := aw_pure (des_cons (de_is (de_inTab tab (de_fld (de_var 2) M.tk.cl M.tk.nt rfl)) (by rw [e]; rfl)) des_nil) ⟨_, _, _, rfl, rd_bad (us := t :: r) ok rfl, rfl, rfl⟩)))
      | some ks =>
        rw [e] at hq
        dsimp only at hq
        refine ss_cons (sw_expr (ew_mmeth 0 (M.allow true) (hk := h5) (hi := ⟨_, rfl, rfl⟩) (h := aw_pure (des_cons (de_is (de_inTab tab (de_fld (de_var 2) M.tk.cl M.tk.nt rfl)) (by rw [e]; rfl)) des_nil) ⟨_, _, _, rfl, rd_ok (us := t :: r) ok rfl, ?_⟩)))
        have hks := tab_small (tab := PLT) (by decide +kernel) e
        cases e1 : partsM (decide (d < 6)) lv ks.cps.toList (t :: r) with
        | bad us =>
          rw [e1] at hq
          subst hq
          exact ss_one (sw_ret (ew_mmeth 0 (hP (Sd.S t.text) ks hks) (hk := hkk) (hi := ⟨_, rfl, rfl⟩) (h := aw_pure (des_cons (de_fld (de_var 2) M.tk.cl M.tk.nt rfl) (des_cons (de_ixTab tab (de_fld (de_var 2) M.tk.cl M.tk.nt rfl) e) (des_cons (de_var 1) des_nil))) ⟨_, _, _, rfl, rd_bad ok e1, rfl, rfl⟩)))
        | ok l us =>
          rw [e1] at hq
          replace hq : Pr.ok (callN (fnNo (Sd.S t.text)) l) us = q := hq
          subst hq
          refine ss_one (sw_ret (ew_mmeth 0 (hP (Sd.S t.text) ks hks) (hk := hkk) (hi := ⟨_, rfl, rfl⟩) (h := aw_pure (des_cons (de_fld (de_var 2) M.tk.cl M.tk.nt rfl) (des_cons (de_ixTab tab (de_fld (de_var 2) M.tk.cl M.tk.nt rfl) e) (des_cons (de_var 1) des_nil))) ⟨_, _, _, rfl, rd_ok ok e1, ?_, rfl⟩)))
          show Res.ret (dN (callN (fnNo (Sd.S t.text)) l)) = _
          rw [call_dN (.inr e) (parts_len e1)]
end
end Sd

set_option Elab.async false
set_option linter.all false
set_option maxRecDepth 100000
set_option maxHeartbeats 4000000
set_option exponentiation.threshold 10000
namespace Sd
open PySem PySem.Spec PyProof.Rows L2
/-- what the written part says of the parser's methods -/
structure PrT (K : PySem.W.Frag) (w : World) (mg : Str → Option Value) (Cd : Addr) : Prop where
  n_enum : mg "enumerate" = none
  n_tuple : mg "tuple" = none
  n_len : mg "len" = none
  c_name : ∃ t, mg "NAME" = some (.str "name" t)
  c_number : ∃ t, mg "NUMBER" = some (.str "number" t)
  c_sums : TabT K w mg "SUM_WORDS" SUMT
  c_places : TabT K w mg "PLACE_WORDS" PLT
  parts_within : MethT K Cd "parts_within" "Reader.parts_within" m_Reader_parts_within ["self", "word", "kinds", "deep"]
  place_node : MethT K Cd "place_node" "Reader.place_node" m_Reader_place_node ["self", "deep"]
  pair : MethT K Cd "pair" "Reader.pair" m_Reader_pair ["self", "deep"]
  sum_at : MethT K Cd "sum_at" "Reader.sum_at" m_Reader_sum_at ["self", "deep"]
  product : MethT K Cd "product" "Reader.product" m_Reader_product ["self", "deep"]
  factor : MethT K Cd "factor" "Reader.factor" m_Reader_factor ["self", "deep"]
  within : MethT K Cd "within" "Reader.within" m_Reader_within ["self", "deep"]
section
variable {P : Program} {w : World} {K : PySem.W.Frag} {mg : Str → Option Value} {base : Heap} {Ck Cd Cx : Addr} {k : Nat} {d : Int} {lv : Lv}
/-- what holds of a level -/
structure LvP (P : Program) (w : World) (K : PySem.W.Frag) (mg : Str → Option Value) (base : Heap) (Ck Cd Cx : Addr) (k : Nat) (d : Int) (lv : Lv) : Prop where
  fac : Mm (L2N.CX P w) P w K mg base Cd "factor" (k + 2) (M_rd Ck Cx [.int d] dN lv.fac)
  sum : Mm (L2N.CX P w) P w K mg base Cd "sum_at" (k + 4) (M_rd Ck Cx [.int d] dN lv.sum)
  pl : Mm (L2N.CX P w) P w K mg base Cd "place_node" (k + 2) (M_rd Ck Cx [.int d] dN lv.pl)
theorem lv_step (T : PrT K w mg Cd) (M : SmT P w K mg base Ck Cd Cx) (L : LvS lv) (h6 : 6 ≤ k) (h : d < 6 → ∃ j, j + 4 ≤ k ∧ LvP P w K mg base Ck Cd Cx j (d + 1) lv) :
    LvP P w K mg base Ck Cd Cx k d ⟨facM (decide (d < 6)) lv, sumM (prodM (facM (decide (d < 6)) lv)), plM (decide (d < 6)) lv⟩ := by
  have hS : d < 6 → ∃ j, j ≤ k ∧ Mm (L2N.CX P w) P w K mg base Cd "sum_at" j (M_rd Ck Cx [.int (d + 1)] dN lv.sum) := fun z => let ⟨j, hj, x⟩ := h z; ⟨j + 4, hj, x.sum⟩
  have hP : d < 6 → ∃ j, j ≤ k ∧ Mm (L2N.CX P w) P w K mg base Cd "place_node" j (M_rd Ck Cx [.int (d + 1)] dN lv.pl) := fun z => let ⟨j, hj, x⟩ := h z; ⟨j + 2, by omega, x.pl⟩
  have hF : d < 6 → ∃ j, j ≤ k + 1 ∧ Mm (L2N.CX P w) P w K mg base Cd "factor" j (M_rd Ck Cx [.int (d + 1)] dN lv.fac) := fun z => let ⟨j, hj, x⟩ := h z; ⟨j + 2, by omega, x.fac⟩
  have p1 := fun (x ks : Str) (hk : ks.cps.toList.length ≤ 100) => mm_parts (x := x) (ks := ks) T.parts_within M L T.n_enum T.n_tuple h6 hk hS hP
  have p2 := mm_within T.within M L h6 hS
  have p3 := mm_pair T.pair M L h6 hS
  have f := mm_factor T.factor M L (show 6 ≤ k + 1 by omega) T.c_name T.c_number T.c_sums hF p2 p1
  have pr := mm_product T.product M (sfx_fac L _) T.n_len (show 6 ≤ k + 2 by omega) f
  have sm := mm_sum_at T.sum_at M (sfx_prod (sfx_fac L _)) T.n_len (show 6 ≤ k + 3 by omega) pr
  exact ⟨f, sm, mm_place_node T.place_node M L (show 6 ≤ k + 1 by omega) T.c_name T.c_places p3 p1⟩
theorem lv_all (T : PrT K w mg Cd) (M : SmT P w K mg base Ck Cd Cx) : ∀ n : Nat, LvP P w K mg base Ck Cd Cx (4 * n + 6) (6 - (n : Int)) (lvl (n + 1))
  | 0 => by
    have := lv_step (d := 6) (k := 6) T M (lvS 0) (Nat.le_refl _) (fun z => absurd z (by omega))
    exact this
  | n + 1 => by
    have ih := lv_all T M n
    have e : (6 - ((n + 1 : Nat) : Int)) + 1 = 6 - (n : Int) := by omega
    have := lv_step (d := 6 - ((n + 1 : Nat) : Int)) (k := 4 * (n + 1) + 6) T M (lvS (n + 1)) (by omega) (fun _ => ⟨4 * n + 6, by omega, by rw [e]; exact ih⟩)
    have e2 : decide ((6 - ((n + 1 : Nat) : Int)) < 6) = decide (n + 1 ≠ 0) := decide_eq_decide.mpr ⟨fun _ => by omega, fun _ => by omega⟩
    rw [e2] at this
    exact this
/-- at the top of a statement -/
theorem lv_top (T : PrT K w mg Cd) (M : SmT P w K mg base Ck Cd Cx) : LvP P w K mg base Ck Cd Cx 26 1 (lvl 6) := lv_all T M 5
end
end Sd

set_option Elab.async false
set_option linter.all false
set_option maxRecDepth 100000
set_option maxHeartbeats 4000000
set_option exponentiation.threshold 10000
namespace Sd
open PySem PySem.Spec PyProof.Rows L2
section
variable {P : Program} {w : World} {K : PySem.W.Frag} {mg : Str → Option Value} {base : Heap} {Ck Cd Cx : Addr} {k : Nat} {d : Int} {lv : Lv}
/-- a statement as it is read -/
inductive Stt where
  | let_ (n : List Nat) (e : Nd)
  | point (n : List Nat) (e : Nd)
  | piece (n : List Nat) (cs : List (List Nat)) (g h : List Nat)
  | seam (l : List (List Nat))
def dSt : Stt → D
  | .let_ n e => .tup [.str "let", tx n, dN e]
  | .point n e => .tup [.str "point", tx n, dN e]
  | .piece n cs g h => .tup [.str "piece", tx n, .lst (cs.map tx), tx g, tx h]
  | .seam l => .tup [.str "seam", .lst (l.map tx)]
def givenM (ts : List Tk) : Pr (List Nat) := (nameM ts).bind fun n us => (needM "=" us).bind fun _ us => .ok n us
/-- more corners behind so many -/
def cornersM : Nat → List (List Nat) → List Tk → Pr (List (List Nat))
  | 0, _, ts => .bad ts
  | f + 1, acc, ts =>
    if acc.length < 3 then (needM "," ts).bind fun _ us => (nameM us).bind fun n us => cornersM f (acc ++ [n]) us
    else if acc.length < 16 then (comesM "," ts).bind fun b us => if b = true then (needM "," us).bind fun _ us => (nameM us).bind fun n us => cornersM f (acc ++ [n]) us else .ok acc us
    else .ok acc ts
def pieceEnd (n : List Nat) (cs : List (List Nat)) (ts : List Tk) : Pr Stt := (needM ")" ts).bind fun _ us => (needM "grain" us).bind fun _ us => (nameM us).bind fun g us => (nameM us).bind fun h us => .ok (.piece n cs g h) us
def pieceM (ts : List Tk) : Pr Stt := (nameM ts).bind fun n us => (needM "(" us).bind fun _ us => (nameM us).bind fun c us => (cornersM 16 [c] us).bind fun cs us => pieceEnd n cs us
theorem sfx_given : Sfx givenM := fun ts => rest_bind (sfx_name ts) fun _ us _ => rest_bind (sfx_need _ us) fun _ us _ => List.suffix_refl _
theorem sfx_comes (x : Str) : Sfx (comesM x) := fun ts => by
  cases ts <;> exact List.suffix_refl _
theorem sfx_corners : ∀ (f : Nat) (acc : List (List Nat)), Sfx (cornersM f acc)
  | 0, _, ts => List.suffix_refl _
  | f + 1, acc, ts => by
    unfold cornersM
    split
    · exact rest_bind (sfx_need _ ts) fun _ us _ => rest_bind (sfx_name us) fun _ us _ => sfx_corners f _ us
    · split
      · refine rest_bind (sfx_comes _ ts) fun b us _ => ?_
        split
        · exact rest_bind (sfx_need _ us) fun _ us _ => rest_bind (sfx_name us) fun _ us _ => sfx_corners f _ us
        · exact List.suffix_refl _
      · exact List.suffix_refl _
theorem sfx_pieceEnd (n : List Nat) (cs : List (List Nat)) : Sfx (pieceEnd n cs) := fun ts => rest_bind (sfx_need _ ts) fun _ us _ => rest_bind (sfx_need _ us) fun _ us _ => rest_bind (sfx_name us) fun _ us _ => rest_bind (sfx_name us) fun _ us _ => List.suffix_refl _
theorem sfx_piece : Sfx pieceM := fun ts => rest_bind (sfx_name ts) fun _ us _ => rest_bind (sfx_need _ us) fun _ us _ => rest_bind (sfx_name us) fun _ us _ => rest_bind (sfx_corners _ _ us) fun _ us _ => sfx_pieceEnd _ _ us
theorem sc_given_name : FnScope ["self", "found"] ["self"] (defScope m_Reader_given_name) := ⟨rfl, rfl, rfl, by decide +kernel, rfl, by decide +kernel, by decide +kernel⟩
theorem mm_given_name (T : MethT K Cd "given_name" "Reader.given_name" m_Reader_given_name ["self"]) (M : SmT P w K mg base Ck Cd Cx) : Mm (L2N.CX P w) P w K mg base Cd "given_name" 7 (M_rd Ck Cx [] tx givenM) := mmN T fun f fd Fu => by
  have h6 : 6 ≤ 6 := Nat.le_refl 6
  refine mm_intro Fu sc_given_name (fun gs ds gs' r h => ?_) fun cd A outer s H E W a room gs ds gs' r h => ?_
  · obtain ⟨S, ts, _, rfl, rfl, _⟩ := h
    rfl
  · obtain ⟨S, ts, ok, rfl, rfl, rfl, rfl⟩ := h
    generalize hq : givenM ts = q
    unfold givenM at hq
    cases e0 : nameM ts with
    | bad u0 =>
      rw [e0] at hq
      subst hq
      exact ss_cons (sw_set 1 (ew_mmeth0 0 M.own_name (hk := h6) (hi := ⟨_, rfl, rfl⟩) (h := ⟨_, _, _, rfl, rd_bad ok e0, rfl, rfl⟩)))
    | ok x0 u0 =>
      rw [e0] at hq
      replace hq : (needM "=" u0).bind _ = q := hq
      refine ss_cons (sw_set 1 (ew_mmeth0 0 M.own_name (hk := h6) (hi := ⟨_, rfl, rfl⟩) (h := ⟨_, _, _, rfl, rd_ok ok e0, ?_⟩)))
      have ok := ok.of ((sfx_name).at e0)
      cases e1 : needM "=" u0 with
      | bad u1 =>
        rw [e1] at hq
        subst hq
        exact ss_cons (sw_expr (ew_mmeth 0 (M.need "=") (hk := h6) (hi := ⟨_, rfl, rfl⟩) (h := aw_pure (des_cons de_str des_nil) ⟨_, _, _, rfl, rd_bad ok e1, rfl, rfl⟩)))
      | ok x1 u1 =>
        rw [e1] at hq
        replace hq : Pr.ok x0 u1 = q := hq
        refine ss_cons (sw_expr (ew_mmeth 0 (M.need "=") (hk := h6) (hi := ⟨_, rfl, rfl⟩) (h := aw_pure (des_cons de_str des_nil) ⟨_, _, _, rfl, rd_ok ok e1, ?_⟩)))
        have ok := ok.of ((sfx_need _).at e1)
        subst hq
        exact ss_one (sw_retD (de_var 1) ⟨rfl, rfl⟩)
theorem sc_piece : FnScope ["self", "name", "corners", "first"] ["self"] (defScope m_Reader_piece) := ⟨rfl, rfl, rfl, by decide +kernel, rfl, by decide +kernel, by decide +kernel⟩
theorem mm_piece (T : MethT K Cd "piece" "Reader.piece" m_Reader_piece ["self"]) (M : SmT P w K mg base Ck Cd Cx) (hLen : mg "len" = none) (hl : ∃ t, mg "LEAST_CORNERS" = some (.int 3 t)) (hm : ∃ t, mg "MOST_CORNERS" = some (.int 16 t)) : Mm (L2N.CX P w) P w K mg base Cd "piece" 7 (M_rd Ck Cx [] dSt pieceM) := mmN T fun f fd Fu => by
  obtain ⟨t1, hl⟩ := hl
  obtain ⟨t2, hm⟩ := hm
  have h6 : 6 ≤ 6 := Nat.le_refl 6
  have h5 : 5 ≤ 6 := by decide
  refine mm_intro Fu sc_piece (fun gs ds gs' r h => ?_) fun cd A outer s H E W a room gs ds gs' r h => ?_
  · obtain ⟨S, ts, _, rfl, rfl, _⟩ := h
    rfl
  · obtain ⟨S, ts, ok, rfl, rfl, rfl, rfl⟩ := h
    generalize hq : pieceM ts = q
    unfold pieceM at hq
    cases e0 : nameM ts with
    | bad u0 =>
      rw [e0] at hq
      subst hq
      exact ss_cons (sw_set 1 (ew_mmeth0 0 M.own_name (hk := h6) (hi := ⟨_, rfl, rfl⟩) (h := ⟨_, _, _, rfl, rd_bad ok e0, rfl, rfl⟩)))
    | ok x0 u0 =>
      rw [e0] at hq
      replace hq : (needM "(" u0).bind _ = q := hq
      refine ss_cons (sw_set 1 (ew_mmeth0 0 M.own_name (hk := h6) (hi := ⟨_, rfl, rfl⟩) (h := ⟨_, _, _, rfl, rd_ok ok e0, ?_⟩)))
      have ok := ok.of ((sfx_name).at e0)
      cases e1 : needM "(" u0 with
      | bad u1 =>
        rw [e1] at hq
        subst hq
        exact ss_cons (sw_expr (ew_mmeth 0 (M.need "(") (hk := h6) (hi := ⟨_, rfl, rfl⟩) (h := aw_pure (des_cons de_str des_nil) ⟨_, _, _, rfl, rd_bad ok e1, rfl, rfl⟩)))
      | ok x1 u1 =>
        rw [e1] at hq
        replace hq : (nameM u1).bind _ = q := hq
        refine ss_cons (sw_expr (ew_mmeth 0 (M.need "(") (hk := h6) (hi := ⟨_, rfl, rfl⟩) (h := aw_pure (des_cons de_str des_nil) ⟨_, _, _, rfl, rd_ok ok e1, ?_⟩)))
        have ok := ok.of ((sfx_need _).at e1)
        cases e2 : nameM u1 with
        | bad u2 =>
          rw [e2] at hq
          subst hq
          exact ss_cons (sw_own 2 (aw_cons (ew_mmeth0 0 M.own_name (hk := h6) (hi := ⟨_, rfl, rfl⟩) (h := ⟨_, _, _, rfl, rd_bad ok e2, rfl, rfl⟩))))
        | ok x2 u2 =>
          rw [e2] at hq
          replace hq : _ = q := hq
          refine ss_cons (sw_own 2 (aw_cons (ew_mmeth0 0 M.own_name (hk := h6) (hi := ⟨_, rfl, rfl⟩) (h := ⟨_, _, _, rfl, rd_ok ok e2, ?_⟩))))
          have ok := ok.of ((sfx_name).at e2)
          refine aw_nil ⟨Nat.le_of_ble_eq_true rfl, rfl, ?_⟩
          clear e0 e1 e2
          generalize x0 = nm at hq ⊢
          refine ss_cons (sw_while (fun m Γ => (∃ (g : Nat) (acc : List (List Nat)) (us : List Tk), acc.length + g = 17 ∧ 1 ≤ acc.length ∧ acc.length ≤ 16 ∧ RdOk S us ∧ (cornersM g acc us).bind (fun cs us => pieceEnd nm cs us) = q ∧ m = g ∧ Γ = [some (.mu a Cd (rdG Ck S us)), some (.im (tx nm)), some (.ow (acc.map tx)), none])) ?_ ?_)
          · exact ⟨_, 16, [x2], u2, rfl, Nat.le_refl 1, Nat.le_of_ble_eq_true rfl, ok, hq, rfl, rfl⟩
          · clear hq ok
            rintro m Γ1 ⟨g, acc, us, hg, h1, hle, ok, hq, rfl, rfl⟩
            have lt : ∀ n : Nat, decide (((acc.map tx).length : Int) < (n : Int)) = decide (acc.length < n) := fun n => by rw [List.length_map]; exact decide_eq_decide.mpr ⟨fun h => by omega, fun h => by omega⟩
            have body : ∀ (Pq : Post) us, RdOk S us → acc.length < 16 → ((needM "," us).bind fun _ us => (nameM us).bind fun n us => cornersM (m - 1) (acc ++ [n]) us).bind (fun cs us => pieceEnd nm cs us) = q → (∀ Γ, (∃ m', m' < m ∧ (∃ (g : Nat) (acc : List (List Nat)) (us : List Tk), acc.length + g = 17 ∧ 1 ≤ acc.length ∧ acc.length ≤ 16 ∧ RdOk S us ∧ (cornersM g acc us).bind (fun cs us => pieceEnd nm cs us) = q ∧ m' = g ∧ Γ = [some (.mu a Cd (rdG Ck S us)), some (.im (tx nm)), some (.ow (acc.map tx)), none])) → Pq.nx Γ) → (∀ C gs Γ, (postM a Cd (rdG Ck S q.rest) (q.res S Cx dSt)).ex C gs Γ → Pq.ex C gs Γ) →
                SsW (bxN P w K mg base ["self", "name", "corners", "first"] "Reader.piece" (defScope m_Reader_piece) f cd A outer s H E 6 W (fun b => b = a) room sc_piece.nd) ((defBody m_Reader_piece).getD 3 (.Pass ⟨0, 0, 0, 0⟩) |> fun s => match s with | .While _ b _ _ => b | _ => []) [some (.mu a Cd (rdG Ck S us)), some (.im (tx nm)), some (.ow (acc.map tx)), none] Pq := fun Pq us ok hlt hq hnx hxx => by
              cases e : needM "," us with
              | bad vs =>
                rw [e] at hq
                subst hq
                exact ss_cons (sw_expr (ew_mmeth 0 (M.need ",") (hk := h6) (hi := ⟨_, rfl, rfl⟩) (h := aw_pure (des_cons de_str des_nil) ⟨_, _, _, rfl, rd_bad ok e, hxx _ _ _ ⟨rfl, rfl⟩⟩)))
              | ok x vs =>
                rw [e] at hq
                replace hq : ((nameM vs).bind _).bind _ = q := hq
                refine ss_cons (sw_expr (ew_mmeth 0 (M.need ",") (hk := h6) (hi := ⟨_, rfl, rfl⟩) (h := aw_pure (des_cons de_str des_nil) ⟨_, _, _, rfl, rd_ok ok e, ?_⟩)))
                have ok := ok.of ((sfx_need _).at e)
                cases e2 : nameM vs with
                | bad ws =>
                  rw [e2] at hq
                  subst hq
                  exact ss_one (sw_app 2 ⟨_, rfl⟩ (ew_mmeth0 0 M.own_name (hk := h6) (hi := ⟨_, rfl, rfl⟩) (h := ⟨_, _, _, rfl, rd_bad ok e2, hxx _ _ _ ⟨rfl, rfl⟩⟩)))
                | ok n ws =>
                  rw [e2] at hq
                  refine ss_one (sw_app 2 ⟨_, rfl⟩ (ew_mmeth0 0 M.own_name (hk := h6) (hi := ⟨_, rfl, rfl⟩) (h := ⟨_, _, _, rfl, rd_ok ok e2, ?_⟩)))
                  refine ⟨_, rfl, by rw [List.length_map]; omega, hnx _ ⟨m - 1, by omega, m - 1, acc ++ [n], ws, by rw [List.length_append, List.length_cons, List.length_nil]; omega, by rw [List.length_append]; omega, by rw [List.length_append, List.length_cons, List.length_nil]; omega, ok.of (sfx_name.at e2), hq, rfl, ?_⟩⟩
                  rw [List.map_append]
                  rfl
            have out : RdOk S us → pieceEnd nm acc us = q → SsW (bxN P w K mg base ["self", "name", "corners", "first"] "Reader.piece" (defScope m_Reader_piece) f cd A outer s H E 6 W (fun b => b = a) room sc_piece.nd) ((defBody m_Reader_piece).drop 4) [some (.mu a Cd (rdG Ck S us)), some (.im (tx nm)), some (.ow (acc.map tx)), none] (postM a Cd (rdG Ck S q.rest) (q.res S Cx dSt)) := fun ok hq => by
              unfold pieceEnd at hq
              cases e0 : needM ")" us with
              | bad u0 =>
                rw [e0] at hq
                subst hq
                exact ss_cons (sw_expr (ew_mmeth 0 (M.need ")") (hk := h6) (hi := ⟨_, rfl, rfl⟩) (h := aw_pure (des_cons de_str des_nil) ⟨_, _, _, rfl, rd_bad ok e0, rfl, rfl⟩)))
              | ok x0 u0 =>
                rw [e0] at hq
                replace hq : (needM "grain" u0).bind _ = q := hq
                refine ss_cons (sw_expr (ew_mmeth 0 (M.need ")") (hk := h6) (hi := ⟨_, rfl, rfl⟩) (h := aw_pure (des_cons de_str des_nil) ⟨_, _, _, rfl, rd_ok ok e0, ?_⟩)))
                have ok := ok.of ((sfx_need _).at e0)
                cases e1 : needM "grain" u0 with
                | bad u1 =>
                  rw [e1] at hq
                  subst hq
                  exact ss_cons (sw_expr (ew_mmeth 0 (M.need "grain") (hk := h6) (hi := ⟨_, rfl, rfl⟩) (h := aw_pure (des_cons de_str des_nil) ⟨_, _, _, rfl, rd_bad ok e1, rfl, rfl⟩)))
                | ok x1 u1 =>
                  rw [e1] at hq
                  replace hq : (nameM u1).bind _ = q := hq
                  refine ss_cons (sw_expr (ew_mmeth 0 (M.need "grain") (hk := h6) (hi := ⟨_, rfl, rfl⟩) (h := aw_pure (des_cons de_str des_nil) ⟨_, _, _, rfl, rd_ok ok e1, ?_⟩)))
                  have ok := ok.of ((sfx_need _).at e1)
                  cases e2 : nameM u1 with
                  | bad u2 =>
                    rw [e2] at hq
                    subst hq
                    exact ss_cons (sw_set 3 (ew_mmeth0 0 M.own_name (hk := h6) (hi := ⟨_, rfl, rfl⟩) (h := ⟨_, _, _, rfl, rd_bad ok e2, rfl, rfl⟩)))
                  | ok x2 u2 =>
                    rw [e2] at hq
                    replace hq : (nameM u2).bind _ = q := hq
                    refine ss_cons (sw_set 3 (ew_mmeth0 0 M.own_name (hk := h6) (hi := ⟨_, rfl, rfl⟩) (h := ⟨_, _, _, rfl, rd_ok ok e2, ?_⟩)))
                    have ok := ok.of ((sfx_name).at e2)
                    cases e5 : nameM u2 with
                    | bad u3 =>
                      rw [e5] at hq
                      subst hq
                      exact ss_freeze 2 rfl (ss_one (sw_ret (ew_tup (aw_cons (ew_pure de_str (aw_cons (ew_pure (de_var 1) (aw_cons (ew_pure (de_var 2) (aw_cons (ew_pure (de_var 3) (aw_cons (ew_mmeth0 0 M.own_name (hk := h6) (hi := ⟨_, rfl, rfl⟩) (h := ⟨_, _, _, rfl, rd_bad ok e5, rfl, rfl⟩))))))))))))))
                    | ok x3 u3 =>
                      rw [e5] at hq
                      replace hq : Pr.ok (Stt.piece nm acc x2 x3) u3 = q := hq
                      subst hq
                      exact ss_freeze 2 rfl (ss_one (sw_ret (ew_tup (aw_cons (ew_pure de_str (aw_cons (ew_pure (de_var 1) (aw_cons (ew_pure (de_var 2) (aw_cons (ew_pure (de_var 3) (aw_cons (ew_mmeth0 0 M.own_name (hk := h6) (hi := ⟨_, rfl, rfl⟩) (h := ⟨_, _, _, rfl, rd_ok ok e5, aw_nil ⟨rfl, rfl⟩⟩))))))))))))))
            obtain ⟨m, rfl⟩ : ∃ g, m = g + 1 := ⟨m - 1, by omega⟩
            unfold cornersM at hq
            by_cases h3 : acc.length < 3
            · rw [if_pos h3] at hq
              exact tw_chain (ww_or (tw_pure (td_is (td_cmp (de_olen 2 rfl hLen) (de_gint hl) od_lt) ((lt 3).trans (decide_eq_true h3))) ⟨fun _ => ⟨fun _ => body _ us ok (by omega) hq (fun _ h => h) (fun _ _ _ h => h), fun z => nomatch z⟩, fun z => nomatch z⟩))
            rw [if_neg h3] at hq
            by_cases h16 : acc.length < 16
            · rw [if_pos h16] at hq
              cases us with
              | nil =>
                replace hq : Pr.bad [] = q := hq
                subst hq
                exact tw_chain (ww_or (tw_pure (td_is (td_cmp (de_olen 2 rfl hLen) (de_gint hl) od_lt) ((lt 3).trans (decide_eq_false h3))) ⟨(fun z => nomatch z), fun _ => ww_or1 (tw_chain (ww_and (tw_pure (td_is (td_cmp (de_olen 2 rfl hLen) (de_gint hm) od_lt) ((lt 16).trans (decide_eq_true h16))) ⟨fun _ => ww_and1 (tw_val (ew_mmeth 0 (M.comes ",") (hk := h5) (hi := ⟨_, rfl, rfl⟩) (h := aw_pure (des_cons de_str des_nil) ⟨_, _, _, rfl, rd_bad (us := []) ok rfl, rfl, rfl⟩))), fun z => nomatch z⟩)))⟩))
              | cons t r =>
                replace hq : (if saysN t "," = true then (needM "," (t :: r)).bind fun _ us => (nameM us).bind fun n us => cornersM m (acc ++ [n]) us else .ok acc (t :: r)).bind _ = q := hq
                refine tw_chain (ww_or (tw_pure (td_is (td_cmp (de_olen 2 rfl hLen) (de_gint hl) od_lt) ((lt 3).trans (decide_eq_false h3))) ⟨(fun z => nomatch z), fun _ => ww_or1 (tw_chain (ww_and (tw_pure (td_is (td_cmp (de_olen 2 rfl hLen) (de_gint hm) od_lt) ((lt 16).trans (decide_eq_true h16))) ⟨fun _ => ww_and1 (tw_val (ew_mmeth 0 (M.comes ",") (hk := h5) (hi := ⟨_, rfl, rfl⟩) (h := aw_pure (des_cons de_str des_nil) ⟨_, _, _, rfl, rd_ok (us := t :: r) (a := saysN t ",") ok rfl, saysN t ",", rfl, ?_⟩))), fun z => nomatch z⟩)))⟩))
                refine ⟨fun z => ?_, fun z => ?_⟩
                · rw [if_pos z] at hq
                  exact body _ (t :: r) ok h16 hq (fun _ h => h) (fun _ _ _ h => h)
                · rw [if_neg (by rw [z]; exact Bool.false_ne_true)] at hq
                  exact out ok hq
            rw [if_neg h16] at hq
            exact tw_chain (ww_or (tw_pure (td_is (td_cmp (de_olen 2 rfl hLen) (de_gint hl) od_lt) ((lt 3).trans (decide_eq_false h3))) ⟨(fun z => nomatch z), fun _ => ww_or1 (tw_chain (ww_and (tw_pure (td_is (td_cmp (de_olen 2 rfl hLen) (de_gint hm) od_lt) ((lt 16).trans (decide_eq_false h16))) ⟨(fun z => nomatch z), fun _ => ⟨(fun z => nomatch z), fun _ => out ok hq⟩⟩)))⟩))
end
end Sd

set_option Elab.async false
set_option linter.all false
set_option maxRecDepth 100000
set_option maxHeartbeats 4000000
set_option exponentiation.threshold 10000
namespace Sd
open PySem PySem.Spec PyProof.Rows L2
/-- the reader of a text -/
def rsOf (l : List Nat) : RdS := match (lexN (l.length + 1) 0 l).2 with
  | none => ⟨(lexN (l.length + 1) 0 l).1, l.length, 2⟩
  | some p => ⟨(lexN (l.length + 1) 0 l).1, p, 1⟩
theorem rsOf_toks (l : List Nat) : (rsOf l).toks = (lexN (l.length + 1) 0 l).1 := by
  unfold rsOf
  split <;> rfl
theorem rsOf_ok {l : List Nat} (h : l.length ≤ 4200) : RdOk (rsOf l) (rsOf l).toks := by
  obtain ⟨a, _, c⟩ := tk_place (f := l.length + 1) (p := 0) (l := l)
  refine ⟨List.suffix_refl _, ?_, fun t ht => ?_⟩
  · rw [rsOf_toks]
    omega
  · rw [rsOf_toks] at ht
    have := (a t ht).1
    omega
section
variable {P : Program} {w : World} {K : PySem.W.Frag} {mg : Str → Option Value} {base : Heap} {Ck Cd Cx : Addr}
def M_rinit (Ck : Addr) : MS := fun gs ds gs' r => ∃ l : List Nat, gs = [] ∧ ds = [tx l] ∧ l.length ≤ 4200 ∧ gs' = rdG Ck (rsOf l) (rsOf l).toks ∧ r = .ret .non
theorem sc_rinit : FnScope ["self", "text", "lexical"] ["self", "text"] (defScope m_Reader_init) := ⟨rfl, rfl, rfl, by decide +kernel, rfl, by decide +kernel, by decide +kernel⟩
theorem mi_reader (T : InitT K mg "Reader" Cd "Reader.__init__" m_Reader_init ["self", "text"]) (C : RdT K Cd) (hLen : mg "len" = none) (hN : ∃ t, mg "NO_DRAFT_grammar" = some (.int 2 t)) (hX : ∃ t, mg "LEXICAL" = some (.int 1 t)) (hT : FnN P w K mg base "tokens_of" 4 (F_tokens_of Ck)) :
    Mi (L2N.CX P w) P w K mg base "Reader" Cd 5 (M_rinit Ck) := by
  obtain ⟨f, fd, Fu, mk, hm, hb⟩ := T
  obtain ⟨t1, hN⟩ := hN
  obtain ⟨t2, hX⟩ := hX
  refine ⟨f, fd, _, ?_, mk, hm, hb⟩
  refine mm_intro Fu sc_rinit (fun gs ds gs' r h => ?_) fun cd A outer s H E W a room gs ds gs' r h => ?_
  · obtain ⟨l, rfl, rfl, _⟩ := h
    rfl
  · obtain ⟨l, rfl, rfl, hl, rfl, rfl⟩ := h
    have sz : (S l).length ≤ sizeLine := by rw [S_len, sizeLine_eq]; omega
    have z0 : ((rsOf l).toks.length - (rsOf l).toks.length : Nat) = 0 := Nat.sub_self _
    show SsW _ _ _ (postM a Cd [("tokens", .lst ((rsOf l).toks.map (tkD Ck))), ("at", .int (((rsOf l).toks.length - (rsOf l).toks.length : Nat) : Int)), ("end_place", .int ((rsOf l).ep : Int)), ("end_kind", .int ((rsOf l).ek : Int))] (.ret .non))
    rw [z0]
    unfold rsOf
    refine ss_cons (sw_unpF (C := Cd) 0 2 (ew_pure (de_call hT (des_cons (de_var 1) des_nil) ⟨l, rfl, hl, rfl⟩) ⟨_, _, a, [], rfl, rfl, Nat.le_of_ble_eq_true rfl, ?_⟩) C.cl C.nt)
    refine ss_cons (sw_fld 0 (ew_pure de_int ⟨_, rfl, Nat.le_of_ble_eq_true rfl, ?_⟩) C.cl C.na)
    generalize lexN (l.length + 1) 0 l = z
    obtain ⟨tks, o⟩ := z
    cases o with
    | none =>
      refine ss_cons (sw_fld 0 (ew_if (tw_pure (k := true) (td_cmp (de_var 2) de_non od_isN) ⟨fun _ => ew_pure (de_bi hLen (des_cons (de_var 1) des_nil) (cd_lenS sz)) ⟨_, rfl, Nat.le_of_ble_eq_true rfl, ?_⟩, fun z => nomatch z⟩)) C.cl C.np)
      refine ss_one (sw_fld 0 (ew_if (tw_pure (k := true) (td_cmp (de_var 2) de_non od_isN) ⟨fun _ => ew_pure (de_gint hN) ⟨_, rfl, Nat.le_of_ble_eq_true rfl, ?_⟩, fun z => nomatch z⟩)) C.cl C.nk)
      rw [S_len]
      exact ⟨rfl, rfl⟩
    | some p =>
      refine ss_cons (sw_fld 0 (ew_if (tw_pure (k := false) (td_cmp (de_var 2) de_non od_isN) ⟨(fun z => nomatch z), fun _ => ew_pure (de_var 2) ⟨_, rfl, Nat.le_of_ble_eq_true rfl, ?_⟩⟩)) C.cl C.np)
      refine ss_one (sw_fld 0 (ew_if (tw_pure (k := false) (td_cmp (de_var 2) de_non od_isN) ⟨(fun z => nomatch z), fun _ => ew_pure (de_gint hX) ⟨_, rfl, Nat.le_of_ble_eq_true rfl, ?_⟩⟩)) C.cl C.nk)
      exact ⟨rfl, rfl⟩
end
end Sd

set_option Elab.async false
set_option linter.all false
set_option maxRecDepth 100000
set_option maxHeartbeats 4000000
set_option exponentiation.threshold 10000
namespace Sd
open PySem PySem.Spec PyProof.Rows L2
def names3 (ts : List Tk) : Pr (List (List Nat)) := (nameM ts).bind fun a us => (nameM us).bind fun b us => (nameM us).bind fun c us => .ok [a, b, c] us
def seamM (ts : List Tk) : Pr Stt := (names3 ts).bind fun a us => (needM "," us).bind fun _ us => (names3 us).bind fun b us => .ok (.seam (a ++ b)) us
def stEnd (st : Stt) (ts : List Tk) : Pr Stt := (needM ";" ts).bind fun _ us => .ok st us
def stM : List Tk → Pr Stt
  | [] => .bad []
  | t :: r => if (saysN t "let" || (saysN t "point" || (saysN t "piece" || saysN t "seam"))) = true then
      (if Sd.S t.text = "let" then (givenM r).bind fun n us => ((lvl 6).sum us).bind fun e us => stEnd (.let_ n e) us
      else if Sd.S t.text = "point" then (givenM r).bind fun n us => ((lvl 6).pl us).bind fun e us => stEnd (.point n e) us
      else if Sd.S t.text = "piece" then (pieceM r).bind fun s us => stEnd s us
      else (seamM r).bind fun s us => stEnd s us)
    else .bad (t :: r)
theorem sfx_names3 : Sfx names3 := fun ts => rest_bind (sfx_name ts) fun _ us _ => rest_bind (sfx_name us) fun _ us _ => rest_bind (sfx_name us) fun _ us _ => List.suffix_refl _
theorem sfx_seam : Sfx seamM := fun ts => rest_bind (sfx_names3 ts) fun _ us _ => rest_bind (sfx_need _ us) fun _ us _ => rest_bind (sfx_names3 us) fun _ us _ => List.suffix_refl _
theorem sfx_stEnd (st : Stt) : Sfx (stEnd st) := fun ts => rest_bind (sfx_need _ ts) fun _ us _ => List.suffix_refl _
theorem sfx_st : Sfx stM := fun ts => by
  cases ts with
  | nil => exact List.suffix_refl _
  | cons t r =>
    unfold stM
    dsimp only
    have c := List.suffix_cons t r
    split
    · split
      · exact (rest_bind (sfx_given r) fun _ us _ => rest_bind ((lvS 6).sum us) fun _ us _ => sfx_stEnd _ us).trans c
      · split
        · exact (rest_bind (sfx_given r) fun _ us _ => rest_bind ((lvS 6).pl us) fun _ us _ => sfx_stEnd _ us).trans c
        · split
          · exact (rest_bind (sfx_piece r) fun _ us _ => sfx_stEnd _ us).trans c
          · exact (rest_bind (sfx_seam r) fun _ us _ => sfx_stEnd _ us).trans c
    · exact List.suffix_refl _
section
variable {P : Program} {w : World} {K : PySem.W.Frag} {mg : Str → Option Value} {base : Heap} {Ck Cd Cx : Addr}
theorem sc_one : FnScope ["self", "word", "name", "found"] ["self"] (defScope m_Reader_one_statement) := ⟨rfl, rfl, rfl, by decide +kernel, rfl, by decide +kernel, by decide +kernel⟩
theorem mm_one (T : MethT K Cd "one_statement" "Reader.one_statement" m_Reader_one_statement ["self"]) (M : SmT P w K mg base Ck Cd Cx) (V : LvP P w K mg base Ck Cd Cx 26 1 (lvl 6)) (hG : Mm (L2N.CX P w) P w K mg base Cd "given_name" 7 (M_rd Ck Cx [] tx givenM))
    (hP : Mm (L2N.CX P w) P w K mg base Cd "piece" 7 (M_rd Ck Cx [] dSt pieceM)) (hS : Mm (L2N.CX P w) P w K mg base Cd "seam" 7 (M_rd Ck Cx [] dSt seamM)) : Mm (L2N.CX P w) P w K mg base Cd "one_statement" 31 (M_rd Ck Cx [] dSt stM) := mmN T fun f fd Fu => by
  refine mm_intro Fu sc_one (fun gs ds gs' r h => ?_) fun cd A outer s H E W a room gs ds gs' r h => ?_
  · obtain ⟨S, ts, _, rfl, rfl, _⟩ := h
    rfl
  · obtain ⟨S, ts, ok, rfl, rfl, rfl, rfl⟩ := h
    generalize hq : stM ts = q
    cases ts with
    | nil =>
      replace hq : Pr.bad [] = q := hq
      subst hq
      exact ss_cons (sw_set 1 (ew_mmeth0 0 M.here (hi := ⟨_, rfl, rfl⟩) (h := ⟨_, _, _, rfl, rd_bad (us := []) ok rfl, rfl, rfl⟩)))
    | cons t r =>
      have hr : RdOk S r := ok.of (List.suffix_cons t r)
      unfold stM at hq
      dsimp only at hq
      refine ss_cons (sw_set 1 (ew_mmeth0 0 M.here (hi := ⟨_, rfl, rfl⟩) (h := ⟨_, _, _, rfl, rd_ok (us := t :: r) (a := t) ok rfl, ?_⟩)))
      cases e : (saysN t "let" || (saysN t "point" || (saysN t "piece" || saysN t "seam"))) with
      | false =>
        rw [e, if_neg Bool.false_ne_true] at hq
        subst hq
        exact ss_cons (sw_expr (ew_mmeth 0 (M.allow false) (hi := ⟨_, rfl, rfl⟩) (h := aw_pure (des_cons (de_is (de_or (de_meth M.says (de_var 1) rfl (des_cons de_str des_nil) ⟨t, _, rfl, rfl⟩) fun _ => de_or (de_meth M.says (de_var 1) rfl (des_cons de_str des_nil) ⟨t, _, rfl, rfl⟩) fun _ => de_or (de_meth M.says (de_var 1) rfl (des_cons de_str des_nil) ⟨t, _, rfl, rfl⟩) fun _ => de_one (de_meth M.says (de_var 1) rfl (des_cons de_str des_nil) ⟨t, _, rfl, rfl⟩)) (congrArg D.bl e)) des_nil) ⟨_, _, _, rfl, rd_bad (us := t :: r) ok rfl, rfl, rfl⟩)))
      | true =>
      rw [e, if_pos rfl] at hq
      refine ss_cons (sw_expr (ew_mmeth 0 (M.allow true) (hi := ⟨_, rfl, rfl⟩) (h := aw_pure (des_cons (de_is (de_or (de_meth M.says (de_var 1) rfl (des_cons de_str des_nil) ⟨t, _, rfl, rfl⟩) fun _ => de_or (de_meth M.says (de_var 1) rfl (des_cons de_str des_nil) ⟨t, _, rfl, rfl⟩) fun _ => de_or (de_meth M.says (de_var 1) rfl (des_cons de_str des_nil) ⟨t, _, rfl, rfl⟩) fun _ => de_one (de_meth M.says (de_var 1) rfl (des_cons de_str des_nil) ⟨t, _, rfl, rfl⟩)) (congrArg D.bl e)) des_nil) ⟨_, _, _, rfl, rd_ok (us := t :: r) ok rfl, ?_⟩)))
      refine ss_cons (sw_expr (ew_mmeth0 0 M.take (hi := ⟨_, rfl, rfl⟩) (h := ⟨_, _, _, rfl, rd_ok (us := r) (a := t.text) ok rfl, ?_⟩)))
      have tail : ∀ (st : Stt) (us : List Tk) (o : Option Sl), RdOk S us → stEnd st us = q → SsW (bxN P w K mg base ["self", "word", "name", "found"] "Reader.one_statement" (defScope m_Reader_one_statement) f cd A outer s H E 30 W (fun b => b = a) room sc_one.nd) ((defBody m_Reader_one_statement).drop 4)
          [some (.mu a Cd (rdG Ck S us)), some (.im (tkD Ck t)), o, some (.im (dSt st))] (postM a Cd (rdG Ck S q.rest) (q.res S Cx dSt)) := fun st us o ok hq => by
        unfold stEnd at hq
        cases e4 : needM ";" us with
        | bad zs =>
          rw [e4] at hq
          subst hq
          exact ss_cons (sw_expr (ew_mmeth 0 (M.need ";") (hi := ⟨_, rfl, rfl⟩) (h := aw_pure (des_cons de_str des_nil) ⟨_, _, _, rfl, rd_bad ok e4, rfl, rfl⟩)))
        | ok x zs =>
          rw [e4] at hq
          replace hq : Pr.ok st zs = q := hq
          subst hq
          refine ss_cons (sw_expr (ew_mmeth 0 (M.need ";") (hi := ⟨_, rfl, rfl⟩) (h := aw_pure (des_cons de_str des_nil) ⟨_, _, _, rfl, rd_ok ok e4, ?_⟩)))
          exact ss_one (sw_retD (de_var 3) ⟨rfl, rfl⟩)
      refine ss_cons (sw_ifD (td_cmp (de_fld (de_var 1) M.tk.cl M.tk.nt rfl) de_str od_eqS) (fun z => ?_) fun z => ?_)
      · rw [if_pos (of_decide_eq_true z)] at hq
        cases e1 : givenM r with
        | bad us =>
          rw [e1] at hq
          subst hq
          exact ss_cons (sw_set 2 (ew_mmeth0 0 hG (hi := ⟨_, rfl, rfl⟩) (h := ⟨_, _, _, rfl, rd_bad hr e1, rfl, rfl⟩)))
        | ok n us =>
          rw [e1] at hq
          replace hq : ((lvl 6).sum us).bind _ = q := hq
          refine ss_cons (sw_set 2 (ew_mmeth0 0 hG (hi := ⟨_, rfl, rfl⟩) (h := ⟨_, _, _, rfl, rd_ok hr e1, ?_⟩)))
          have ok := hr.of (sfx_given.at e1)
          cases e2 : (lvl 6).sum us with
          | bad vs =>
            rw [e2] at hq
            subst hq
            exact ss_one (sw_set 3 (ew_tup (aw_cons (ew_pure de_str (aw_cons (ew_pure (de_var 2) (aw_cons (ew_mmeth 0 V.sum (hi := ⟨_, rfl, rfl⟩) (h := aw_pure (des_cons de_int des_nil) ⟨_, _, _, rfl, rd_bad ok e2, rfl, rfl⟩)))))))))
          | ok y vs =>
            rw [e2] at hq
            exact ss_one (sw_set 3 (ew_tup (aw_cons (ew_pure de_str (aw_cons (ew_pure (de_var 2) (aw_cons (ew_mmeth 0 V.sum (hi := ⟨_, rfl, rfl⟩) (h := aw_pure (des_cons de_int des_nil) ⟨_, _, _, rfl, rd_ok ok e2, aw_nil (tail (.let_ n y) vs _ (ok.of ((lvS 6).sum.at e2)) hq)⟩)))))))))
      rw [if_neg (of_decide_eq_false z)] at hq
      refine ss_one (sw_ifD (td_cmp (de_fld (de_var 1) M.tk.cl M.tk.nt rfl) de_str od_eqS) (fun z => ?_) fun z => ?_)
      · rw [if_pos (of_decide_eq_true z)] at hq
        cases e1 : givenM r with
        | bad us =>
          rw [e1] at hq
          subst hq
          exact ss_cons (sw_set 2 (ew_mmeth0 0 hG (hi := ⟨_, rfl, rfl⟩) (h := ⟨_, _, _, rfl, rd_bad hr e1, rfl, rfl⟩)))
        | ok n us =>
          rw [e1] at hq
          replace hq : ((lvl 6).pl us).bind _ = q := hq
          refine ss_cons (sw_set 2 (ew_mmeth0 0 hG (hi := ⟨_, rfl, rfl⟩) (h := ⟨_, _, _, rfl, rd_ok hr e1, ?_⟩)))
          have ok := hr.of (sfx_given.at e1)
          cases e2 : (lvl 6).pl us with
          | bad vs =>
            rw [e2] at hq
            subst hq
            exact ss_one (sw_set 3 (ew_tup (aw_cons (ew_pure de_str (aw_cons (ew_pure (de_var 2) (aw_cons (ew_mmeth 0 V.pl (hi := ⟨_, rfl, rfl⟩) (h := aw_pure (des_cons de_int des_nil) ⟨_, _, _, rfl, rd_bad ok e2, rfl, rfl⟩)))))))))
          | ok y vs =>
            rw [e2] at hq
            exact ss_one (sw_set 3 (ew_tup (aw_cons (ew_pure de_str (aw_cons (ew_pure (de_var 2) (aw_cons (ew_mmeth 0 V.pl (hi := ⟨_, rfl, rfl⟩) (h := aw_pure (des_cons de_int des_nil) ⟨_, _, _, rfl, rd_ok ok e2, aw_nil (tail (.point n y) vs _ (ok.of ((lvS 6).pl.at e2)) hq)⟩)))))))))
      rw [if_neg (of_decide_eq_false z)] at hq
      cases z3 : decide (Sd.S t.text = ("piece" : Str)) with
      | true =>
        rw [if_pos (of_decide_eq_true z3)] at hq
        cases e2 : pieceM r with
        | bad vs =>
          rw [e2] at hq
          subst hq
          exact ss_one (sw_set 3 (ew_if (tw_pure (td_is (td_cmp (de_fld (de_var 1) M.tk.cl M.tk.nt rfl) de_str od_eqS) z3) ⟨fun _ => ew_mmeth0 0 hP (hi := ⟨_, rfl, rfl⟩) (h := ⟨_, _, _, rfl, rd_bad hr e2, rfl, rfl⟩), fun z => nomatch z⟩)))
        | ok y vs =>
          rw [e2] at hq
          exact ss_one (sw_set 3 (ew_if (tw_pure (td_is (td_cmp (de_fld (de_var 1) M.tk.cl M.tk.nt rfl) de_str od_eqS) z3) ⟨fun _ => ew_mmeth0 0 hP (hi := ⟨_, rfl, rfl⟩) (h := ⟨_, _, _, rfl, rd_ok hr e2, tail y vs _ (hr.of (sfx_piece.at e2)) hq⟩), fun z => nomatch z⟩)))
      | false =>
        rw [if_neg (of_decide_eq_false z3)] at hq
        cases e2 : seamM r with
        | bad vs =>
          rw [e2] at hq
          subst hq
          exact ss_one (sw_set 3 (ew_if (tw_pure (td_is (td_cmp (de_fld (de_var 1) M.tk.cl M.tk.nt rfl) de_str od_eqS) z3) ⟨(fun z => nomatch z), fun _ => ew_mmeth0 0 hS (hi := ⟨_, rfl, rfl⟩) (h := ⟨_, _, _, rfl, rd_bad hr e2, rfl, rfl⟩)⟩)))
        | ok y vs =>
          rw [e2] at hq
          exact ss_one (sw_set 3 (ew_if (tw_pure (td_is (td_cmp (de_fld (de_var 1) M.tk.cl M.tk.nt rfl) de_str od_eqS) z3) ⟨(fun z => nomatch z), fun _ => ew_mmeth0 0 hS (hi := ⟨_, rfl, rfl⟩) (h := ⟨_, _, _, rfl, rd_ok hr e2, tail y vs _ (hr.of (sfx_seam.at e2)) hq⟩)⟩)))
end
end Sd

set_option exponentiation.threshold 256
set_option Elab.async false
set_option linter.all false
set_option maxRecDepth 100000
set_option maxHeartbeats 4000000
namespace Sd
open PySem PySem.Spec PyProof.Rows L2
/-! ## name = C(..), the new object one's own -/
theorem sw_newM {B : Bx} {e : Expr} {es : List Expr} {Γ : Env} {P : Post} {C : Addr} {n y : Str} {k : Nat} {M : MS} {p p' p2 pos : Pos} (i : Nat) (G : Mi B.cx B.X.prog B.X.w B.X.K B.X.mg B.X.base y C k M) (h : AW B (e :: es) Γ (fun ds Γ1 => ∃ gs, M [] ds gs (.ret .non) ∧ i < Γ1.length ∧ noG Γ1 = true ∧ ∀ r, P.nx (Γ1.set i (some (.mu r C gs)))) P.ex)
    (hk : k + 1 ≤ B.k := by exact Nat.le_of_ble_eq_true rfl) (hh : B.hot = false := by rfl) (hN : B.X.N[i]? = some n := by rfl) (hx : Loc B.X.env.scope n := by first | exact Or.inl rfl | exact Or.inr rfl) (hs : swapsWith (.Call (.Name y p) (e :: es) [] pos) (some (.Name n p')) p2.line B.X.env = pure false := by rfl) (hg : Gl B.X y := by rfl) (hdb : (y == ("__debug__" : Str)) = false := by decide)
    (he : starEach (e :: es) B.X.env = (false, eval e B.X.env) :: starEach es B.X.env := by rfl) (hpl : (backTo pos (starEach es B.X.env)).any (·.1) = false := by rfl)
    (hf : B.X.fn n = true ∨ B.X.env.scope.names.lookup n = some .local := by first | exact .inl rfl | exact .inr rfl) : SW B (.Assign [.Name n p'] (.Call (.Name y p) (e :: es) [] pos) p2) Γ P := fun T σ H D s r0 => by
  obtain ⟨f, fd, ps, ok, M1, hm, hb⟩ := G
  refine SemS.of (ps_set B.nd hN hx (pe_make M1 ok ((B.room hh).mono hk) hg hm hb .nil B.pass0 semA hdb he hpl) hs hf) (h T σ H _ s (fun vs ds H1 Γ1 ⟨gs, hM, hi, hng, q⟩ hv s1 x dx hx hdx hne => ?_) (r0.ex σ))
  obtain ⟨W, g⟩ := s1
  have same : Same H1 (upd (upd H1 dx (.own x)) x (.ins C dx [])) := (same_new hdx).trans (same_new (by rw [upd_ne (Ne.symm hne)]; exact hx))
  have kp : Kp W (fun a => W a ∨ a = x) H1 (upd (upd H1 dx (.own x)) x (.ins C dx [])) := ⟨fun b u _ e => same b u e, fun a z => z.elim .inl fun e => .inr (e ▸ hx)⟩
  have hx2 : upd H1 dx (.own x) x = none := by rw [upd_ne (Ne.symm hne)]; exact hx
  have f0 : B.F.H0 x = none := g.fresh0 hx
  have g2 := ((g.tl.grow (same_new (o := .own x) hdx)).owned (o := .ins C dx []) (i := i) (s := .mu x C []) hx2 hi ⟨dx, [], rfl, .inr rfl, .inr f0, upd_same, .nil⟩ hng)
  have hil : i < (σ.set i (some (V.ref x))).length := by rw [List.length_set, ← g.len]; exact hi
  refine ⟨fun a => W a ∨ a = x, x, dx, [], [], vs ++ [], ds, gs, .ret .non, rfl, .inr rfl, upd_same, fun a z => ?_, .nil, by rw [List.append_nil]; exact RpL.keep kp g.top, hM, fun v H' ⟨k, dx', fs', e, hf⟩ hv => ⟨rpNon hv, r0.nx _ H' _ (q x) ⟨fun a => W a ∨ a = x, ?_⟩⟩⟩
  · rcases z with z | z
    · intro zz
      cases q : H1 a with
      | none => exact g.dom a z q
      | some u => rw [same a u q] at zz; cases zz
    · subst z; rw [upd_same]; exact fun z => nomatch z
  · have g3 := g2.chg (H' := H') (i := i) (a := x) (s := .mu x C []) (s' := .mu x C gs) (List.getElem?_set_self hi) trivial trivial (List.getElem?_set_self (by rw [← g.len]; exact hi)) (.inr rfl) (.inr f0) (by rw [e]; exact fun z => nomatch z) k ⟨dx', fs', rfl, .inr rfl, .inr f0, e, hf⟩
    rw [List.set_set] at g3
    exact g3
end Sd

set_option Elab.async false
set_option linter.all false
set_option maxRecDepth 100000
set_option maxHeartbeats 4000000
set_option exponentiation.threshold 10000
namespace Sd
open PySem PySem.Spec PyProof.Rows L2
/-- statements behind so many -/
def stsM (ek : Nat) : Nat → List Stt → List Tk → Pr (List Stt)
  | 0, _, ts => .bad ts
  | f + 1, acc, ts => if ts = [] ∧ ek = 2 then .ok acc ts else (allowM (decide (acc.length < 128)) ts).bind fun _ us => (stM us).bind fun s vs => stsM ek f (acc ++ [s]) vs
def stsOf (l : List Nat) : Pr (List Stt) := stsM (rsOf l).ek ((rsOf l).toks.length + 1) [] (rsOf l).toks
theorem stM_less {ts us : List Tk} {s : Stt} (h : stM ts = .ok s us) : us.length < ts.length := by
  cases ts with
  | nil => cases h
  | cons t r =>
    unfold stM at h
    dsimp only at h
    have fin : ∀ {q : Pr Stt}, q.rest <:+ r → q = .ok s us → us.length < (t :: r).length := fun {q} hq e => by
      subst e
      have := hq.length_le
      rw [List.length_cons]
      exact Nat.lt_succ_of_le this
    split at h
    · split at h
      · exact fin (rest_bind (sfx_given r) fun _ us _ => rest_bind ((lvS 6).sum us) fun _ us _ => sfx_stEnd _ us) h
      · split at h
        · exact fin (rest_bind (sfx_given r) fun _ us _ => rest_bind ((lvS 6).pl us) fun _ us _ => sfx_stEnd _ us) h
        · split at h
          · exact fin (rest_bind (sfx_piece r) fun _ us _ => sfx_stEnd _ us) h
          · exact fin (rest_bind (sfx_seam r) fun _ us _ => sfx_stEnd _ us) h
    · cases h
section
variable {P : Program} {w : World} {K : PySem.W.Frag} {mg : Str → Option Value} {base : Heap} {Ck Cd Cx : Addr}
theorem sc_sts : FnScope ["text", "reader", "found"] ["text"] (defScope s_statements_of) := ⟨rfl, rfl, rfl, by decide +kernel, rfl, by decide +kernel, by decide +kernel⟩
def stsD (l : List Stt) : D := .lst (l.map dSt)
def F_sts (Cx : Addr) : FS := fun ds r => ∃ l : List Nat, ds = [tx l] ∧ l.length ≤ 4200 ∧ r = (stsOf l).res (rsOf l) Cx stsD
theorem fn_sts (T : FunT K mg "statements_of" s_statements_of ["text"]) (M : SmT P w K mg base Ck Cd Cx) (hLen : mg "len" = none) (hN : ∃ t, mg "MOST_STATEMENTS" = some (.int 128 t)) (hI : Mi (L2N.CX P w) P w K mg base "Reader" Cd 5 (M_rinit Ck)) (hE : Mm (L2N.CX P w) P w K mg base Cd "is_at_end" 1 (M_end Ck))
    (hO : Mm (L2N.CX P w) P w K mg base Cd "one_statement" 31 (M_rd Ck Cx [] dSt stM)) : FnN P w K mg base "statements_of" 32 (F_sts Cx) := fnN T fun f fd Fu => by
  obtain ⟨t1, hN⟩ := hN
  refine fn_intro Fu sc_sts (fun ds r h => ?_) fun cd A outer s H E W room ds r h => ?_
  · obtain ⟨l, rfl, _⟩ := h
    rfl
  · obtain ⟨l, rfl, hl, rfl⟩ := h
    have ok := rsOf_ok hl
    refine ss_cons (sw_newM 1 hI (aw_pure (des_cons (de_var 0) des_nil) ⟨_, ⟨l, rfl, rfl, hl, rfl, rfl⟩, Nat.le_of_ble_eq_true rfl, rfl, fun r => ?_⟩))
    generalize hq : stsOf l = q
    unfold stsOf at hq
    generalize hS : rsOf l = S at hq ok ⊢
    refine ss_cons (sw_own 2 (aw_nil ⟨Nat.le_of_ble_eq_true rfl, rfl, ?_⟩))
    refine ss_cons (sw_while (fun m Γ => ∃ (acc : List Stt) (us : List Tk), us.length < m ∧ RdOk S us ∧ stsM S.ek m acc us = q ∧ acc.length + us.length ≤ S.toks.length ∧ Γ = [some (.im (tx l)), some (.mu r Cd (rdG Ck S us)), some (.ow (acc.map dSt))]) ?_ ?_)
    · exact ⟨_, [], S.toks, Nat.lt_succ_self _, ok, hq, by rw [List.length_nil]; omega, rfl⟩
    · clear hq ok
      rintro m Γ1 ⟨acc, us, hm, ok, hq, hlen, rfl⟩
      obtain ⟨m, rfl⟩ : ∃ m', m = m' + 1 := ⟨m - 1, by omega⟩
      unfold stsM at hq
      refine tw_not (tw_val (ew_mmeth0 1 hE (hi := ⟨_, rfl, rfl⟩) (h := ⟨_, _, _, rfl, ⟨S, us, ok, rfl, rfl, rfl, rfl⟩, _, rfl, fun z => ?_, fun z => ?_⟩)))
      · have hn : ¬ (us = [] ∧ S.ek = 2) := fun ⟨a, b⟩ => by
          rw [decide_eq_true a, decide_eq_true b] at z
          cases z
        rw [if_neg hn] at hq
        cases e1 : allowM (decide (acc.length < 128)) us with
        | bad vs =>
          rw [e1] at hq
          subst hq
          refine ss_cons (sw_expr (ew_mmeth 1 (M.allow (decide (acc.length < 128))) (hi := ⟨_, rfl, rfl⟩) (h := aw_pure (des_cons (de_is (de_cmp (de_olen 2 rfl hLen) (de_gint hN) od_lt) ?_) des_nil) ⟨_, _, _, rfl, rd_bad ok e1, rfl⟩)))
          rw [List.length_map]
          exact congrArg D.bl (decide_eq_decide.mpr ⟨fun h => by omega, fun h => by omega⟩)
        | ok x vs =>
          rw [e1] at hq
          replace hq : (stM vs).bind _ = q := hq
          refine ss_cons (sw_expr (ew_mmeth 1 (M.allow (decide (acc.length < 128))) (hi := ⟨_, rfl, rfl⟩) (h := aw_pure (des_cons (de_is (de_cmp (de_olen 2 rfl hLen) (de_gint hN) od_lt) ?_) des_nil) ⟨_, _, _, rfl, rd_ok ok e1, ?_⟩)))
          · rw [List.length_map]
            exact congrArg D.bl (decide_eq_decide.mpr ⟨fun h => by omega, fun h => by omega⟩)
          have hv := ((sfx_allow _).at e1).length_le
          have ok := ok.of ((sfx_allow _).at e1)
          have okl := ok.len
          cases e2 : stM vs with
          | bad zs =>
            rw [e2] at hq
            subst hq
            exact ss_one (sw_app 2 ⟨_, rfl⟩ (ew_mmeth0 1 hO (hi := ⟨_, rfl, rfl⟩) (h := ⟨_, _, _, rfl, rd_bad ok e2, rfl⟩)))
          | ok y zs =>
            rw [e2] at hq
            replace hq : stsM S.ek m (acc ++ [y]) zs = q := hq
            have hz := stM_less e2
            refine ss_one (sw_app 2 ⟨_, rfl⟩ (ew_mmeth0 1 hO (hi := ⟨_, rfl, rfl⟩) (h := ⟨_, _, _, rfl, rd_ok ok e2, _, rfl, by rw [List.length_map]; omega, ?_⟩)))
            refine ⟨m, Nat.lt_succ_self _, acc ++ [y], zs, by omega, ok.of (sfx_st.at e2), hq, by rw [List.length_append, List.length_cons, List.length_nil]; omega, ?_⟩
            rw [List.map_append]
            rfl
      · have hn : us = [] ∧ S.ek = 2 := by
          cases a : decide (us = []) with
          | false => rw [a] at z; cases z
          | true =>
            cases b : decide (S.ek = 2) with
            | false => rw [a, b] at z; cases z
            | true => exact ⟨of_decide_eq_true a, of_decide_eq_true b⟩
        rw [if_pos hn] at hq
        subst hq
        exact ss_freeze 2 rfl (ss_one (sw_retD (de_var 2) rfl))
end
end Sd

set_option Elab.async false
set_option linter.all false
set_option maxRecDepth 100000
set_option maxHeartbeats 4000000
set_option exponentiation.threshold 10000
namespace Sd
open PySem PySem.Spec PyProof.Rows L2
def fltK (S : RdS) : List Tk → Nat × Nat
  | [] => (S.ek, S.ep)
  | t :: _ => (2, t.place)
theorem fltG_eq (S : RdS) (ts : List Tk) : fltG S ts = ([("place", .int ((fltK S ts).2 : Int)), ("kind", .int ((fltK S ts).1 : Int))] : List (Str × D)) := by
  cases ts <;> rfl
/-- a draft's statements -/
def drR (Cr : Addr) (b : List Nat) : Res := match stsOf (b.map sg) with
  | .ok l _ => .ret (stsD l)
  | .bad ts => .exc Cr (refG [.int ((fltK (rsOf (b.map sg)) ts).1 : Int), .int ((fltK (rsOf (b.map sg)) ts).2 : Int)] (-2))
section
variable {P : Program} {w : World} {K : PySem.W.Frag} {mg : Str → Option Value} {base : Heap} {Ck Cd Cx Cr : Addr}
theorem sc_text_init : FnScope ["self", "kind", "place"] ["self", "kind", "place"] (defScope m_TextFault_init) := ⟨rfl, rfl, rfl, by decide +kernel, rfl, by decide +kernel, by decide +kernel⟩
theorem xc_text (T : ExcT K mg "TextFault" Cx "TextFault.__init__" m_TextFault_init ["self", "kind", "place"]) (n1 : PySem.W.findIn K (.ref Cx) "kind" = some none) (n2 : PySem.W.findIn K (.ref Cx) "place" = some none) (vV : PySem.W.findCls K (.type "ValueError") (.type "type") "__init__" = some (.val (.builtin "ValueError.__init__"))) (hm : mg "ValueError" = none) :
    Xc (L2N.CX P w) P w K mg base "TextFault" Cx 2 ["kind", "place"] := by
  obtain ⟨f, fd, Fu, ox, fi, ti, hx, hb⟩ := T
  have T1 : ExT K Cx ["kind", "place"] := ⟨ox, by simpa using ⟨n1, n2⟩, vV⟩
  refine ⟨f, fd, _, ?_, ox, fi, ti, hx, hb, by decide⟩
  obtain ⟨oc, od, kV, doc, pm, an, cdv, ct, osl, rfl, lk, hcd⟩ := Fu.ex
  refine fn_of (N := ["self", "kind", "place"]) lk hcd sc_text_init (fun vs H Q E h => ?_) fun A outer s H vs Q E room h => ?_
  · obtain ⟨a, ws, rfl, hl, _⟩ := h
    rw [List.length_cons, hl]
    rfl
  · exact ex_init2 T1 (by rfl) hm (pe_var (i := 0) rfl (Or.inl rfl) (by decide) (by decide)) (pe_var (i := 0) rfl (Or.inl rfl) (by decide) (by decide)) (pe_var (i := 1) rfl (Or.inl rfl) (by decide) (by decide)) (pe_var (i := 0) rfl (Or.inl rfl) (by decide) (by decide)) (pe_var (i := 2) rfl (Or.inl rfl) (by decide) (by decide)) ⟨_, rfl⟩ (E := E) (hq := h) (hσ := start_at)
theorem sc_draft_in : FnScope ["t", "e"] ["t"] (defScope s_draft_in) := ⟨rfl, rfl, rfl, by decide +kernel, rfl, by decide +kernel, by decide +kernel⟩
def F_draft_in (Cr : Addr) : FS := fun ds r => ∃ b : List Nat, ds = [bytesD b] ∧ b.length ≤ 4096 ∧ r = drR Cr b
theorem fn_draft_in (T : FunT K mg "draft_in" s_draft_in ["t"]) (hN : ∃ t, mg "NO_DRAFT_drafts" = some (.int (-2) t)) (hT : FnN P w K mg base "text_of" 1 F_text_of) (hR : FnN P w K mg base "statements_of" 32 (F_sts Cx)) (hX : XcH (L2.CX P w) P w K mg base "Refused" Cr 2 ["refusal", "told"]) (hf : mg "TextFault" = some (.ref Cx)) (hcc : PySem.W.exmOne K (.ref Cx) (.ref Cx) = some true) (X : XfC K Cx) (n1 : PySem.W.findIn K (.ref Cx) "kind" = some none) (n2 : PySem.W.findIn K (.ref Cx) "place" = some none) :
    FnC P w K mg base "draft_in" 33 (F_draft_in Cr) := fnC T fun f fd Fu => by
  obtain ⟨t, hN⟩ := hN
  refine fnC_intro Fu sc_draft_in (fun ds r h => ?_) fun cd A outer s H E W room ds r h => ?_
  · obtain ⟨b, rfl, _⟩ := h
    rfl
  · obtain ⟨b, rfl, hb, rfl⟩ := h
    refine ss_one (sw_try_from (E := E) 1 hX (by exact Nat.le_of_ble_eq_true rfl) hcc hf (hb := fun pn xe W tk po => ss_one (sw_ret (ew_call hR (h := aw_pure (des_cons (de_call hT (des_cons (de_var 0) des_nil) ⟨b, rfl, by omega, rfl⟩) des_nil) ⟨_, ⟨b.map sg, rfl, by rw [List.length_map]; omega, rfl⟩, ?_⟩)))))
    cases e : stsOf (b.map sg) with
    | ok l us =>
      show drR Cr b = _
      unfold drR
      rw [e]
      try rfl
    | bad ts =>
      show Bx.out _ _ _ (Res.exc Cx (fltG (rsOf (b.map sg)) ts))
      rw [fltG_eq]
      refine ⟨rfl, Nat.le_of_ble_eq_true rfl, fun a dd oe pn xe tk F hz hf => aw_pure (des_cons (de_gint hN) (des_cons (de_lst (des_cons (de_xf 1 rfl X n1 List.mem_cons_self hz hf rfl) (des_cons (de_xf 1 rfl X n2 List.mem_cons_self hz hf rfl) des_nil))) des_nil)) ⟨rfl, ?_⟩⟩
      show drR Cr b = _
      unfold drR
      rw [e]
      try rfl
end
end Sd

set_option exponentiation.threshold 256
set_option Elab.async false
set_option linter.all false
set_option maxRecDepth 100000
set_option maxHeartbeats 4000000
namespace Sd
open PySem PySem.Spec PyProof.Rows L2
/-! # A list comprehension whose element may raise, and may change what is one's own -/
section
variable {X : Cx} {pins : List (Addr × Obj)} {σ : L2.St} {H : Hp} {s : Shared}
theorem ok_xe {f : Value → Shared → Prop} (h : X.Ok) : ({ X with xe := f } : Cx).Ok := ⟨h.1, h.2, h.3, h.4, h.5, h.6, h.7, h.8, h.9, h.10, h.11, h.12, h.13, h.14, h.15, h.16, h.17, h.18⟩
theorem inv_xe {f : Value → Shared → Prop} (I : Inv X pins σ H s) : Inv { X with xe := f } pins σ H s := ⟨ok_xe I.1, I.2, I.3, I.4, I.5, I.6, I.7, I.8, I.9, I.10, I.11⟩
/-- the block's context: what it lets out goes through the def's frame -/
abbrev blkR (X : Cx) (s : Shared) (H : Hp) (scope : Scope) (ce : PySem.Env) (fp : List Addr) : Cx :=
  { X with s_0 := s, H_0 := H, env := ce, outer := X.stack, ex := fp, fn := fun x => scope.names.lookup x == some .cell, pn := [], xe := fun u t => notedBy (model X.prog X.w) X.A ce (CompFails (model X.prog X.w) X.A X.xe ce) u t }
/-- what a call in the block lets out is taken -/
theorem compRaise {W : WX} {H3 : Hp} {s3 : Shared} {scope : Scope} {ce : PySem.Env} {fp : List Addr} {pins' : List (Addr × Obj)} {σ' : L2.St} {u : Value} {t : Shared} (hst : X.stack = X.env :: X.outer) (hfr : X.env.frame = some X.env.locals) (tk : L2N.Takes X W)
    (I3 : Inv X pins σ H3 s3) (hC : s3.heap.objs.size ≤ ce.locals) (cF : ce.frame = X.env.frame) (hfp : ∀ b ∈ fp, FpOk X pins H3 b) (I : Inv (blkR X s3 H3 scope ce fp) pins' σ' H s) (c : L2N.CX X.prog X.w X.stack H s (WE W σ) u t) :
    notedBy (model X.prog X.w) X.A ce (CompFails (model X.prog X.w) X.A X.xe ce) u t := by
  have I7 : Inv X pins σ H s := I3.call' (ch := fp) I.os I.base I.hok I.bare fun b hb => let z := hfp b hb; ⟨z.2.2.2.1, z.2.1, z.2.2.2.2.1, z.2.2.2.2.2⟩
  have nH : H ce.locals = none := I.free
  obtain ⟨_, f1, f2, f3, f4, f5⟩ := I3.fpOk hC nH
  have nC : ce.locals ∉ frs X.stack := fun z => (List.mem_cons.mp (I3.stkSub _ z)).elim f1 f2
  obtain ⟨a, B, H', cls, d, rfl, fl, hok, ub, na, os, ag, hE⟩ := c
  obtain ⟨m, hn, _⟩ := I.loc
  replace hn : s.heap.Ns ce.locals m := hn
  obtain ⟨oC, eC, pC, hoC, hdC, hrC⟩ := id hn
  have hBC := ub.keep _ oC hoC nH nC
  have Xfr : X.A.frames = some (X.env :: X.outer) := I3.ok.frames.trans (congrArg some hst)
  have st0 : B.StaysIn t.heap := fl.1
  have fl' : HandSPX.FlyingZ B (X.env :: X.outer) a (L2N.Zn cls d) t.heap := hst ▸ fl
  show wpAny _ X.A (noteFrame (.ref a) ce) _ _ t
  rw [noteFrame_env _ cF]
  refine PXN.looks_onZ L2N.Zn.steady Xfr hfr fl' fun h1 hh1 up1 => ?_
  obtain ⟨k1, k2, k3, oe, vs, Tb, oT, ts, he, hz, hd, hv1, hnT, hTe, hT, hdT, hv3⟩ := hh1
  have h1C := k1 _ oC hBC
  refine ⟨m, ⟨oC, eC, pC, h1C, hdC, hrC⟩, fun h2 m2 hn2 sb => ?_⟩
  have aC : a ≠ ce.locals := fun z => by
    rw [z, h1C] at he
    cases he
    rw [hdC] at hd
    cases hd
  have tC : Tb ≠ ce.locals := fun z => by
    rw [z, hBC] at hnT
    cases hnT
  obtain ⟨B2, b1, b2⟩ := restrict B fun b => decide (b ≠ ce.locals)
  have sub2 : ∀ b o, B2.get? b = some o → b ≠ ce.locals ∧ B.get? b = some o := fun b o e => by
    by_cases q : b = ce.locals
    · rw [b2 b (by simp [q])] at e
      cases e
    · exact ⟨q, (b1 b (by simp [q])).symm.trans e⟩
  have none2 : ∀ {b}, B.get? b = none → B2.get? b = none := fun {b} e => by
    cases q : B2.get? b with
    | none => rfl
    | some o => exact absurd ((sub2 b o q).2.symm.trans e) (fun z => nomatch z)
  have held : HandSPX.HeldZ B2 (X.env :: X.outer) a (L2N.Zn cls d) X.env.locals h2 :=
    ⟨fun b o e => let z := sub2 b o e; (sb.2 b z.1).trans (k1 b o z.2), none2 k2, funFrames_none (Heap.FunFrames.sameBut sb hn2 k3) fun b hb => none2 (k3.mem hb).1,
      oe, vs, Tb, oT, ts, (sb.2 a aC).trans he, hz, hd, hv1, none2 hnT, hTe, (sb.2 Tb tC).trans hT, hdT, hv3⟩
  unfold PySem.passOn
  refine wpAny_bind (wpAny_field ((sb.2 a aC).trans he) hd hv1 ?_)
  rw [if_neg (show ¬ ((Value.ref Tb == Value.none) = true) from by simp)]
  rw [cF, hfr]
  refine wpAny_bind (HandSPX.setFlight_onZ held fun h3 hh3 up3 => wpAny_throw (tk _ _ ?_))
  obtain ⟨G, g1, g2⟩ := restrict t.heap fun b => ((B.get? b).isSome || decide (b ∈ frs X.stack)) && decide (b ≠ ce.locals)
  have gB : ∀ b o, b ≠ ce.locals → B.get? b = some o → G.get? b = some o := fun b o n e => (g1 b (by simp [e, n])).trans (st0 b o e)
  have gF : ∀ b, b ∈ frs X.stack → G.get? b = t.heap.get? b := fun b hb => g1 b (by simp only [Bool.and_eq_true, Bool.or_eq_true, decide_eq_true_eq]; exact ⟨.inr hb, fun z => nC (z ▸ hb)⟩)
  have og : ∀ b o, G.get? b = some o → t.heap.get? b = some o ∧ b ≠ ce.locals ∧ ((B.get? b).isSome = true ∨ b ∈ frs X.stack) := fun b o e => by
    cases q : (((B.get? b).isSome || decide (b ∈ frs X.stack)) && decide (b ≠ ce.locals)) with
    | false =>
      rw [g2 b q] at e
      cases e
    | true =>
      rw [g1 b q] at e
      simp only [Bool.and_eq_true, Bool.or_eq_true, decide_eq_true_eq] at q
      exact ⟨e, q.2, q.1⟩
  have hHC : H' ce.locals = none := ub.free _ oC hoC nH
  refine ⟨a, B2, { s with heap := G, gens := t.gens, drawn := t.drawn, toks := t.toks }, pins, σ, H', cls, d, rfl, ?_, fun b o e hb => ?_, fun b o e nf => ?_, .inr (.inr (hst ▸ hh3)), na, os, ag, hE⟩
  · refine I7.call (ch := [ce.locals]) ⟨fun b o e n hb hx => gB b o (fun z => hx (by simp [z])) (ub.keep b o e n hb), fun b o e n hb hx => ?_, fun b o e n _ => ub.free b o e n, fun b o e hx => ?_, ub.tups, ub.frzs, ub.tbls⟩ (fun b o e => ?_) ag fun b hb => ?_
    · obtain ⟨sl, q⟩ := ub.slot b o e hb
      exact ⟨sl, (gF b hb).trans q⟩
    · by_cases hb : b ∈ frs X.stack
      · obtain ⟨sl, q⟩ := ub.slot b o e hb
        exact ⟨_, (gF b hb).trans q⟩
      · obtain ⟨o', q⟩ := ub.there b o e hb
        exact ⟨o', gB b o' (fun z => hx (by simp [z])) q⟩
    · refine (hok b o e).stay (fun c v hc r => gB c v (fun z => ?_) r) (fun _ q => q) fun _ _ q => q
      rcases hc with hc | hc
      · rw [← hc, z, hHC] at e
        cases e
      · rw [z, hHC] at hc
        cases hc
    · have e : b = ce.locals := by simpa using hb
      subst e
      exact ⟨f3, f1, f4, f5⟩
  · obtain ⟨e', n, h⟩ := og b o e
    rcases h with h | h
    · obtain ⟨o', q⟩ := Option.isSome_iff_exists.mp h
      have z := st0 b o' q
      rw [e'] at z
      cases z
      exact (b1 b (by simp [n])).trans q
    · exact absurd h hb
  · obtain ⟨e', n, _⟩ := og b o e
    obtain ⟨sl, q⟩ := up1 b o e' nf
    obtain ⟨sl2, q2⟩ := up3 b _ ((sb.2 b n).trans q) nf
    exact ⟨sl2, q2⟩
/-- [elt for tg in iter] -/
def tLcR (wi : TI) (g : TG) (te : TE) (vs : List Nat) : TE := fun σ H Q => wi σ H fun J H1 => ∀ D, H1 D = none → ∃ W : Nat → Nat → Hp → Prop, (∃ m, W 0 m (upd H1 D (.lst []))) ∧ ∀ i m H, W i m H →
  (J.stop i H ∧ Q (.ref D) H) ∨ (J.go i H ∧ ∃ Nx : Hp → Prop, (∀ H', Nx H' → ∃ m', m' < m ∧ W (i + 1) m' H') ∧ ∀ x H', J.yld i H x H' → g x (wipe σ vs) H' fun σ2 H2 => wipe σ2 vs = wipe σ vs ∧
    te σ2 H2 fun y H4 => ∃ acc, H4 D = some (.lst acc) ∧ acc.length < sizeLine ∧ Nx (upd H4 D (.lst (acc ++ [y]))))
/-- what he needs of the block's context -/
abbrev PassR (X : Cx) (W : WX) (σ : L2.St) (s : Shared) (H : Hp) (scope : Scope) (ce : PySem.Env) (fp : List Addr) : Prop :=
  ∀ (pins' : List (Addr × Obj)) (σ' : L2.St) (H' : Hp) (s' : Shared) (u : Value) (t : Shared), Inv (blkR X s H scope ce fp) pins' σ' H' s' → L2N.CX X.prog X.w X.stack H' s' (WE W σ) u t → notedBy (model X.prog X.w) X.A ce (CompFails (model X.prog X.w) X.A X.xe ce) u t
theorem lcR_core {Q : VK} {elt tg iter : Expr} {scope : Scope} {own : List (Str × Nat)} {pos pos' : Pos} {wi : TI} {g : TG} {te : TE} {W : WX} {use : Option (Value → Sem Unit)} {Qf : Value → Shared → Prop}
    (hc : X.calm = true) (hN : X.N.Nodup) (hst : X.stack = X.env :: X.outer) (hfr : X.env.frame = some X.env.locals) (tk : L2N.Takes X W) (I : Inv X pins σ H s) (hi : PI X tg iter wi) (ok : BlkOk X.N X.env.scope scope own)
    (hg : ∀ (s : Shared) (H : Hp) (C : Addr) (cl : List (Str × Addr)) (fp : List Addr), PassR X W σ s H scope (compEnvC scope cl C X.env) fp → PG (blkR X s H scope (compEnvC scope cl C X.env) fp) tg g)
    (he : ∀ (s : Shared) (H : Hp) (C : Addr) (cl : List (Str × Addr)) (fp : List Addr), PassR X W σ s H scope (compEnvC scope cl C X.env) fp → PE (blkR X s H scope (compEnvC scope cl C X.env) fp) elt te)
    (hs : ∀ x, foldedSetIterable iter X.env x = pure x) (h : tLcR wi g te (own.map (·.2)) σ H Q)
    (hRR : ∀ D ce s' m H', Inv X pins σ H' s' → Q (.ref D) H' → s'.heap.Ns ce.locals m → FpOk X pins H' ce.locals → compEnds (model X.prog X.w) X.A X.xe use Qf (.ref D) ce (.ok .next) s') :
    wpAny (model X.prog X.w) X.A (comprehension (.ListComp elt [⟨tg, iter, [], 0⟩] scope pos) scope X.env pos' (newList []) false (eval iter X.env) use) Qf X.xe s := by
  have hfree : ∀ y ∈ scope.names, y.2 = .free → ∃ c, X.env.cells.lookup y.1 = some c := fun y hy e => (ok.free y hy e).elim (fun k => I.ok.has _ (.inl k)) fun k => I.ok.has _ (.inr k)
  refine comprehension_at (use := use) rfl hs (closure_ok hfree) ok.kind (fun y hy e => (ok.uniq y hy).trans (congrArg some e)) (thn (hi.run pins s σ H _ I h) fun xv sA hA => thn hA fun itv s2 h2 => ?_)
  obtain ⟨it, fp, tn, J, H2, rfl, I2, T, st2, f2, q⟩ := h2
  refine wpAny_newObj_type (newEnv_comp ?_) (Nat.zero_le sizeLine)
  obtain ⟨D, hD⟩ : ∃ D, D = s2.heap.objs.size := ⟨_, rfl⟩
  rw [← hD]
  obtain ⟨V, ⟨n0, v0⟩, turn⟩ := q D (I2.hok.fresh (Nat.le_of_eq hD.symm))
  obtain ⟨s3, e3⟩ : ∃ s3 : Shared, s3 = { s2 with heap := s2.heap.push { cls := .type "list", data := .seq ([] : List Value).toArray } } := ⟨_, rfl⟩
  have I3 : Inv X pins σ (upd H2 D (.lst [])) s3 := by
    rw [e3]
    refine I2.laid (t' := s2.toks) (fun b o e => Heap.get?_push_of_some _ e) (Nat.le_of_eq hD.symm) ⟨Nat.zero_le _, [], 0, .nil, ?_⟩
    rw [hD]
    exact Heap.get?_push_size s2.heap rfl
  have z3 : s3.heap.objs.size = s2.heap.objs.size + 1 := by rw [e3]; exact Heap.size_push ..
  have k3 : ∀ b o, s2.heap.get? b = some o → s3.heap.get? b = some o := fun b o e => by rw [e3]; exact Heap.get?_push_of_some _ e
  have f3 : ∀ b ∈ fp, FpOk X pins (upd H2 D (.lst [])) b ∧ b < s3.heap.objs.size := fun b hb => by
    obtain ⟨o, e, _⟩ := T.obj _ _ st2 b hb
    have lt := Heap.lt_size e
    have z := f2 b hb
    exact ⟨⟨(upd_ne (Nat.ne_of_lt (by rw [hD]; exact lt))).trans z.1, z.2⟩, by rw [z3]; exact Nat.lt_succ_of_lt lt⟩
  have I4 := block_start I3 ok hN f3
  show codeAny _ _ (.compStart (.ListComp elt [⟨tg, iter, [], 0⟩] scope pos) 0 (.ref it) (.ref D) (compEnvC scope (cellsFrom (({ s2 with heap := s2.heap.push { cls := .type "list", data := .seq ([] : List Value).toArray } } : Shared).heap.objs.size + 1) scope.names (cloFrom X.env.cells scope.names [])) ({ s2 with heap := s2.heap.push { cls := .type "list", data := .seq ([] : List Value).toArray } } : Shared).heap.objs.size X.env)) (compEnds (model X.prog X.w) X.A X.xe use Qf (.ref D) (compEnvC scope (cellsFrom (({ s2 with heap := s2.heap.push { cls := .type "list", data := .seq ([] : List Value).toArray } } : Shared).heap.objs.size + 1) scope.names (cloFrom X.env.cells scope.names [])) ({ s2 with heap := s2.heap.push { cls := .type "list", data := .seq ([] : List Value).toArray } } : Shared).heap.objs.size X.env)) { ({ s2 with heap := s2.heap.push { cls := .type "list", data := .seq ([] : List Value).toArray } } : Shared) with heap := pushCells (({ s2 with heap := s2.heap.push { cls := .type "list", data := .seq ([] : List Value).toArray } } : Shared).heap.push { cls := .type "dict", data := .dict #[] }) scope.names }
  rw [← e3]
  obtain ⟨cl, hcl⟩ : ∃ cl, cl = cellsFrom (s3.heap.objs.size + 1) scope.names (cloFrom X.env.cells scope.names []) := ⟨_, rfl⟩
  rw [← hcl] at I4 ⊢
  obtain ⟨C, hC⟩ : ∃ C, C = s3.heap.objs.size := ⟨_, rfl⟩
  rw [← hC] at I4 ⊢
  obtain ⟨H3, eH⟩ : ∃ H3, H3 = upd H2 D (.lst []) := ⟨_, rfl⟩
  rw [← eH] at I3 I4 f3 v0
  have pass : PassR X W σ s3 H3 scope (compEnvC scope cl C X.env) fp := fun pins' σ' H' s' u t J' c => compRaise hst hfr tk I3 (Nat.le_of_eq hC.symm) rfl (fun b hb => (f3 b hb).1) J' c
  have pg := hg s3 H3 C cl fp pass
  have pe := he s3 H3 C cl fp pass
  obtain ⟨ce, hce⟩ : ∃ ce, ce = compEnvC scope cl C X.env := ⟨_, rfl⟩
  have cL : ce.locals = C := by rw [hce]; rfl
  rw [← hce] at I4 pg pe ⊢
  obtain ⟨s4, e4⟩ : ∃ s4 : Shared, s4 = { s3 with heap := pushCells (s3.heap.push { cls := .type "dict", data := .dict #[] }) scope.names } := ⟨_, rfl⟩
  rw [← e4] at I4 ⊢
  have st4 : tn 0 s4.heap := T.keep _ _ _ st2 fun b _ o e => by rw [e4]; exact pushCells_keeps _ _ _ _ (Heap.get?_push_of_some _ (k3 b o e))
  have I4' : Inv (blkR X s3 H3 scope ce fp) [] (wipe σ (own.map (·.2))) H3 s4 := inv_xe I4
  clear I4
  have stat : ∀ {σ' : L2.St} {H' : Hp} {s' : Shared}, Inv (blkR X s3 H3 scope ce fp) [] σ' H' s' → (∀ b ∈ fp, H' b = none) → ∀ b ∈ fp, FpOk (blkR X s3 H3 scope ce fp) [] H' b := fun {σ' H' s'} J' hn b hb =>
    ⟨hn b hb, (J'.ok.exf b hb).1, J'.ok.exfs b hb, .inl hb, fun x c e => (J'.ok.exf b hb).2 x c e, fun p hp => absurd (show p ∈ ([] : List (Addr × Obj)) ++ [] from hp) (by simp)⟩
  have loop : codeAny (model X.prog X.w) X.A (.compLoop (.ListComp elt [⟨tg, iter, [], 0⟩] scope pos) 0 (.ref it) (.ref D) ce) (compEnds (model X.prog X.w) X.A X.xe use Qf (.ref D) ce) s4 := by
    refine compLoop_any (fun n s' => ∃ i H', Inv (blkR X s3 H3 scope ce fp) [] (wipe σ (own.map (·.2))) H' s' ∧ tn i s'.heap ∧ (∀ b ∈ fp, H' b = none) ∧ V i n H') ?_ n0 ⟨0, H3, I4', st4, fun b hb => (f3 b hb).1.1, v0⟩
    rintro n s5 ⟨i, H5, I5, st5, n5, v5⟩
    rcases turn i n H5 v5 with ⟨stop, qq⟩ | ⟨go, Nx, hNx, step⟩
    · refine thnF (T.done (blkR X s3 H3 scope ce fp) rfl rfl rfl hc i [] s5 _ H5 (fun _ _ => False) I5 (stat I5 n5) st5 stop) fun r s6 ⟨hr, I6⟩ => ?_
      subst hr
      have I7 : Inv X pins σ H5 s6 := I3.call' (ch := fp) I6.os I6.base I6.hok I6.bare fun b hb => let z := (f3 b hb).1; ⟨z.2.2.2.1, z.2.1, z.2.2.2.2.1, z.2.2.2.2.2⟩
      obtain ⟨m, hn, _⟩ := I6.loc
      exact hRR D ce s6 m H5 I7 qq hn (I3.fpOk (Nat.le_of_eq (cL.trans hC).symm) I6.free)
    · refine thnF (T.item (blkR X s3 H3 scope ce fp) rfl rfl rfl hc i [] s5 _ H5 (fun _ _ => False) I5 (stat I5 n5) st5 go) fun r s6 ⟨u, hr, h6⟩ => ?_
      subst hr
      refine thnF h6 fun _ s7 ⟨x, H7, I7, r7, y7, st7, n7⟩ => ?_
      refine thn (pg.run _ s7 _ H7 x u _ (I7.pinned (stat I7 n7) (T.obj _ _ st7)) r7 (step x H7 y7)) fun _ s8 ⟨σ8, H8, I8, hw8, q8⟩ => ?_
      refine wpAny_tests_nil ?_
      rw [if_pos rfl]
      refine thn (pe.run _ s8 σ8 H8 _ I8 q8) fun z s10 ⟨yv, H10, I10, r10, acc, hD10, hz10, nx⟩ => ?_
      refine app_ok (X := blkR X s3 H3 scope ce fp) I10 hD10 hz10 r10 fun s11 I11 => ?_
      obtain ⟨m', hm, v'⟩ := hNx _ nx
      have pin' : ∀ b ∈ fp, ∀ o, s7.heap.get? b = some o → s11.heap.get? b = some o ∧ (upd H10 D (.lst (acc ++ [yv]))) b = none := fun b hb o e =>
        let z := I11.pin (b, o) (List.mem_append_right _ (List.mem_append_right _ (mem_pinsAt hb e)))
        ⟨z.1, z.2.1⟩
      refine ⟨m', hm, i + 1, _, (I11.unpinned (pins := [])).weak (by rw [← hw8, wipe_length]) (fun j v e => ?_), T.keep _ _ _ st7 fun b hb o e => (pin' b hb o e).1, fun b hb => ?_, v'⟩
      · rw [← hw8] at e
        exact (wipe_some e).1
      · obtain ⟨o, e, _⟩ := T.obj _ _ st7 b hb
        exact (pin' b hb o e).2
  exact codeAny_compStart_list loop (T.self X.A 0 _ _ _ st4 loop)
end
end Sd

set_option exponentiation.threshold 256
set_option Elab.async false
set_option linter.all false
set_option maxRecDepth 100000
set_option maxHeartbeats 4000000
namespace Sd
open PySem PySem.Spec PyProof.Rows L2
/-- no list of one's own -/
def noOw (Γ : Env) : Bool := Γ.all fun
  | some (.ow _) => false
  | _ => true
theorem noOw_of {Γ : Env} (h : noOw Γ = true) {j : Nat} {ds : List D} : Γ[j]? ≠ some (some (.ow ds)) := fun e => by
  have := List.all_eq_true.mp h _ (List.mem_of_getElem? e)
  cases this
/-- the frame of a comprehension: the new list at A holds xs -/
def FC (F : Frame) (W1 : Addr → Prop) (H1 : Hp) (A : Addr) (xs : List V) : Frame := ⟨fun a => W1 a ∨ a = A, upd H1 A (.lst xs), fun a => W1 a ∧ (F.R a ∨ F.H0 a = none)⟩
section
variable {K : PySem.W.Frag} {F : Frame} {W W1 : Addr → Prop} {H H1 : Hp} {σ σ' : L2.St} {Γ Γ1 : Env} {T T1 : List Tm} {A : Addr} {xs : List V} {acc : List D} {vs : List Nat}
/-- the block begins -/
theorem fc_in (g : Gd K F W1 H1 σ Γ T) (hA : H1 A = none) (no : noOw Γ = true) : Sta K (FC F W1 H1 A []) (upd H1 A (.lst [])) σ Γ (.l [] [] :: T) := by
  have kp : Kp W1 (fun a => W1 a ∨ a = A) H1 (upd H1 A (.lst [])) := ⟨fun b o _ e => same_new hA b o e, fun a z => z.elim .inl fun e => .inr (e ▸ hA)⟩
  have dm : ∀ a, (W1 a ∨ a = A) → (upd H1 A (.lst [])) a ≠ none := fun a z y => by
    rcases z with z | rfl
    · cases e : H1 a with
      | none => exact g.dom a z e
      | some o =>
        rw [same_new hA a o e] at y
        cases y
    · rw [upd_same] at y
      cases y
  refine ⟨fun a => W1 a ∨ a = A, fun i s e => ?_, g.sep, dm, fun _ z => z, dm, fun a z => .inl z.1, fun b o _ e => e, fun p hp => ?_, g.len, g.only⟩
  · obtain ⟨v, hv, h⟩ := g.slot i s e
    refine ⟨v, hv, ?_⟩
    cases s with
    | im d => exact Rp.keep kp h
    | ow ds => exact absurd e (noOw_of no)
    | mu r C gs =>
      obtain ⟨dx, fs, rfl, wr, nr, hr, hf⟩ := h
      exact ⟨dx, fs, rfl, .inl wr, .inl ⟨wr, nr⟩, same_new hA _ _ hr, RpF.keep kp hf⟩
    | xc a d gs =>
      obtain ⟨e1, fs, q, w, r⟩ := h
      refine ⟨e1, fs, same_new hA _ _ q, fun z => ?_, RpF.keep kp r⟩
      rcases z with z | rfl
      · exact w z
      · rw [hA] at q
        cases q
    | g I =>
      obtain ⟨m, fp, q, w⟩ := h
      exact ⟨m, fp, m K W1 _ H1 _ v fp kp (fun a _ o e => same_new hA a o e) q, fun a ha => ⟨.inl (w a ha).1, .inl (w a ha)⟩⟩
  · rcases List.mem_cons.mp hp with rfl | hp
    · exact .nil
    · exact (g.tmp p hp).keep kp
theorem fc_at (g : Gd K (FC F W1 H1 A xs) W H σ Γ T) (nA : ¬ W1 A) : H A = some (.lst xs) := g.keep A _ (fun z => nA z.1) upd_same
/-- an item goes to the list -/
theorem fc_app {y : V} {d : D} (g : Gd K (FC F W1 H1 A xs) W H σ Γ (.v y d :: .l xs acc :: T)) (nA : ¬ W1 A) : Sta K (FC F W1 H1 A (xs ++ [y])) (upd H A (.lst (xs ++ [y]))) σ Γ (.l (xs ++ [y]) (acc ++ [d]) :: T) := by
  have wA : W A := g.sub A (.inr rfl)
  have kp : Kp W W H (upd H A (.lst (xs ++ [y]))) := ⟨fun b o nb e => by
    rw [upd_ne (fun z : b = A => nb (by rw [z]; exact wA))]
    exact e, fun _ z => .inl z⟩
  have far : ∀ {a : Addr}, (FC F W1 H1 A xs).R a ∨ (FC F W1 H1 A xs).H0 a = none → a ≠ A ∧ ((FC F W1 H1 A (xs ++ [y])).R a ∨ (FC F W1 H1 A (xs ++ [y])).H0 a = none) := fun {a} z => by
    rcases z with z | z
    · exact ⟨fun e => nA (e ▸ z.1), .inl z⟩
    · have z : upd H1 A (.lst xs) a = none := z
      have ne : a ≠ A := fun e => by
        rw [e, upd_same] at z
        cases z
      rw [upd_ne ne] at z
      exact ⟨ne, .inr ((upd_ne ne).trans z)⟩
  refine ⟨W, fun i s e => ?_, g.sep, fun a wa z => ?_, g.sub, fun a z y => ?_, g.rsub, fun b o nb e => ?_, fun p hp => ?_, g.len, g.only⟩
  · obtain ⟨v, hv, h⟩ := g.slot i s e
    refine ⟨v, hv, ?_⟩
    cases s with
    | im d => exact Rp.keep kp h
    | ow ds =>
      obtain ⟨l, zs, rfl, wl, fl, hl, hr⟩ := h
      obtain ⟨ne, z⟩ := far (.inr fl)
      have fl : upd H1 A (.lst xs) l = none := fl
      rw [upd_ne ne] at fl
      exact ⟨l, zs, rfl, wl, (upd_ne ne).trans fl, (upd_ne ne).trans hl, RpL.keep kp hr⟩
    | mu r C gs =>
      obtain ⟨dx, fs, rfl, wr, nr, hr, hf⟩ := h
      obtain ⟨ne, z⟩ := far nr
      exact ⟨dx, fs, rfl, wr, z, (upd_ne ne).trans hr, RpF.keep kp hf⟩
    | xc a d gs =>
      obtain ⟨e1, fs, q, w, r⟩ := h
      exact ⟨e1, fs, kp.keep _ _ w q, w, RpF.keep kp r⟩
    | g I =>
      obtain ⟨m, fp, q, w⟩ := h
      exact ⟨m, fp, m K W W H _ v fp kp (fun a ha o e => (upd_ne (far (w a ha).2).1).trans e) q, fun a ha => ⟨(w a ha).1, (far (w a ha).2).2⟩⟩
  · by_cases q : a = A
    · subst q
      rw [upd_same] at z
      cases z
    · rw [upd_ne q] at z
      exact g.dom a wa z
  · have y : upd H1 A (.lst _) a = none := y
    by_cases q : a = A
    · subst q
      rw [upd_same] at y
      cases y
    · rw [upd_ne q] at y
      exact g.dom0 a z ((upd_ne q).trans y)
  · have e : upd H1 A (.lst (xs ++ [y])) b = some o := e
    by_cases q : b = A
    · subst q
      rw [upd_same] at e ⊢
      exact e
    · rw [upd_ne q] at e ⊢
      exact g.keep b o nb ((upd_ne q).trans e)
  · rcases List.mem_cons.mp hp with rfl | hp
    · exact (RpL.keep kp g.snd).append (.cons (Rp.keep kp g.top) .nil)
    · exact (g.tmp p (List.mem_cons_of_mem _ (List.mem_cons_of_mem _ hp))).keep kp
/-- the block is over -/
theorem fc_out (g1 : Gd K F W1 H1 σ Γ1 T1) (hA : H1 A = none) (g : Gd K (FC F W1 H1 A xs) W H σ' Γ T) : Gd K F (fun a => W a ∧ a ≠ A) H σ' Γ T := by
  have kp : Kp W (fun a => W a ∧ a ≠ A) H H := ⟨fun _ _ _ e => e, fun a z => .inl z.1⟩
  have nA : ¬ W1 A := fun z => g1.dom A z hA
  have far : ∀ {a : Addr}, (FC F W1 H1 A xs).R a ∨ (FC F W1 H1 A xs).H0 a = none → a ≠ A ∧ (F.R a ∨ F.H0 a = none) := fun {a} z => by
    rcases z with z | z
    · exact ⟨fun e => nA (e ▸ z.1), z.2⟩
    · have z : upd H1 A (.lst xs) a = none := z
      have ne : a ≠ A := fun e => by
        rw [e, upd_same] at z
        cases z
      rw [upd_ne ne] at z
      exact ⟨ne, .inr (g1.fresh0 z)⟩
  refine ⟨fun i s e => ?_, g.sep, fun a z => g.dom a z.1, fun a z => ⟨g.sub a (.inl (g1.sub a z)), fun q => nA (q ▸ g1.sub a z)⟩, g1.dom0, g1.rsub, fun b o nb e => ?_, fun p hp => (g.tmp p hp).keep kp, g.len, g.only⟩
  · obtain ⟨v, hv, h⟩ := g.slot i s e
    refine ⟨v, hv, ?_⟩
    cases s with
    | im d => exact Rp.keep kp h
    | ow ds =>
      obtain ⟨l, zs, rfl, wl, fl, hl, hr⟩ := h
      obtain ⟨ne, _⟩ := far (.inr fl)
      have fl : upd H1 A (.lst xs) l = none := fl
      rw [upd_ne ne] at fl
      exact ⟨l, zs, rfl, ⟨wl, ne⟩, g1.fresh0 fl, hl, RpL.keep kp hr⟩
    | mu r C gs =>
      obtain ⟨dx, fs, rfl, wr, nr, hr, hf⟩ := h
      obtain ⟨ne, z⟩ := far nr
      exact ⟨dx, fs, rfl, ⟨wr, ne⟩, z, hr, RpF.keep kp hf⟩
    | xc a d gs =>
      obtain ⟨e1, fs, q, w, r⟩ := h
      exact ⟨e1, fs, q, fun z => w z.1, RpF.keep kp r⟩
    | g I =>
      obtain ⟨m, fp, q, w⟩ := h
      exact ⟨m, fp, m K W _ H H v fp kp (fun a _ o e => e) q, fun a ha => ⟨⟨(w a ha).1, (far (w a ha).2).1⟩, (far (w a ha).2).2⟩⟩
  · have e1 := g1.keep b o nb e
    refine g.keep b o (fun z => ?_) (show upd H1 A (.lst xs) b = some o from (upd_ne (ne_of_none e1 hA)).trans e1)
    rcases z.2 with z | z
    · exact nb z
    · rw [z] at e
      cases e
/-- names forgotten and taken up again -/
theorem wiped (g : Gd K F W H σ Γ T) (hl : σ'.length = σ.length) (h : ∀ i, i ∉ vs → σ'[i]? = σ[i]?) : Gd K F W H σ' (wipeE Γ vs) T := by
  refine ⟨fun i s e => ?_, fun i j si sj e1 e2 o1 o2 ne => ?_, g.dom, g.sub, g.dom0, g.rsub, g.keep, g.tmp, by rw [wipeE_length, hl]; exact g.len, fun i j I sj e1 e2 o => ?_⟩
  · obtain ⟨e1, nv⟩ := wipeE_get e
    obtain ⟨v, hv, q⟩ := g.slot i s e1
    exact ⟨v, (h i nv).trans hv, q⟩
  · obtain ⟨e1, n1⟩ := wipeE_get e1
    obtain ⟨e2, n2⟩ := wipeE_get e2
    rw [h i n1, h j n2]
    exact g.sep i j si sj e1 e2 o1 o2 ne
  · exact g.only i j I sj (wipeE_get e1).1 (wipeE_get e2).1 o
theorem wipe_eq {σ2 : L2.St} (h : wipe σ2 vs = wipe σ vs) (i : Nat) (hi : i ∉ vs) : σ[i]? = σ2[i]? := by
  have z : (wipe σ2 vs)[i]? = (wipe σ vs)[i]? := by rw [h]
  rw [wipe_get, wipe_get, if_neg (fun z => hi z.1), if_neg (fun z => hi z.1)] at z
  exact z.symm
end
/-- the context of such a block -/
def Bx.blkR (B : Bx) (F : Frame) (σ0 : L2.St) (s : Shared) (H : Hp) (scope : Scope) (cl : List (Str × Addr)) (C : Addr) (fp : List Addr) (hp : PassR B.X B.Wx σ0 s H scope (compEnvC scope cl C B.X.env) fp) : Bx where
  X := Sd.blkR B.X s H scope (compEnvC scope cl C B.X.env) fp
  F := F
  Wx := fun c a _ H => B.Wx c a σ0 H
  k := B.k
  cx := L2N.CX B.X.prog B.X.w
  pass := fun σ pins H s e s' I c => hp pins σ H s e s' I c
  cx0 := cxN0
  hot := B.hot
  rz := false
  calm := B.calm
  hd := B.hd
  roomH := B.roomH
  nd := B.nd
  po := fun _ z => nomatch z
  tk := fun z => nomatch z
section
variable {B : Bx} {tg it elt : Expr} {scope : Scope} {own : List (Str × Nat)} {Γ : Env} {ds : List D} {pos : Pos} {is vs : List Nat} {es : D → List D} {R : RE} {Xp : XP}
theorem compR_core (I : Nat → List D → Env → Prop) (hs : SD B tg it Γ ds) (hv : own.map (·.2) = vs) (hi : ∀ i ∈ is, i ∈ vs) (hl : ds.length < 1000000) (no : noOw Γ = true) (h0 : I 0 [] Γ)
    (ht : ∀ F σ0 s H cl C fp hp, ∀ d ∈ ds, TgN (B.blkR F σ0 s H scope cl C fp hp) tg d is (es d))
    (he : ∀ F σ0 s H cl C fp hp, ∀ i d acc Γ1, ds[i]? = some d → acc.length = i → I i acc Γ1 → EW (B.blkR F σ0 s H scope cl C fp hp) elt (setE (wipeE Γ1 vs) is (es d)) (fun y Γ2 => I (i + 1) (acc ++ [y]) (wipeE Γ2 vs)) (fun c gs Γ2 => Xp c gs (wipeE Γ2 vs)))
    (hd : ∀ acc Γ1, I ds.length acc Γ1 → R (.lst acc) Γ1) {T : List Tm} {σ : L2.St} {H : Hp} {Q : VK} (s : B.St H σ Γ T) (q : ∀ v d H' Γ', R d Γ' → B.St H' σ Γ' (.v v d :: T) → Q v H') (x : B.Ex σ T Xp) :
    tLcR (SemI B.X tg it) (fun v σ' H Q => ∀ s H2 C cl fp, PassR B.X B.Wx σ s H2 scope (compEnvC scope cl C B.X.env) fp → SemG (Sd.blkR B.X s H2 scope (compEnvC scope cl C B.X.env) fp) tg v σ' H Q)
      (fun σ' H Q => ∀ s H2 C cl fp, PassR B.X B.Wx σ s H2 scope (compEnvC scope cl C B.X.env) fp → SemE (Sd.blkR B.X s H2 scope (compEnvC scope cl C B.X.env) fp) elt σ' H Q) vs σ H Q := by
  refine hs T σ H _ s fun J S H1 hw s1 A hA => ?_
  obtain ⟨W1, g1⟩ := s1
  have nA : ¬ W1 A := fun z => g1.dom A z hA
  refine ⟨fun i m H2 => i ≤ ds.length ∧ m = ds.length - i ∧ ∃ acc xs Γ1, acc.length = i ∧ I i acc Γ1 ∧ Sta B.X.K (FC B.F W1 H1 A xs) H2 σ Γ1 (.l xs acc :: (S ++ T)), ⟨_, Nat.zero_le _, rfl, [], [], Γ, rfl, h0, fc_in g1 hA no⟩, ?_⟩
  rintro i m H2 ⟨hi2, hm, acc, xs, Γ1, hacc, hI, W, g⟩
  obtain ⟨hgo, hst, hy⟩ := hw W H2 g.dom fun p hp => g.tmp p (List.mem_cons_of_mem _ (List.mem_append_left _ hp))
  by_cases hlt : i < ds.length
  · have hdi : ds[i]? = some ds[i] := List.getElem?_eq_getElem hlt
    have hmem : ds[i] ∈ ds := List.getElem_mem hlt
    generalize ds[i] = d at hdi hmem
    refine .inr ⟨hgo i hlt, fun H' => ∃ acc xs Γ1, acc.length = i + 1 ∧ I (i + 1) acc Γ1 ∧ Sta B.X.K (FC B.F W1 H1 A xs) H' σ Γ1 (.l xs acc :: (S ++ T)), fun H' hh => ⟨ds.length - (i + 1), by omega, hlt, rfl, hh⟩, fun x' H' hyl s0 Hb C cl fp hp => ?_⟩
    obtain ⟨same, hx⟩ := hy i d x' H' hdi hyl
    have gB : Gd B.X.K (FC B.F W1 H1 A xs) W H' (wipe σ vs) (wipeE Γ1 vs) (.v x' d :: .l xs acc :: (S ++ T)) := wiped ((g.grow same).put hx) (wipe_length _ _) fun i hi => by rw [wipe_get, if_neg (fun z => hi z.1)]
    refine (ht (FC B.F W1 H1 A xs) σ s0 Hb cl C fp hp d hmem).2 (.l xs acc :: (S ++ T)) _ H' x' _ (wipeE Γ1 vs) ⟨_, gB⟩ fun ws hlw st2 => ?_
    have hww : wipe (setS (wipe σ vs) is ws) vs = wipe σ vs := by rw [wipe_setS is hi, wipe_wipe]
    have hln : σ.length = (setS (wipe σ vs) is ws).length := by rw [setS_length, wipe_length]
    refine ⟨hww, fun s2 H5 C2 cl2 fp2 hp2 => ?_⟩
    refine he (FC B.F W1 H1 A xs) σ s2 H5 cl2 C2 fp2 hp2 i d acc Γ1 hdi hacc hI _ _ H' _ (sta_setE is (ht (FC B.F W1 H1 A xs) σ s0 Hb cl C fp hp d hmem).1 st2) (fun y dy H7 Γ2 hI2 st4 => ?_) fun c gs a H7 Γ2 hx7 st4 => ?_
    · obtain ⟨W5, g5⟩ := st4
      have g6 := wiped (vs := vs) g5 hln (wipe_eq hww)
      have hlen : xs.length < sizeLine := by
        have hr : RpL B.X.K W5 H7 xs acc := g5.snd
        rw [hr.length, hacc, sizeLine_eq]
        omega
      exact ⟨xs, fc_at g5 nA, hlen, acc ++ [dy], xs ++ [y], wipeE Γ2 vs, by rw [List.length_append, hacc]; rfl, hI2, fc_app g6 nA⟩
    · obtain ⟨W5, g5⟩ := st4
      have g6 := fc_out g1 hA (wiped (vs := vs) g5 hln (wipe_eq hww))
      exact x c gs a H7 _ hx7 ⟨_, { g6 with tmp := fun p hp => g6.tmp p (by
        rcases List.mem_cons.mp hp with rfl | hp
        · exact List.mem_cons_self
        · exact List.mem_cons_of_mem _ (List.mem_cons_of_mem _ (List.mem_append_right _ hp))) }⟩
  · have e : i = ds.length := by omega
    subst e
    have g6 := fc_out g1 hA g
    refine .inl ⟨hst, q (.ref A) (.lst acc) H2 Γ1 (hd acc Γ1 hI) ⟨_, { g6 with tmp := fun p hp => ?_ }⟩⟩
    rcases List.mem_cons.mp hp with rfl | hp
    · exact .lst (fc_at g nA) (fun z => z.2 rfl) (g6.tmp (.l xs acc) List.mem_cons_self)
    · exact g6.tmp p (List.mem_cons_of_mem _ (List.mem_append_right _ hp))
/-- [elt for tg in it] -/
theorem ew_compR (is vs : List Nat) (es : D → List D) (I : Nat → List D → Env → Prop) (hs : SD B tg it Γ ds) (ok : blkC B.X.N B.X.env.scope scope own = true) (hl : ds.length < 1000000) (no : noOw Γ = true) (h0 : I 0 [] Γ)
    (ht : ∀ F σ0 s H cl C fp hp, ∀ d ∈ ds, TgN (B.blkR F σ0 s H scope cl C fp hp) tg d is (es d))
    (he : ∀ F σ0 s H cl C fp hp, ∀ i d acc Γ1, ds[i]? = some d → acc.length = i → I i acc Γ1 → EW (B.blkR F σ0 s H scope cl C fp hp) elt (setE (wipeE Γ1 vs) is (es d)) (fun y Γ2 => I (i + 1) (acc ++ [y]) (wipeE Γ2 vs)) (fun c gs Γ2 => Xp c gs (wipeE Γ2 vs)))
    (hd : ∀ acc Γ1, I ds.length acc Γ1 → R (.lst acc) Γ1) (hv : own.map (·.2) = vs := by rfl) (hi : ∀ i ∈ is, i ∈ vs := by decide) (hf : ∀ x, foldedSetIterable it B.X.env x = pure x := by intro _; rfl) (hh : B.hot = false := by rfl) (hz : B.rz = true := by rfl)
    (hst : B.X.stack = B.X.env :: B.X.outer := by rfl) (hfr : B.X.env.frame = some B.X.env.locals := by rfl) : EW B (.ListComp elt [⟨tg, it, [], 0⟩] scope pos) Γ R Xp := fun T σ H Q s q x => by
  subst hv
  intro pins s0 Iv
  rw [eval_ListComp]
  refine lcR_core (own := own) (B.calm hh) B.nd hst hfr (B.tk hz) Iv semI (blkOk_by ok) (fun s H C cl fp hp => ⟨fun pins s1 σ H1 v u Q I r h => h s H C cl fp hp pins s1 u I r⟩) (fun s H C cl fp hp => ⟨fun pins s1 σ H1 Q I h => h s H C cl fp hp pins s1 I⟩) hf
    (compR_core (own := own) I hs rfl hi hl no h0 ht he hd s q x) fun D ce s' m H' I' hq hn f => ⟨m, hn, fun h'' sb => ?_⟩
  obtain ⟨f0, f1, f2, f3, f4, f5⟩ := f
  exact ⟨.ref D, H', I'.turned (t' := s'.toks) (fun b o hb e => (sb.2 b hb).trans e) f0 f1 f3 f4 f5, rfl, hq⟩
/-- y = [elt for tg in it] -/
theorem sw_setLcR {y : Str} {py spos : Pos} {P : Post} (i : Nat) (is vs : List Nat) (es : D → List D) (I : Nat → List D → Env → Prop) (hs : SD B tg it Γ ds) (ok : blkC B.X.N B.X.env.scope scope own = true) (hl : ds.length < 1000000) (no : noOw Γ = true) (h0 : I 0 [] Γ)
    (ht : ∀ F σ0 s H cl C fp hp, ∀ d ∈ ds, TgN (B.blkR F σ0 s H scope cl C fp hp) tg d is (es d))
    (he : ∀ F σ0 s H cl C fp hp, ∀ i d acc Γ1, ds[i]? = some d → acc.length = i → I i acc Γ1 → EW (B.blkR F σ0 s H scope cl C fp hp) elt (setE (wipeE Γ1 vs) is (es d)) (fun y Γ2 => I (i + 1) (acc ++ [y]) (wipeE Γ2 vs)) (fun c gs Γ2 => P.ex c gs (wipeE Γ2 vs)))
    (hd : ∀ acc Γ1, I ds.length acc Γ1 → P.nx (Γ1.set i (some (.im (.lst acc))))) (hsw : swapsWith (.ListComp elt [⟨tg, it, [], 0⟩] scope pos) (some (.Name y py)) spos.line B.X.env = pure true := by exact sw_true rfl rfl rfl (by decide +kernel)) (hv : own.map (·.2) = vs := by rfl) (hi : ∀ i ∈ is, i ∈ vs := by decide)
    (hy : B.X.N[i]? = some y := by rfl) (hyl : B.X.env.scope.names.lookup y = some .local := by rfl) (hf : ∀ x, foldedSetIterable it B.X.env x = pure x := by intro _; rfl) (hh : B.hot = false := by rfl) (hz : B.rz = true := by rfl)
    (hst : B.X.stack = B.X.env :: B.X.outer := by rfl) (hfr : B.X.env.frame = some B.X.env.locals := by rfl) : SW B (.Assign [.Name y py] (.ListComp elt [⟨tg, it, [], 0⟩] scope pos) spos) Γ P := fun T σ H D s r => by
  subst hv
  intro pins s0 Iv
  rw [exec_Assign_Name_used _ _ _ _ hsw]
  refine wpAny_bind (wpAny_standAt (wpAny_bind ?_))
  show wpAny _ B.X.A (do let _ ← comprehension (.ListComp elt [⟨tg, it, [], 0⟩] scope pos) scope B.X.env (firstIterPos [⟨tg, it, [], 0⟩] pos) (newList []) false (eval it B.X.env) (some (assign (.Name y py) B.X.env))) _ _ s0
  refine wpAny_bind (thn (lcR_core (own := own) (Qf := fun _ s' => SP B.X pins D .next s') (B.calm hh) B.nd hst hfr (B.tk hz) Iv semI (blkOk_by ok) (fun s H C cl fp hp => ⟨fun pins s1 σ H1 v u Q I r h => h s H C cl fp hp pins s1 u I r⟩) (fun s H C cl fp hp => ⟨fun pins s1 σ H1 Q I h => h s H C cl fp hp pins s1 I⟩) hf
    (compR_core (own := own) (R := fun d Γ1 => P.nx (Γ1.set i (some (.im d)))) I hs rfl hi hl no h0 ht he hd s (Q := fun v H' => D.nx (σ.set i (some v)) H') (fun v d H' Γ' q s' => r.nx _ H' _ q s'.store) (r.ex σ)) fun L ce s' m H' I' hq hn f => ?_) fun _ s' hq => wpAny_pure (wpAny_pure hq))
  show wpAny _ _ (assign (.Name y py) B.X.env (.ref L)) _ _ _
  refine wpAny_assign_Name (store_ok2 (v := V.ref L) I' B.nd hy (.inl hyl) rfl (fun s2 I2 ⟨a, sb, ha⟩ => ?_) (.inr hyl))
  obtain ⟨f0, f1, f2, f3, f4, f5⟩ := f
  have haC : ce.locals ≠ a := by
    rcases ha with z | z
    · rw [z]
      exact f1
    · exact fun e => f4 y a z e.symm
  exact ⟨m, hn.sameBut sb haC, fun h3 sb3 => ⟨_, H', I2.turned (t' := s2.toks) (fun b o hb e => (sb3.2 b hb).trans e) f0 f1 f3 f4 f5, hq⟩⟩
end
end Sd

set_option Elab.async false
set_option linter.all false
set_option maxRecDepth 100000
set_option maxHeartbeats 4000000
set_option exponentiation.threshold 10000
namespace Sd
open PySem PySem.Spec PyProof.Rows L2
/-- names one behind another -/
def nameN : Nat → List (List Nat) → List Tk → Pr (List (List Nat))
  | 0, acc, ts => .ok acc ts
  | n + 1, acc, ts => (nameM ts).bind fun a us => nameN n (acc ++ [a]) us
theorem names3_N (ts : List Tk) : names3 ts = nameN 3 [] ts := rfl
section
variable {P : Program} {w : World} {K : PySem.W.Frag} {mg : Str → Option Value} {base : Heap} {Ck Cd Cx : Addr}
theorem sc_seam : FnScope ["self", "first", "turn"] ["self"] (defScope m_Reader_seam) := ⟨rfl, rfl, rfl, by decide +kernel, rfl, by decide +kernel, by decide +kernel⟩
theorem mm_seam (T : MethT K Cd "seam" "Reader.seam" m_Reader_seam ["self"]) (M : SmT P w K mg base Ck Cd Cx) (hR : mg "range" = none) : Mm (L2N.CX P w) P w K mg base Cd "seam" 7 (M_rd Ck Cx [] dSt seamM) := mmN T fun f fd Fu => by
  have h6 : 6 ≤ 6 := Nat.le_refl 6
  refine mm_intro Fu sc_seam (fun gs ds gs' r h => ?_) fun cd A outer s H E W a room gs ds gs' r h => ?_
  · obtain ⟨S, ts, _, rfl, rfl, _⟩ := h
    rfl
  · obtain ⟨S, ts, ok, rfl, rfl, rfl, rfl⟩ := h
    generalize hq : seamM ts = q
    unfold seamM at hq
    rw [names3_N] at hq
    refine ss_cons (sw_setLcR (own := [("turn", 2)]) (ds := rangeD 0 3) 1 [2] [2] (fun d => [d]) (fun i acc Γ1 => ∃ (l : List (List Nat)) (us : List Tk), acc = l.map tx ∧ l.length = i ∧ i ≤ 3 ∧ RdOk S us ∧ (nameN (3 - i) l us).bind (fun a us => (needM "," us).bind fun _ us => (names3 us).bind fun b us => .ok (.seam (a ++ b)) us) = q ∧ Γ1 = [some (.mu a Cd (rdG Ck S us)), none, none])
      (sd_range (j := 3) hR de_int (by decide) (by decide)) rfl (by decide) rfl ⟨[], ts, rfl, rfl, Nat.zero_le _, ok, hq, rfl⟩ (fun F σ0 s H cl C fp hp d _ => tg_name 2) ?_ ?_)
    · rintro F σ0 s H cl C fp hp i d acc Γ1 hd hacc ⟨l, us, rfl, hl, hi, ok, hq, rfl⟩
      have hi3 : i < 3 := by
        have z := (List.getElem?_eq_some_iff.mp hd).1
        simpa [rangeD] using z
      obtain ⟨m, hm⟩ : ∃ m, 3 - i = m + 1 := ⟨2 - i, by omega⟩
      rw [hm] at hq
      unfold nameN at hq
      cases e : nameM us with
      | bad vs =>
        rw [e] at hq
        replace hq : Pr.bad vs = q := hq
        subst hq
        exact ew_mmeth0 0 M.own_name (hk := h6) (hi := ⟨_, rfl, rfl⟩) (h := ⟨_, _, _, rfl, rd_bad ok e, rfl, rfl⟩)
      | ok n vs =>
        rw [e] at hq
        replace hq : (nameN m (l ++ [n]) vs).bind _ = q := hq
        exact ew_mmeth0 0 M.own_name (hk := h6) (hi := ⟨_, rfl, rfl⟩) (h := ⟨_, _, _, rfl, rd_ok ok e, l ++ [n], vs, by simp, by simp [hl], hi3, ok.of (sfx_name.at e), by rw [show 3 - (i + 1) = m by omega]; exact hq, rfl⟩)
    · rintro acc Γ1 ⟨l, us, rfl, hl, _, ok, hq, rfl⟩
      replace hq : (needM "," us).bind _ = q := hq
      have hl : l.length = 3 := hl.trans (by simp [rangeD])
      cases e1 : needM "," us with
      | bad vs =>
        rw [e1] at hq
        subst hq
        exact ss_cons (sw_expr (ew_mmeth 0 (M.need ",") (hk := h6) (hi := ⟨_, rfl, rfl⟩) (h := aw_pure (des_cons de_str des_nil) ⟨_, _, _, rfl, rd_bad ok e1, rfl, rfl⟩)))
      | ok x1 vs =>
        rw [e1] at hq
        replace hq : (names3 vs).bind _ = q := hq
        rw [names3_N] at hq
        refine ss_cons (sw_expr (ew_mmeth 0 (M.need ",") (hk := h6) (hi := ⟨_, rfl, rfl⟩) (h := aw_pure (des_cons de_str des_nil) ⟨_, _, _, rfl, rd_ok ok e1, ?_⟩)))
        have ok := ok.of ((sfx_need _).at e1)
        refine ss_one (sw_ret (ew_tup (aw_cons (ew_pure de_str (aw_cons (ew_op (ew_pure (de_var 1) (ew_compR (own := [("turn", 2)]) (ds := rangeD 0 3) [2] [2] (fun d => [d]) (fun i acc Γ1 => ∃ (l2 : List (List Nat)) (us : List Tk), acc = l2.map tx ∧ l2.length = i ∧ i ≤ 3 ∧ RdOk S us ∧ (nameN (3 - i) l2 us).bind (fun b us => .ok (.seam (l ++ b)) us) = q ∧ Γ1 = [some (.mu a Cd (rdG Ck S us)), some (.im (.lst (l.map tx))), none])
          (sd_range (j := 3) hR de_int (by decide) (by decide)) rfl (by decide) rfl ⟨[], vs, rfl, rfl, Nat.zero_le _, ok, hq, rfl⟩ (fun F σ0 s H cl C fp hp d _ => tg_name 2) ?_ ?_))))))))
        · rintro F σ0 s H cl C fp hp i d acc Γ1 hd hacc ⟨l2, us, rfl, hl2, hi, ok, hq, rfl⟩
          have hi3 : i < 3 := by
            have z := (List.getElem?_eq_some_iff.mp hd).1
            simpa [rangeD] using z
          obtain ⟨m, hm⟩ : ∃ m, 3 - i = m + 1 := ⟨2 - i, by omega⟩
          rw [hm] at hq
          unfold nameN at hq
          cases e : nameM us with
          | bad vs =>
            rw [e] at hq
            replace hq : Pr.bad vs = q := hq
            subst hq
            exact ew_mmeth0 0 M.own_name (hk := h6) (hi := ⟨_, rfl, rfl⟩) (h := ⟨_, _, _, rfl, rd_bad ok e, rfl, rfl⟩)
          | ok n vs =>
            rw [e] at hq
            replace hq : (nameN m (l2 ++ [n]) vs).bind _ = q := hq
            exact ew_mmeth0 0 M.own_name (hk := h6) (hi := ⟨_, rfl, rfl⟩) (h := ⟨_, _, _, rfl, rd_ok ok e, l2 ++ [n], vs, by simp, by simp [hl2], hi3, ok.of (sfx_name.at e), by rw [show 3 - (i + 1) = m by omega]; exact hq, rfl⟩)
        · rintro acc Γ1 ⟨l2, us, rfl, hl2, _, ok, hq, rfl⟩
          have hl2 : l2.length = 3 := hl2.trans (by simp [rangeD])
          replace hq : Pr.ok (Stt.seam (l ++ l2)) us = q := hq
          subst hq
          refine fun T σ Γ v w H Q s k => od_cat (by rw [List.length_map, List.length_map, hl, hl2, sizeLine_eq]; decide) T σ Γ v w H Q s fun z d H' e s' => k z d H' ?_ s'
          subst e
          refine aw_nil ⟨?_, rfl⟩
          show Res.ret (.tup [.str "seam", .lst ((l ++ l2).map tx)]) = _
          rw [List.map_append]
end
end Sd

set_option Elab.async false
set_option linter.all false
set_option maxRecDepth 100000
set_option maxHeartbeats 4000000
set_option exponentiation.threshold 10000
namespace Sd
open PySem PySem.Spec PyProof.Rows L2
section
variable {K : PySem.W.Frag} {h : Heap} {mg : Str → Option Value} {w : World}
/-- a table's entries -/
def TabL : List DictEntry → List (Str × Str) → Prop
  | [], [] => True
  | e :: r, (k, v) :: s => (∃ t, e.key = .str k t) ∧ (∃ t, e.val = .str v t) ∧ TabL r s
  | _, _ => False
theorem tabL_find {z : Str} : ∀ {es : List DictEntry} {tab : List (Str × Str)}, TabL es tab → (tab.lookup z = none → es.find? (·.key.isStr z) = none) ∧ (∀ v, tab.lookup z = some v → ∃ e t, es.find? (·.key.isStr z) = some e ∧ e.val = .str v t) ∧ es.any (·.refKey) = false
  | [], [], _ => ⟨fun _ => rfl, (fun _ z => nomatch z), rfl⟩
  | e :: r, (k, v) :: s, hh => by
    obtain ⟨⟨t, ek⟩, ⟨t2, ev⟩, hr⟩ := hh
    obtain ⟨i1, i2, i3⟩ := tabL_find (z := z) hr
    have q : e.key.isStr z = (k == z) := by rw [ek]; rfl
    have q2 : e.refKey = false := by
      unfold DictEntry.refKey
      rw [ek]
    have comm : (z == k) = (k == z) := by
      by_cases h : z = k
      · subst h; rfl
      · rw [beq_eq_false_iff_ne.mpr h, beq_eq_false_iff_ne.mpr (Ne.symm h)]
    rw [List.find?_cons, List.lookup_cons, List.any_cons, q, q2, comm, i3]
    cases k == z with
    | true => exact ⟨(fun z => nomatch z), fun v' hv => by cases hv; exact ⟨e, t2, rfl, ev⟩, rfl⟩
    | false => exact ⟨i1, i2, rfl⟩
  | [], _ :: _, hh => hh.elim
  | _ :: _, [], hh => hh.elim
theorem tab_of {a : Addr} {x : Str} {es : Array DictEntry} {n : Nat} {tab : List (Str × Str)} (X : K.In h) (G : h.Ns mainGlobals mg) (am : PySem.W.nsIn K mainGlobals x = some (some (.ref a))) (l : K.lookup a = some ⟨.type "dict", none, .dict es n, #[]⟩)
    (kl : PySem.W.KeysLit w.params es.toList) (low : (a == sysModules) = false) (tl : TabL es.toList tab) : TabT K w mg x tab := by
  refine ⟨a, es, n, PySem.W.mg_of X G am, ⟨l, kl, low⟩, fun z => ?_⟩
  obtain ⟨i1, i2, i3⟩ := tabL_find (z := z) tl
  unfold PySem.W.nsIn
  rw [l]
  dsimp only
  refine ⟨fun e => ?_, fun v e => ?_⟩
  · rw [i1 e, i3]
    rfl
  · obtain ⟨en, t, e1, e2⟩ := i2 v e
    rw [e1]
    exact ⟨t, by rw [← e2]⟩
theorem words_of {l : Addr} {od : Option Addr} {osl : Array (Option Value)} {its : Array Value} {n : Nat} (X : K.In h) (G : h.Ns mainGlobals mg) (a : PySem.W.nsIn K mainGlobals "WORDS" = some (some (.ref l)))
    (o : K.lookup l = some ⟨.type "tuple", od, .seq its n, osl⟩) (hv : Vals (WORDSs.map V.str) its.toList) : WordsT K mg := by
  refine ⟨l, PySem.W.mg_of X G a, fun W H => .tupK ⟨_, _, n, o, rfl, rfl, ?_, hv⟩ ?_⟩
  · have := hv.length
    rw [List.length_map] at this
    show its.size ≤ sizeLine
    rw [← Array.length_toList, ← this]
    decide
  · have : ∀ l : List Str, RpL K W H (l.map V.str) (l.map D.str) := fun l => by
      induction l with
      | nil => exact .nil
      | cons x r ih => exact .cons (.str x) ih
    exact this _
end
/-! ### what all laws of drafts have in common -/
structure Dx (K : PySem.W.Frag) (w : World) (mg : Str → Option Value) (Ck Cd Cx Cr : Addr) : Prop where
  n_all : mg "all" = none
  n_len : mg "len" = none
  n_range : mg "range" = none
  n_tuple : mg "tuple" = none
  n_enum : mg "enumerate" = none
  n_ord : mg "ord" = none
  n_dict : mg "dict" = none
  n_ve : mg "ValueError" = none
  vV : PySem.W.findCls K (.type "ValueError") (.type "type") "__init__" = some (.val (.builtin "ValueError.__init__"))
  c_dt : ∃ t, mg "DIGITS" = some (.str digS t)
  c_let : ∃ t, mg "LETTERS" = some (.str letS t)
  c_signs : ∃ t, mg "SIGNS" = some (.str sgnS t)
  c_letin : ∃ t, mg "LET_IN" = some (.str letinS t)
  c_strange : ∃ t, mg "STRANGE" = some (.str "\t" t)
  c_name : ∃ t, mg "NAME" = some (.str "name" t)
  c_word : ∃ t, mg "WORD" = some (.str "word" t)
  c_number : ∃ t, mg "NUMBER" = some (.str "number" t)
  c_sign : ∃ t, mg "SIGN" = some (.str "sign" t)
  c_words : WordsT K mg
  c_longest : ∃ t, mg "LONGEST_NAME" = some (.int 16 t)
  c_digits : ∃ t, mg "MOST_DIGITS" = some (.int 18 t)
  c_lex : ∃ t, mg "LEXICAL" = some (.int 1 t)
  c_nog : ∃ t, mg "NO_DRAFT_grammar" = some (.int 2 t)
  c_deep : ∃ t, mg "DEEPEST" = some (.int 6 t)
  c_sts : ∃ t, mg "MOST_STATEMENTS" = some (.int 128 t)
  c_least : ∃ t, mg "LEAST_CORNERS" = some (.int 3 t)
  c_most : ∃ t, mg "MOST_CORNERS" = some (.int 16 t)
  c_sums : TabT K w mg "SUM_WORDS" SUMT
  c_places : TabT K w mg "PLACE_WORDS" PLT
  c_bytes : ∃ t, mg "MOST_BYTES" = some (.int 4096 t)
  c_long : ∃ t, mg "TOO_LONG" = some (.int (-1) t)
  c_nodr : ∃ t, mg "NO_DRAFT_drafts" = some (.int (-2) t)
  tk : TkT K Ck
  rd : RdT K Cd
  xC : XF K Cx
  rC : XF K Cr
  nx1 : PySem.W.findIn K (.ref Cx) "kind" = some none
  nx2 : PySem.W.findIn K (.ref Cx) "place" = some none
  nr1 : PySem.W.findIn K (.ref Cr) "refusal" = some none
  nr2 : PySem.W.findIn K (.ref Cr) "told" = some none
  gx : mg "TextFault" = some (.ref Cx)
  gr : mg "Refused" = some (.ref Cr)
  x_text : ExcT K mg "TextFault" Cx "TextFault.__init__" m_TextFault_init ["self", "kind", "place"]
  x_ref : ExcT K mg "Refused" Cr "Refused.__init__" m_Refused_init ["self", "refusal", "told"]
  i_token : InitT K mg "Token" Ck "Token.__init__" m_Token_init ["self", "family", "text", "place"]
  i_reader : InitT K mg "Reader" Cd "Reader.__init__" m_Reader_init ["self", "text"]
  t_require : FunT K mg "require" s_require ["is_so", "refusal"]
  t_text_of : FunT K mg "text_of" s_text_of ["row"]
  t_run_of : FunT K mg "run_of" s_run_of ["text", "at", "signs"]
  t_number_at : FunT K mg "number_at" s_number_at ["text", "at"]
  t_token_at : FunT K mg "token_at" s_token_at ["text", "at"]
  t_tokens_of : FunT K mg "tokens_of" s_tokens_of ["text"]
  t_statements_of : FunT K mg "statements_of" s_statements_of ["text"]
  t_told : FunT K mg "told" s_told ["number", "row", "signed"]
  t_refused : FunT K mg "refused" s_refused ["e"]
  t_want_short : FunT K mg "want_short" s_want_short ["rows"]
  t_draft_in : FunT K mg "draft_in" s_draft_in ["t"]
  m_says : MethT K Ck "says" "Token.says" m_Token_says ["self", "text"]
  m_end : MethT K Cd "is_at_end" "Reader.is_at_end" m_Reader_is_at_end ["self"]
  m_here : MethT K Cd "here" "Reader.here" m_Reader_here ["self"]
  m_allow : MethT K Cd "allow" "Reader.allow" m_Reader_allow ["self", "is_so"]
  m_take : MethT K Cd "take" "Reader.take" m_Reader_take ["self"]
  m_comes : MethT K Cd "comes" "Reader.comes" m_Reader_comes ["self", "text"]
  m_need : MethT K Cd "need" "Reader.need" m_Reader_need ["self", "text"]
  m_own_name : MethT K Cd "own_name" "Reader.own_name" m_Reader_own_name ["self"]
  m_parts : MethT K Cd "parts_within" "Reader.parts_within" m_Reader_parts_within ["self", "word", "kinds", "deep"]
  m_place : MethT K Cd "place_node" "Reader.place_node" m_Reader_place_node ["self", "deep"]
  m_pair : MethT K Cd "pair" "Reader.pair" m_Reader_pair ["self", "deep"]
  m_sum : MethT K Cd "sum_at" "Reader.sum_at" m_Reader_sum_at ["self", "deep"]
  m_product : MethT K Cd "product" "Reader.product" m_Reader_product ["self", "deep"]
  m_factor : MethT K Cd "factor" "Reader.factor" m_Reader_factor ["self", "deep"]
  m_within : MethT K Cd "within" "Reader.within" m_Reader_within ["self", "deep"]
  m_piece : MethT K Cd "piece" "Reader.piece" m_Reader_piece ["self"]
  m_seam : MethT K Cd "seam" "Reader.seam" m_Reader_seam ["self"]
  m_given : MethT K Cd "given_name" "Reader.given_name" m_Reader_given_name ["self"]
  m_one : MethT K Cd "one_statement" "Reader.one_statement" m_Reader_one_statement ["self"]
section
variable {P : Program} {w : World} {K : PySem.W.Frag} {mg : Str → Option Value} {base : Heap} {Ck Cd Cx Cr : Addr}
section
variable (T : Dx K w mg Ck Cd Cx Cr)
include T
theorem Dx.run_of : FnN P w K mg base "run_of" 1 F_run_of := fn_run_of T.t_run_of T.n_len
theorem Dx.number_at : FnN P w K mg base "number_at" 2 F_number_at := fn_number_at T.t_number_at T.n_len T.c_dt T.c_digits T.run_of
theorem Dx.token_mx : Mx (L2N.CX P w) P w K mg base "Token" Ck 1 ["family", "text", "place"] := mx_token T.i_token T.tk
theorem Dx.token_at : FnN P w K mg base "token_at" 3 (F_token_at Ck) := fn_token_at T.t_token_at T.n_len T.c_let T.c_dt T.c_signs T.c_words T.c_longest T.c_word T.c_name T.c_number T.c_sign T.run_of T.number_at T.token_mx
theorem Dx.tokens_of : FnN P w K mg base "tokens_of" 4 (F_tokens_of Ck) := fn_tokens_of T.t_tokens_of T.n_len T.tk T.token_at
theorem Dx.says : MfN P w K mg base Ck "says" 1 (F_says Ck) := fn_says T.m_says T.tk T.c_word T.c_sign
theorem Dx.xt : Xc (L2N.CX P w) P w K mg base "TextFault" Cx 2 ["kind", "place"] := xc_text T.x_text T.nx1 T.nx2 T.vV T.n_ve
theorem Dx.xr : Xc (L2N.CX P w) P w K mg base "Refused" Cr 2 ["refusal", "told"] := xc_refused T.x_ref T.nr1 T.nr2 T.vV T.n_ve
theorem Dx.xrh : XcH (L2.CX P w) P w K mg base "Refused" Cr 2 ["refusal", "told"] := xch_refused T.x_ref T.nr1 T.nr2 T.vV T.n_ve
theorem Dx.here : Mm (L2N.CX P w) P w K mg base Cd "here" 4 (M_rd Ck Cx [] (tkD Ck) hereM) := mm_here T.m_here T.rd T.n_len T.xt
theorem Dx.allow (b : Bool) : Mm (L2N.CX P w) P w K mg base Cd "allow" 5 (M_rd Ck Cx [.bl b] nonD (allowM b)) := mm_allow T.m_allow T.rd T.tk T.c_nog T.xt T.here b
theorem Dx.take : Mm (L2N.CX P w) P w K mg base Cd "take" 5 (M_rd Ck Cx [] tx takeM) := mm_take T.m_take T.rd T.tk T.here
theorem Dx.comes (x : Str) : Mm (L2N.CX P w) P w K mg base Cd "comes" 5 (M_rd Ck Cx [.str x] D.bl (comesM x)) := mm_comes T.m_comes T.here T.says x
theorem Dx.sm : SmT P w K mg base Ck Cd Cx where
  rc := T.rd
  tk := T.tk
  here := T.here
  allow := T.allow
  take := T.take
  comes := T.comes
  need := fun x => mm_need T.m_need x (T.comes x) T.allow T.take
  own_name := mm_own_name T.m_own_name T.tk T.c_name T.here T.allow T.take
  says := T.says
  deepest := T.c_deep
theorem Dx.pr : PrT K w mg Cd := ⟨T.n_enum, T.n_tuple, T.n_len, T.c_name, T.c_number, T.c_sums, T.c_places, T.m_parts, T.m_place, T.m_pair, T.m_sum, T.m_product, T.m_factor, T.m_within⟩
theorem Dx.one : Mm (L2N.CX P w) P w K mg base Cd "one_statement" 31 (M_rd Ck Cx [] dSt stM) := mm_one T.m_one T.sm (lv_top T.pr T.sm) (mm_given_name T.m_given T.sm) (mm_piece T.m_piece T.sm T.n_len T.c_least T.c_most) (mm_seam T.m_seam T.sm T.n_range)
theorem Dx.statements_of : FnN P w K mg base "statements_of" 32 (F_sts Cx) := fn_sts T.t_statements_of T.sm T.n_len T.c_sts (mi_reader T.i_reader T.rd T.n_len T.c_nog T.c_lex T.tokens_of) (mm_end T.m_end T.rd T.n_len T.c_nog) T.one
theorem Dx.text_of : FnN P w K mg base "text_of" 1 F_text_of := fn_text_of T.t_text_of T.n_ord T.n_dict T.c_letin T.c_strange
theorem Dx.require : FnN P w K mg base "require" 4 (F_require Cr) := fn_require T.t_require T.xr
theorem Dx.want_short : FnN P w K mg base "want_short" 5 (F_want_short Cr) := fn_want_short T.t_want_short T.n_len T.n_all T.c_bytes T.c_long T.require
theorem Dx.told : FnN P w K mg base "told" 1 F_told := fn_told T.t_told T.n_len
theorem Dx.draft_in : FnC P w K mg base "draft_in" 33 (F_draft_in Cr) := fn_draft_in T.t_draft_in T.c_nodr T.text_of T.statements_of T.xrh T.gx T.xC.exm T.xC.xfc T.nx1 T.nx2
theorem Dx.refused : ∃ fR fdR, FnW P w K mg base (L2.CX P w) 2 fR fdR ["e"] (spR K Cr G_refused) ∧ mg "refused" = some (.ref fR) ∧ PySem.W.keepIn K (.ref fR) = true ∧ Binds K fdR ["e"] [] := by
  obtain ⟨f, fd, Fu, hm, hk, hb⟩ := T.t_refused
  exact ⟨f, fd, fn_refused Fu T.t_told T.n_len T.rC.xfc T.nr1 T.nr2, hm, hk, hb⟩
end
end
end Sd

set_option exponentiation.threshold 256
set_option Elab.async false
set_option linter.all false
set_option maxRecDepth 100000
set_option maxHeartbeats 4000000
namespace Sd
open PySem PySem.Spec PyProof.Rows L2
/-! ## signs stripped -/
/-- without the signs c ahead; .. behind -/
def lz (c : Nat) (l : List Nat) : List Nat := l.dropWhile fun x => x == c
def rz (c : Nat) (l : List Nat) : List Nat := (l.reverse.dropWhile fun x => x == c).reverse
theorem S_cps (l : List Nat) : (S l).cps.toList = l := rfl
theorem sub_S (l : List Nat) (i j : Nat) : PySem.Builtin.Str.strSub (S l) i j = S ((l.take j).drop i) := by
  unfold PySem.Builtin.Str.strSub
  show (⟨(S l).cps.extract i j⟩ : Str) = ⟨((l.take j).drop i).toArray⟩
  congr 1
  apply Array.ext'
  show ((l.toArray).extract i j).toList = _
  rw [Array.toList_extract, List.extract_eq_drop_take, List.drop_take]
theorem tw_drop {α : Type} (p : α → Bool) (l : List α) : l.drop (l.takeWhile p).length = l.dropWhile p := by
  induction l with
  | nil => rfl
  | cons c r ih =>
    cases e : p c with
    | true => rw [List.takeWhile_cons_of_pos e, List.dropWhile_cons_of_pos e, List.length_cons, List.drop_succ_cons, ih]
    | false => rw [List.takeWhile_cons_of_neg (by simp [e]), List.dropWhile_cons_of_neg (by simp [e])]; rfl
theorem one_goes (c : Nat) : (S [c]).cps.contains = fun x => x == c := by
  funext x
  show (#[c] : Array Nat).contains x = _
  simp
  rfl
theorem lstrip_S (c : Nat) (l : List Nat) : Txt.lstripChars (S l) (S [c]) = S (lz c l) := by
  unfold Txt.lstripChars
  rw [PyProof.Rows.stripBy_eq, one_goes, sub_S]
  unfold stripLo stripHi lz
  rw [if_pos rfl, if_neg Bool.false_ne_true, S_cps, S_len, List.take_length, tw_drop]
theorem rstrip_S (c : Nat) (l : List Nat) : Txt.rstripChars (S l) (S [c]) = S (rz c l) := by
  unfold Txt.rstripChars
  rw [PyProof.Rows.stripBy_eq, one_goes, sub_S]
  unfold stripLo stripHi rz
  rw [if_neg Bool.false_ne_true, if_pos rfl, S_cps, S_len, List.drop_zero, List.drop_zero]
  congr 1
  have h := List.takeWhile_append_dropWhile (p := fun x => x == c) (l := l.reverse)
  have hl := congrArg List.length h
  rw [List.length_append, List.length_reverse] at hl
  have e : l = (l.reverse.dropWhile fun x => x == c).reverse ++ (l.reverse.takeWhile fun x => x == c).reverse := by
    rw [← List.reverse_append, h, List.reverse_reverse]
  have hn : l.length - (l.reverse.takeWhile fun x => x == c).length = ((l.reverse.dropWhile fun x => x == c).reverse).length := by
    rw [List.length_reverse]
    omega
  rw [hn]
  generalize (l.reverse.dropWhile fun x => x == c).reverse = d at e ⊢
  rw [e, List.take_left']
  rfl
section
variable {B : Bx} {o e : Expr} {Γ : Env} {apos pos : Pos}
theorem de_lstrip {a b : Str} (ho : DE B o Γ (.str a)) (he : DE B e Γ (.str b)) (ha : a.length ≤ sizeLine) (hs : starEach [e] B.X.env = [(false, eval e B.X.env)] := by rfl) (hbase : attributeBase o "lstrip" B.X.env (eval o B.X.env) = eval o B.X.env := by rfl) (hline : (apos.endLine == pos.line) = true := by rfl) :
    DE B (.Call (.Attribute o "lstrip" apos) [e] [] pos) Γ (.str (Txt.lstripChars a b)) := de_of fun T σ H Q s q =>
  SemE.of (pe_m1 PySem.F.slot_str_lstrip PySem.F.type_str_lstrip mt_lstripChars semE semE hs hbase hline) (ho.run s fun v H1 s1 => ⟨⟨a, s1.str'⟩, he.run s1 fun w H2 s2 => ⟨a, b, s2.tail.str', by rw [s2.str'], ha, q _ H2 s2.tail.tail.str⟩⟩)
theorem de_rstrip {a b : Str} (ho : DE B o Γ (.str a)) (he : DE B e Γ (.str b)) (ha : a.length ≤ sizeLine) (hs : starEach [e] B.X.env = [(false, eval e B.X.env)] := by rfl) (hbase : attributeBase o "rstrip" B.X.env (eval o B.X.env) = eval o B.X.env := by rfl) (hline : (apos.endLine == pos.line) = true := by rfl) :
    DE B (.Call (.Attribute o "rstrip" apos) [e] [] pos) Γ (.str (Txt.rstripChars a b)) := de_of fun T σ H Q s q =>
  SemE.of (pe_m1 PySem.F.slot_str_rstrip PySem.F.type_str_rstrip mt_rstripChars semE semE hs hbase hline) (ho.run s fun v H1 s1 => ⟨⟨a, s1.str'⟩, he.run s1 fun w H2 s2 => ⟨a, b, s2.tail.str', by rw [s2.str'], ha, q _ H2 s2.tail.tail.str⟩⟩)
/-- a, (b, c) -/
theorem tg_nest {tg ta tb tc : Expr} {n m o : Str} {p1 p2 p3 t1 t2 : Pos} {k1 k2 : Nat} {d1 d2 d3 : D} (i j k : Nat) (hh : B.hot = false := by rfl) (hN : B.X.N[i]? = some n := by rfl) (hx : Loc B.X.env.scope n := by first | exact Or.inl rfl | exact Or.inr rfl) (hf : B.X.fn n = true ∨ B.X.env.scope.names.lookup n = some .local := by first | exact .inl rfl | exact .inr rfl)
    (hN2 : B.X.N[j]? = some m := by rfl) (hx2 : Loc B.X.env.scope m := by first | exact Or.inl rfl | exact Or.inr rfl) (hf2 : B.X.fn m = true ∨ B.X.env.scope.names.lookup m = some .local := by first | exact .inl rfl | exact .inr rfl)
    (hN3 : B.X.N[k]? = some o := by rfl) (hx3 : Loc B.X.env.scope o := by first | exact Or.inl rfl | exact Or.inr rfl) (hf3 : B.X.fn o = true ∨ B.X.env.scope.names.lookup o = some .local := by first | exact .inl rfl | exact .inr rfl)
    (hs : (assignEach [.Name n p1, .Tuple [.Name m p2, .Name o p3] k2 t2] B.X.env).map (·.2) = assign (.Name n p1) B.X.env :: (assignEach [.Tuple [.Name m p2, .Name o p3] k2 t2] B.X.env).map (·.2) := by rfl)
    (hs2 : (assignEach [.Tuple [.Name m p2, .Name o p3] k2 t2] B.X.env).map (·.2) = assign (.Tuple [.Name m p2, .Name o p3] k2 t2) B.X.env :: (assignEach [] B.X.env).map (·.2) := by rfl)
    (hs3 : (assignEach [.Name m p2, .Name o p3] B.X.env).map (·.2) = assign (.Name m p2) B.X.env :: (assignEach [.Name o p3] B.X.env).map (·.2) := by rfl) (hs4 : (assignEach [.Name o p3] B.X.env).map (·.2) = assign (.Name o p3) B.X.env :: (assignEach [] B.X.env).map (·.2) := by rfl)
    (hn : (assignEach [.Name n p1, .Tuple [.Name m p2, .Name o p3] k2 t2] B.X.env).length = 2 := by rfl) (hst : (assignEach [.Name n p1, .Tuple [.Name m p2, .Name o p3] k2 t2] B.X.env).findIdx? (·.1) = none := by rfl)
    (hn2 : (assignEach [.Name m p2, .Name o p3] B.X.env).length = 2 := by rfl) (hst2 : (assignEach [.Name m p2, .Name o p3] B.X.env).findIdx? (·.1) = none := by rfl) :
    TgN B (.Tuple [.Name n p1, .Tuple [.Name m p2, .Name o p3] k2 t2] k1 t1) (.tup [d1, .tup [d2, d3]]) [i, j, k] [d1, d2, d3] :=
  ⟨rfl, fun T σ H v Q Γ s q => SemG.of (pg_tup (B.calm hh) (pgs_cons (pg_name B.nd hN hx hf) (pgs_cons (pg_tup (B.calm hh) (pgs_cons (pg_name B.nd hN2 hx2 hf2) (pgs_cons (pg_name B.nd hN3 hx3 hf3) pgs_nil hs4) hs3) hn2 hst2) pgs_nil hs2) hs) hn hst) (by
    obtain ⟨W, g⟩ := s
    obtain ⟨l, xs, rfl, hq, hr⟩ := rpTup g.top
    obtain ⟨v1, v2, rfl, r1, r2⟩ := rplTwo hr
    obtain ⟨l2, ys, rfl, hq2, hr2⟩ := rpTup r2
    obtain ⟨v3, v4, rfl, r3, r4⟩ := rplTwo hr2
    exact ⟨l, _, rfl, hq, rfl, v1, _, rfl, .ref l2, [], rfl, ⟨l2, _, rfl, hq2, rfl, v3, _, rfl, v4, [], rfl, rfl, rfl, q [v1, v3, v4] rfl (g.tl.with (.cons r1 (.cons r3 (.cons r4 .nil))))⟩⟩)⟩
end
end Sd

set_option Elab.async false
set_option linter.all false
set_option maxRecDepth 100000
set_option maxHeartbeats 4000000
set_option exponentiation.threshold 10000
namespace Sd
open PySem PySem.Spec PyProof.Rows L2
/-! # Printing: the mirror -/
def digP (l : List Nat) : List Nat :=
  if rz 48 ((cutN 46 l).2.getD []) = [] then (if lz 48 (cutN 46 l).1 = [] then [48] else lz 48 (cutN 46 l).1)
  else (if lz 48 (cutN 46 l).1 = [] then [48] else lz 48 (cutN 46 l).1) ++ 46 :: rz 48 ((cutN 46 l).2.getD [])
def wordE : Nd → Str
  | .num _ => "number"
  | .name _ => "name"
  | .neg _ => "less"
  | .op c _ _ _ => kindS c
  | .call1 f _ => fnW f
  | .call2 f _ _ => fnW f
  | .call3 f _ _ _ => fnW f
  | .call4 f _ _ _ _ => fnW f
def brkT (w : Str) (ws : List Str) (l : List (List Nat)) : List (List Nat) := if decide (w ∈ ws) = true then [40] :: (l ++ [[41]]) else l
def w0 (c : Nat) : List Str := if isAdd c = true then [] else ["sum"]
def w1 (c : Nat) : List Str := if isAdd c = true then ["sum"] else ["sum", "product"]
def fnL (f : Nat) : List Nat := (fnW f).cps.toList
def commaT : List (List (List Nat)) → List (List Nat)
  | [] => []
  | [l] => l
  | l :: m :: r => l ++ [44] :: commaT (m :: r)
def callT (f : Nat) (ls : List (List (List Nat))) : List (List Nat) := (if f = 4 then [] else [fnL f]) ++ ([40] :: (commaT ls ++ [[41]]))
def tokN : Nd → List (List Nat)
  | .num b => [digP b]
  | .name b => [b]
  | .neg a => [45] :: brkT (wordE a) ["sum", "product"] (tokN a)
  | .op c j a b => (if j = true then tokN a else brkT (wordE a) (w0 c) (tokN a)) ++ [c] :: brkT (wordE b) (w1 c) (tokN b)
  | .call1 f a => callT f [tokN a]
  | .call2 f a b => callT f [tokN a, tokN b]
  | .call3 f a b c => callT f [tokN a, tokN b, tokN c]
  | .call4 f a b c d => callT f [tokN a, tokN b, tokN c, tokN d]
/-- how deep; a row's parts how deep -/
def dpr : Nd → Nat × Nat
  | .num _ => (1, 0)
  | .name _ => (1, 0)
  | .neg a => (1 + (dpr a).1, 0)
  | .op _ j a b => (1 + max (if j = true then (dpr a).2 else (dpr a).1) (dpr b).1, max (if j = true then (dpr a).2 else (dpr a).1) (dpr b).1)
  | .call1 _ a => (1 + (dpr a).1, 0)
  | .call2 _ a b => (1 + max (dpr a).1 (dpr b).1, 0)
  | .call3 _ a b c => (1 + max (dpr a).1 (max (dpr b).1 (dpr c).1), 0)
  | .call4 _ a b c d => (1 + max (dpr a).1 (max (dpr b).1 (max (dpr c).1 (dpr d).1)), 0)
def okW : Nd → Prop
  | .num b => b.length ≤ 5000
  | .name _ => True
  | .neg a => okW a
  | .op c j a b => okW a ∧ okW b ∧ (j = true → ∃ c' j' a' b', a = .op c' j' a' b' ∧ isAdd c' = isAdd c)
  | .call1 _ a => okW a
  | .call2 _ a b => okW a ∧ okW b
  | .call3 _ a b c => okW a ∧ okW b ∧ okW c
  | .call4 _ a b c d => okW a ∧ okW b ∧ okW c ∧ okW d
/-- a row's parts -/
def partsE : Nd → List (List Nat × Nd)
  | .op c j a b => (if j = true then partsE a else [(if isAdd c = true then [43] else [42], a)]) ++ [([c], b)]
  | _ => []
def pD (p : List Nat × Nd) : D := .tup [tx p.1, dN p.2]
theorem dr_parts : ∀ e : Nd, (dr e).2 = (partsE e).map pD
  | .num _ => rfl
  | .name _ => rfl
  | .neg _ => rfl
  | .call1 _ _ => rfl
  | .call2 _ _ _ => rfl
  | .call3 _ _ _ _ => rfl
  | .call4 _ _ _ _ _ => rfl
  | .op c j a b => by
    show (if j = true then (dr a).2 else [.tup [.str (headS c), (dr a).1]]) ++ [.tup [tx [c], (dr b).1]] = ((if j = true then partsE a else [(if isAdd c = true then [43] else [42], a)]) ++ [([c], b)]).map pD
    rw [List.map_append]
    cases j with
    | true => rw [if_pos rfl, if_pos rfl, dr_parts a]; rfl
    | false =>
      rw [if_neg Bool.false_ne_true, if_neg Bool.false_ne_true]
      unfold headS
      cases isAdd c <;> rfl
theorem dN_head : ∀ e : Nd, ∃ r, dN e = .tup (.str (wordE e) :: r)
  | .num _ => ⟨_, rfl⟩
  | .name _ => ⟨_, rfl⟩
  | .neg _ => ⟨_, rfl⟩
  | .op _ _ _ _ => ⟨_, rfl⟩
  | .call1 _ _ => ⟨_, rfl⟩
  | .call2 _ _ _ => ⟨_, rfl⟩
  | .call3 _ _ _ _ => ⟨_, rfl⟩
  | .call4 _ _ _ _ _ => ⟨_, rfl⟩
/-- a row printed -/
def rowT (a b : List Str) : List (List Nat × Nd) → List (List Nat)
  | [] => []
  | p :: r => brkT (wordE p.2) a (tokN p.2) ++ r.flatMap fun q => q.1 :: brkT (wordE q.2) b (tokN q.2)
theorem rowT_snoc {a b : List Str} {ps : List (List Nat × Nd)} (q : List Nat × Nd) (h : ps ≠ []) : rowT a b (ps ++ [q]) = rowT a b ps ++ q.1 :: brkT (wordE q.2) b (tokN q.2) := by
  cases ps with
  | nil => exact absurd rfl h
  | cons p r =>
    show brkT _ a _ ++ (r ++ [q]).flatMap _ = (brkT _ a _ ++ r.flatMap _) ++ _
    rw [List.flatMap_append, List.append_assoc]
    congr 2
    simp
theorem parts_ne {c : Nat} {j : Bool} {a b : Nd} : partsE (.op c j a b) ≠ [] := by
  unfold partsE
  simp
theorem tokN_row {c : Nat} {j : Bool} {a b : Nd} (h : okW (.op c j a b)) : tokN (.op c j a b) = rowT (w0 c) (w1 c) (partsE (.op c j a b)) := by
  cases j with
  | false =>
    show brkT _ _ _ ++ _ = rowT _ _ ([(_, a)] ++ [([c], b)])
    show _ = brkT (wordE a) (w0 c) (tokN a) ++ ([c] :: brkT (wordE b) (w1 c) (tokN b) ++ [])
    rw [List.append_nil]
  | true =>
    obtain ⟨_, _, hj⟩ := h
    obtain ⟨c', j', a', b', rfl, hc⟩ := hj rfl
    have ih := tokN_row (c := c') (j := j') (a := a') (b := b') (by assumption)
    show tokN (.op c' j' a' b') ++ _ = rowT _ _ (partsE (.op c' j' a' b') ++ [([c], b)])
    rw [rowT_snoc _ parts_ne, ih]
    have e0 : w0 c' = w0 c := by unfold w0; rw [hc]
    have e1 : w1 c' = w1 c := by unfold w1; rw [hc]
    rw [e0, e1]
theorem parts_ok : ∀ {e : Nd}, okW e → ∀ p ∈ partsE e, okW p.2 ∧ (dpr p.2).1 ≤ (dpr e).2
  | .num _, _, p, hp => absurd hp (by simp [partsE])
  | .name _, _, p, hp => absurd hp (by simp [partsE])
  | .neg _, _, p, hp => absurd hp (by simp [partsE])
  | .call1 _ _, _, p, hp => absurd hp (by simp [partsE])
  | .call2 _ _ _, _, p, hp => absurd hp (by simp [partsE])
  | .call3 _ _ _ _, _, p, hp => absurd hp (by simp [partsE])
  | .call4 _ _ _ _ _, _, p, hp => absurd hp (by simp [partsE])
  | .op c j a b, h, p, hp => by
    obtain ⟨ha, hb, _⟩ := h
    unfold partsE at hp
    show _ ∧ _ ≤ max (if j = true then (dpr a).2 else (dpr a).1) (dpr b).1
    rcases List.mem_append.mp hp with hp | hp
    · cases j with
      | true =>
        rw [if_pos rfl] at hp ⊢
        obtain ⟨h1, h2⟩ := parts_ok ha p hp
        exact ⟨h1, by omega⟩
      | false =>
        rw [if_neg Bool.false_ne_true] at hp ⊢
        have e := List.mem_singleton.mp hp
        subst e
        exact ⟨ha, Nat.le_max_left _ _⟩
    · have e := List.mem_singleton.mp hp
      subst e
      exact ⟨hb, Nat.le_max_right _ _⟩
theorem commaT_snoc {l : List (List (List Nat))} (x : List (List Nat)) : commaT (l ++ [x]) = if l = [] then x else commaT l ++ [44] :: x := by
  induction l with
  | nil => rfl
  | cons a r ih =>
    rw [if_neg (by simp)]
    cases r with
    | nil => rfl
    | cons b r =>
      show a ++ [44] :: commaT (b :: r ++ [x]) = (a ++ [44] :: commaT (b :: r)) ++ _
      rw [ih, if_neg (by simp), List.append_assoc]
      rfl
theorem brk_len {w : Str} {ws : List Str} {l : List (List Nat)} : l.length ≤ (brkT w ws l).length ∧ (brkT w ws l).length ≤ l.length + 2 := by
  unfold brkT
  split
  · rw [List.length_cons, List.length_append, List.length_cons, List.length_nil]
    omega
  · omega
theorem row_le {a b : List Str} : ∀ (ps : List (List Nat × Nd)) (k : Nat), (rowT a b (ps.take k)).length ≤ (rowT a b ps).length
  | [], k => by simp
  | p :: r, 0 => by simp [rowT]
  | p :: r, k + 1 => by
    rw [List.take_succ_cons]
    show (brkT _ a _ ++ (r.take k).flatMap _).length ≤ (brkT _ a _ ++ r.flatMap _).length
    rw [List.length_append, List.length_append]
    have e : r.flatMap (fun q : List Nat × Nd => q.1 :: brkT (wordE q.2) b (tokN q.2)) = (r.take k).flatMap (fun q : List Nat × Nd => q.1 :: brkT (wordE q.2) b (tokN q.2)) ++ (r.drop k).flatMap (fun q : List Nat × Nd => q.1 :: brkT (wordE q.2) b (tokN q.2)) := by
      rw [← List.flatMap_append, List.take_append_drop]
    rw [e, List.length_append]
    omega
theorem row_part {a b : List Str} : ∀ {ps : List (List Nat × Nd)} {p : List Nat × Nd}, p ∈ ps → (tokN p.2).length ≤ (rowT a b ps).length
  | q :: r, p, h => by
    show _ ≤ (brkT _ a _ ++ r.flatMap _).length
    rw [List.length_append]
    rcases List.mem_cons.mp h with rfl | h
    · have := (brk_len (w := wordE p.2) (ws := a) (l := tokN p.2)).1
      omega
    · have h1 := (brk_len (w := wordE p.2) (ws := b) (l := tokN p.2)).1
      have h2 := (List.sublist_flatten_of_mem (List.mem_map.mpr ⟨p, h, rfl⟩ : (p.1 :: brkT (wordE p.2) b (tokN p.2)) ∈ r.map fun q : List Nat × Nd => q.1 :: brkT (wordE q.2) b (tokN q.2))).length_le
      rw [← List.flatMap_def] at h2
      rw [List.length_cons] at h2
      omega
theorem comma_le : ∀ (ls : List (List (List Nat))) (k : Nat), (commaT (ls.take k)).length ≤ (commaT ls).length
  | [], k => by simp
  | l :: r, 0 => by simp [commaT]
  | [l], k + 1 => by simp [commaT]
  | l :: m :: r, 1 => by
    show l.length ≤ (l ++ [44] :: commaT (m :: r)).length
    rw [List.length_append]
    omega
  | l :: m :: r, k + 2 => by
    show (l ++ [44] :: commaT ((m :: r).take (k + 1))).length ≤ (l ++ [44] :: commaT (m :: r)).length
    have := comma_le (m :: r) (k + 1)
    rw [List.length_append, List.length_append, List.length_cons, List.length_cons]
    omega
theorem comma_part : ∀ {ls : List (List (List Nat))} {l : List (List Nat)}, l ∈ ls → l.length ≤ (commaT ls).length
  | [a], l, h => by
    have := List.mem_singleton.mp h
    subst this
    exact Nat.le_refl _
  | a :: b :: r, l, h => by
    show _ ≤ (a ++ [44] :: commaT (b :: r)).length
    rw [List.length_append, List.length_cons]
    rcases List.mem_cons.mp h with rfl | h
    · omega
    · have := comma_part (ls := b :: r) h
      omega
theorem fnL_S (f : Nat) : fnW f = S (fnL f) := rfl
theorem fn_words (f : Nat) : fnW f ∈ ([fnW 0, fnW 1, fnW 2, fnW 3, fnW 4, fnW 5, fnW 6, fnW 7, fnW 8, fnW 9, fnW 10] : List Str) := by
  match f with
  | 0 => simp
  | 1 => simp
  | 2 => simp
  | 3 => simp
  | 4 => simp
  | 5 => simp
  | 6 => simp
  | 7 => simp
  | 8 => simp
  | 9 => simp
  | f + 10 =>
    have : fnW (f + 10) = fnW 10 := rfl
    rw [this]
    simp
theorem fn_not (f : Nat) : decide (fnW f = ("name" : Str)) = false ∧ decide (fnW f = ("number" : Str)) = false ∧ decide (fnW f = ("sum" : Str)) = false ∧ decide (fnW f = ("product" : Str)) = false ∧ decide (fnW f = ("less" : Str)) = false := by
  have all : ∀ x ∈ ([fnW 0, fnW 1, fnW 2, fnW 3, fnW 4, fnW 5, fnW 6, fnW 7, fnW 8, fnW 9, fnW 10] : List Str), decide (x = ("name" : Str)) = false ∧ decide (x = ("number" : Str)) = false ∧ decide (x = ("sum" : Str)) = false ∧ decide (x = ("product" : Str)) = false ∧ decide (x = ("less" : Str)) = false := by decide +kernel
  exact all _ (fn_words f)
theorem fn_at (f : Nat) : decide (fnW f = ("at" : Str)) = decide (f = 4) := by
  match f with
  | 0 => decide +kernel
  | 1 => decide +kernel
  | 2 => decide +kernel
  | 3 => decide +kernel
  | 4 => decide +kernel
  | 5 => decide +kernel
  | 6 => decide +kernel
  | 7 => decide +kernel
  | 8 => decide +kernel
  | 9 => decide +kernel
  | f + 10 =>
    have : fnW (f + 10) = fnW 10 := rfl
    rw [this, decide_eq_false (show ¬ f + 10 = 4 by omega)]
    decide +kernel
theorem kind_of (c : Nat) : kindS c = if isAdd c = true then ("sum" : Str) else "product" := rfl
end Sd

set_option Elab.async false
set_option linter.all false
set_option maxRecDepth 100000
set_option maxHeartbeats 4000000
set_option exponentiation.threshold 10000
namespace Sd
open PySem PySem.Spec PyProof.Rows L2
theorem cat_S (a b : List Nat) : S a ++ S b = S (a ++ b) := SX.S_cat a b
theorem inF_strs (w : Str) (ws : List Str) : inF (.str w) (ws.map D.str) = decide (w ∈ ws) := by
  unfold inF
  rw [List.any_map, Bool.eq_iff_iff, List.any_eq_true, decide_eq_true_eq]
  constructor
  · rintro ⟨x, hx, h⟩
    have h : (x == w) = true := h
    rw [← eq_of_beq h]
    exact hx
  · exact fun h => ⟨w, h, beq_self_eq_true w⟩
theorem strs_flat (ws : List Str) : (ws.map D.str).all flatD = true := by
  rw [List.all_map]
  exact List.all_eq_true.mpr fun _ _ => rfl
theorem ix_hd {x : D} {r : List D} : IxD (.tup (x :: r)) 0 x := by
  show atI (x :: r) ((0 : Nat) : Int) = some x
  rw [atI_nat (by simp)]
  rfl
theorem szl {n : Nat} (h : n ≤ 1000000) : n ≤ sizeLine := by rw [sizeLine_eq]; omega
section
variable {P : Program} {w : World} {K : PySem.W.Frag} {mg : Str → Option Value} {base : Heap}
theorem sc_digits_printed : FnScope ["text", "head", "point", "behind", "found"] ["text"] (defScope s_digits_printed) := ⟨rfl, rfl, rfl, by decide +kernel, rfl, by decide +kernel, by decide +kernel⟩
def F_dig : FS := fun ds r => ∃ l : List Nat, ds = [tx l] ∧ l.length ≤ 5000 ∧ r = .ret (tx (digP l))
theorem dw_len {α : Type} (p : α → Bool) (l : List α) : (l.dropWhile p).length ≤ l.length := by
  have := congrArg List.length (List.takeWhile_append_dropWhile (p := p) (l := l))
  rw [List.length_append] at this
  omega
theorem lz_len (c : Nat) (l : List Nat) : (lz c l).length ≤ l.length := dw_len _ _
theorem rz_len (c : Nat) (l : List Nat) : (rz c l).length ≤ l.length := by
  unfold rz
  rw [List.length_reverse]
  have := dw_len (fun x => x == c) l.reverse
  rwa [List.length_reverse] at this
theorem fn_digits_printed (T : FunT K mg "digits_printed" s_digits_printed ["text"]) : FnN P w K mg base "digits_printed" 1 F_dig := fnN T fun f fd Fu => by
  refine fn_intro Fu sc_digits_printed (fun ds r h => ?_) fun cd A outer s H E W room ds r h => ?_
  · obtain ⟨l, rfl, _⟩ := h
    rfl
  · obtain ⟨l, rfl, hl, rfl⟩ := h
    obtain ⟨c1, c2⟩ := cut_len 46 l
    have c2' : ((cutN 46 l).2.getD []).length ≤ l.length := by
      cases e : (cutN 46 l).2 with
      | none => exact Nat.zero_le _
      | some q => exact c2 q e
    obtain ⟨pt, hp⟩ : ∃ pt, Txt.partition (S l) (S [46]) = (S (cutN 46 l).1, pt, S ((cutN 46 l).2.getD [])) := by
      rw [partition_cut]
      cases (cutN 46 l).2 <;> exact ⟨_, rfl⟩
    have e1 := congrArg (fun z => z.1) hp
    have e2 := congrArg (fun z => z.2.1) hp
    have e3 := congrArg (fun z => z.2.2) hp
    dsimp only at e1 e2 e3
    unfold digP
    generalize (cutN 46 l).1 = h at *
    generalize (cutN 46 l).2.getD [] = b at *
    have hz := lz_len 48 h
    have bz := rz_len 48 b
    refine ss_cons (sw_unp [1, 2, 3] (ew_pure (de_is (de_partition (a := S l) (b := S [46]) (de_var 0) de_str rfl (by rw [S_len]; exact szl (by omega))) (y := .tup [tx h, .str pt, tx b]) (by rw [e1, e2, e3])) ⟨[tx h, .str pt, tx b], tg_three 1 2 3, ?_⟩))
    refine ss_cons (sw_setD 1 (d := tx (lz 48 h)) (de_is (de_lstrip (a := S h) (b := S [48]) (de_var 1) de_str (by rw [S_len]; exact szl (by omega))) (by rw [lstrip_S])) ?_)
    refine ss_cons (sw_setD 3 (d := tx (rz 48 b)) (de_is (de_rstrip (a := S b) (b := S [48]) (de_var 3) de_str (by rw [S_len]; exact szl (by omega))) (by rw [rstrip_S])) ?_)
    generalize lz 48 h = h' at *
    generalize rz 48 b = b' at *
    refine ss_cons (sw_setD 4 (d := tx (if h' = [] then [48] else h')) (de_is (de_if (k := decide (h' = [])) (td_is (td_cmp (de_var 1) de_str od_eqS) (S_eq (b := []))) (fun _ => de_str) (fun _ => de_var 1)) ?_) ?_)
    · by_cases z : h' = []
      · rw [decide_eq_true z, if_pos rfl, if_pos z]
        rfl
      · rw [decide_eq_false z, if_neg Bool.false_ne_true, if_neg z]
    have fl : (if h' = [] then [48] else h').length ≤ 5001 := by
      split
      · exact Nat.le_of_ble_eq_true rfl
      · omega
    generalize (if h' = [] then [48] else h') = f' at *
    refine ss_one (sw_retD (de_if (k := decide (b' = [])) (td_is (td_cmp (de_var 3) de_str od_eqS) (S_eq (b := []))) (fun _ => de_var 4) (fun _ => de_op (de_op (de_var 4) de_str (od_addS (t := S [46]) (by rw [S_len, S_len]; exact szl (by simp; omega)))) (de_var 3) (od_addS (by rw [cat_S, S_len, S_len]; exact szl (by simp; omega))))) ?_)
    show Res.ret (tx (if b' = [] then f' else f' ++ 46 :: b')) = _
    by_cases z : b' = []
    · rw [decide_eq_true z, if_pos rfl, if_pos z]
    · rw [decide_eq_false z, if_neg Bool.false_ne_true, if_neg z, cat_S, cat_S, List.append_assoc]
      rfl
theorem sc_bracketed : FnScope ["node", "words", "found"] ["node", "words"] (defScope s_bracketed) := ⟨rfl, rfl, rfl, by decide +kernel, rfl, by decide +kernel, by decide +kernel⟩
def F_tok (n : Nat) : FS := fun ds r => ∃ e : Nd, ds = [dN e] ∧ okW e ∧ (dpr e).1 ≤ n ∧ (tokN e).length ≤ 100000 ∧ r = .ret (.lst ((tokN e).map tx))
def F_brk (n : Nat) : FS := fun ds r => ∃ (e : Nd) (ws : List Str), ds = [dN e, .tup (ws.map D.str)] ∧ okW e ∧ (dpr e).1 ≤ n ∧ (tokN e).length ≤ 100000 ∧ r = .ret (.lst ((brkT (wordE e) ws (tokN e)).map tx))
def F_row (n : Nat) : FS := fun ds r => ∃ (ps : List (List Nat × Nd)) (a b : List Str), ds = [.lst (ps.map pD), .tup [.tup (a.map D.str), .tup (b.map D.str)]] ∧ (∀ p ∈ ps, okW p.2 ∧ (dpr p.2).1 ≤ n) ∧ (rowT a b ps).length ≤ 100000 ∧ r = .ret (.lst ((rowT a b ps).map tx))
def F_within (n : Nat) : FS := fun ds r => ∃ es : List Nd, ds = [.lst (es.map dN)] ∧ (∀ e ∈ es, okW e ∧ (dpr e).1 ≤ n) ∧ (commaT (es.map tokN)).length ≤ 100000 ∧ r = .ret (.lst (([40] :: (commaT (es.map tokN) ++ [[41]])).map tx))
theorem fn_bracketed {k n : Nat} (T : FunT K mg "bracketed" s_bracketed ["node", "words"]) (hT : FnN P w K mg base "tokens_in" k (F_tok n)) : FnN P w K mg base "bracketed" (k + 1) (F_brk n) := fnN T fun f fd Fu => by
  have hk : k ≤ k := Nat.le_refl k
  refine fn_intro Fu sc_bracketed (fun ds r h => ?_) fun cd A outer s H E W room ds r h => ?_
  · obtain ⟨e, ws, rfl, _⟩ := h
    rfl
  · obtain ⟨e, ws, rfl, ok, hd, hl, rfl⟩ := h
    refine ss_cons (sw_setD 2 (de_call hT (hk := hk) (des_cons (de_var 0) des_nil) ⟨e, rfl, ok, hd, hl, rfl⟩) ?_)
    obtain ⟨rr, er⟩ := dN_head e
    refine ss_one (sw_retD (de_if (k := decide (wordE e ∈ ws)) (td_is (td_cmp (de_ix (x := .tup (.str (wordE e) :: rr)) (de_is (de_var 0) er) de_int ix_hd) (de_var 1) (od_inT rfl (strs_flat ws))) (inF_strs _ _))
      (fun _ => de_op (de_op (de_lst (des_cons de_str des_nil)) (de_var 2) (od_cat (by rw [List.length_map]; exact szl (by simp; omega)))) (de_lst (des_cons de_str des_nil)) (od_cat (by rw [List.length_append, List.length_map]; exact szl (by simp; omega)))) (fun _ => de_var 2)) ?_)
    show Res.ret (.lst ((brkT (wordE e) ws (tokN e)).map tx)) = _
    unfold brkT
    cases decide (wordE e ∈ ws) with
    | false => rfl
    | true =>
      rw [if_pos rfl, if_pos rfl, List.map_cons, List.map_append]
      rfl
theorem sc_row_printed : FnScope ["parts", "words", "found", "k", "sign", "node"] ["parts", "words"] (defScope s_row_printed) := ⟨rfl, rfl, rfl, by decide +kernel, rfl, by decide +kernel, by decide +kernel⟩
theorem enum_get {ds : List D} {i : Nat} {d : D} (h : (enumD ds)[i]? = some d) : ∃ x, ds[i]? = some x ∧ d = .tup [.int (i : Nat), x] := by
  unfold enumD at h
  rw [List.getElem?_mapIdx] at h
  cases e : ds[i]? with
  | none => rw [e] at h; cases h
  | some x =>
    rw [e] at h
    cases h
    exact ⟨x, rfl, rfl⟩
theorem fn_row_printed {k n : Nat} (T : FunT K mg "row_printed" s_row_printed ["parts", "words"]) (hEn : mg "enumerate" = none) (hB : FnN P w K mg base "bracketed" k (F_brk n)) : FnN P w K mg base "row_printed" (k + 1) (F_row n) := fnN T fun f fd Fu => by
  have hk : k ≤ k := Nat.le_refl k
  refine fn_intro Fu sc_row_printed (fun ds r h => ?_) fun cd A outer s H E W room ds r h => ?_
  · obtain ⟨ps, a, b, rfl, _⟩ := h
    rfl
  · obtain ⟨ps, a, b, rfl, ok, hl, rfl⟩ := h
    refine ss_cons (sw_own 2 (aw_nil ⟨Nat.le_of_ble_eq_true rfl, rfl, ?_⟩))
    have hlen : (enumD (ps.map pD)).length = ps.length := by
      unfold enumD
      rw [List.length_mapIdx, List.length_map]
    refine ss_cons (sw_for [3, 4, 5] (fun d => match d with
      | .tup [i, .tup [s, n]] => [i, s, n]
      | _ => []) (fun i Γ => ∃ x y z, Γ = [some (.im (.lst (ps.map pD))), some (.im (.tup [.tup (a.map D.str), .tup (b.map D.str)])), some (.ow ((rowT a b (ps.take i)).map tx)), x, y, z]) (sd_enum hEn (de_var 0)) ⟨none, none, none, rfl⟩ (fun d hd => ?_) (fun i d Γ1 hd hI => ?_) (fun Γ1 hI => ?_))
    · obtain ⟨i, hi⟩ := List.getElem?_of_mem hd
      obtain ⟨x, hx, rfl⟩ := enum_get hi
      rw [List.getElem?_map] at hx
      cases e : ps[i]? with
      | none => rw [e] at hx; cases hx
      | some p =>
        rw [e] at hx
        cases hx
        exact tg_nest (tg := .Name "k" ⟨0, 0, 0, 0⟩) (ta := .Name "k" ⟨0, 0, 0, 0⟩) (tb := .Name "k" ⟨0, 0, 0, 0⟩) (tc := .Name "k" ⟨0, 0, 0, 0⟩) 3 4 5
    · obtain ⟨x, y, z, rfl⟩ := hI
      obtain ⟨q, hx, rfl⟩ := enum_get hd
      rw [List.getElem?_map] at hx
      cases e : ps[i]? with
      | none => rw [e] at hx; cases hx
      | some p =>
        rw [e] at hx
        cases hx
        have hm := List.mem_of_getElem? e
        obtain ⟨ok1, ok2⟩ := ok p hm
        have hil : i < ps.length := (List.getElem?_eq_some_iff.mp e).1
        have hpl : (tokN p.2).length ≤ 100000 := Nat.le_trans (row_part (a := a) (b := b) hm) hl
        have hbl : (brkT (wordE p.2) a (tokN p.2)).length ≤ 100002 ∧ (brkT (wordE p.2) b (tokN p.2)).length ≤ 100002 := ⟨Nat.le_trans brk_len.2 (by omega), Nat.le_trans brk_len.2 (by omega)⟩
        have hrl := Nat.le_trans (row_le (a := a) (b := b) ps i) hl
        refine ss_one (sw_ifD (k := decide (i = 0)) (td_is (td_cmp (de_var 3) de_int od_eq) (decide_eq_decide.mpr (by omega))) (fun z => ?_) fun z => ?_)
        · have z := of_decide_eq_true z
          subst z
          refine ss_one (sw_ext 2 ⟨_, rfl⟩ (ew_pure (de_call hB (hk := hk) (des_cons (de_var 5) (des_cons (de_ix (x := .tup [.tup (a.map D.str), .tup (b.map D.str)]) (de_var 1) de_int rfl) des_nil)) ⟨p.2, a, rfl, ok1, ok2, hpl, rfl⟩) ⟨_, _, rfl, rfl, by rw [List.length_map, List.length_map]; simp only [List.take_zero, rowT, List.length_nil]; omega, some (.im (.int (0 : Nat))), some (.im (tx p.1)), some (.im (dN p.2)), ?_⟩))
          have et : ps.take (0 + 1) = [p] := by
            cases ps with
            | nil => cases e
            | cons p' r => cases e; rfl
          rw [et]
          show _ = [_, _, some (Sl.ow ((brkT (wordE p.2) a (tokN p.2) ++ []).map tx)), _, _, _]
          rw [List.append_nil]
          rfl
        · have z := of_decide_eq_false z
          refine ss_cons (sw_app 2 ⟨_, rfl⟩ (ew_pure (de_var 4) ⟨_, rfl, by rw [List.length_map]; omega, ?_⟩))
          refine ss_one (sw_ext 2 ⟨_, rfl⟩ (ew_pure (de_call hB (hk := hk) (des_cons (de_var 5) (des_cons (de_ix (x := .tup [.tup (a.map D.str), .tup (b.map D.str)]) (de_var 1) de_int rfl) des_nil)) ⟨p.2, b, rfl, ok1, ok2, hpl, rfl⟩) ⟨_, _, rfl, rfl, by rw [List.length_append, List.length_map, List.length_map]; simp only [List.length_cons, List.length_nil]; omega, some (.im (.int (i : Nat))), some (.im (tx p.1)), some (.im (dN p.2)), ?_⟩))
          have et : ps.take (i + 1) = ps.take i ++ [p] := take_one e
          rw [et, rowT_snoc _ (fun zz => by
            have := congrArg List.length zz
            rw [List.length_take, List.length_nil] at this
            omega), List.map_append, List.map_cons]
          show [_, _, some (Sl.ow (((rowT a b (ps.take i)).map tx ++ [tx p.1]) ++ (brkT (wordE p.2) b (tokN p.2)).map tx)), _, _, _] = _
          rw [List.append_assoc]
          rfl
    · obtain ⟨x, y, z, rfl⟩ := hI
      rw [hlen, List.take_length]
      refine ss_freeze 2 rfl ?_
      exact ss_one (sw_retD (de_var 2) rfl)
theorem sc_within_printed : FnScope ["parts", "found", "k", "node"] ["parts"] (defScope s_within_printed) := ⟨rfl, rfl, rfl, by decide +kernel, rfl, by decide +kernel, by decide +kernel⟩
theorem fn_within_printed {k n : Nat} (T : FunT K mg "within_printed" s_within_printed ["parts"]) (hEn : mg "enumerate" = none) (hT : FnN P w K mg base "tokens_in" k (F_tok n)) : FnN P w K mg base "within_printed" (k + 1) (F_within n) := fnN T fun f fd Fu => by
  have hk : k ≤ k := Nat.le_refl k
  refine fn_intro Fu sc_within_printed (fun ds r h => ?_) fun cd A outer s H E W room ds r h => ?_
  · obtain ⟨es, rfl, _⟩ := h
    rfl
  · obtain ⟨es, rfl, ok, hl, rfl⟩ := h
    refine ss_cons (sw_own 1 (aw_cons (ew_pure de_str (aw_nil ⟨Nat.le_of_ble_eq_true rfl, rfl, ?_⟩))))
    have hlen : (enumD (es.map dN)).length = es.length := by
      unfold enumD
      rw [List.length_mapIdx, List.length_map]
    refine ss_cons (sw_for [2, 3] (fun d => match d with
      | .tup [i, n] => [i, n]
      | _ => []) (fun i Γ => ∃ x y, Γ = [some (.im (.lst (es.map dN))), some (.ow (([40] :: commaT ((es.take i).map tokN)).map tx)), x, y]) (sd_enum hEn (de_var 0)) ⟨none, none, rfl⟩ (fun d hd => ?_) (fun i d Γ1 hd hI => ?_) (fun Γ1 hI => ?_))
    · obtain ⟨i, hi⟩ := List.getElem?_of_mem hd
      obtain ⟨x, hx, rfl⟩ := enum_get hi
      exact tg_two 2 3
    · obtain ⟨x, y, rfl⟩ := hI
      obtain ⟨q, hx, rfl⟩ := enum_get hd
      rw [List.getElem?_map] at hx
      cases e : es[i]? with
      | none => rw [e] at hx; cases hx
      | some p =>
        rw [e] at hx
        cases hx
        have hm := List.mem_of_getElem? e
        obtain ⟨ok1, ok2⟩ := ok p hm
        have hil : i < es.length := (List.getElem?_eq_some_iff.mp e).1
        have hpl : (tokN p).length ≤ 100000 := Nat.le_trans (comma_part (List.mem_map.mpr ⟨p, hm, rfl⟩)) hl
        have hrl : (commaT ((es.take i).map tokN)).length ≤ 100000 := by
          have := Nat.le_trans (comma_le (es.map tokN) i) hl
          rwa [List.map_take]
        have et : (es.take (i + 1)).map tokN = (es.take i).map tokN ++ [tokN p] := by rw [take_one e, List.map_append]; rfl
        have step : ∀ (acc : List (List Nat)), acc.length ≤ 100002 → (acc ++ tokN p).map tx = (([40] : List Nat) :: commaT ((es.take (i + 1)).map tokN)).map tx → ∀ (Pq : Post), (∀ Γ, (∃ x y, Γ = [some (Sl.im (.lst (es.map dN))), some (.ow (([40] :: commaT ((es.take (i + 1)).map tokN)).map tx)), x, y]) → Pq.nx Γ) →
            SsW (bxN P w K mg base ["parts", "found", "k", "node"] "within_printed" (defScope s_within_printed) f cd A outer s H E k W (fun _ => False) room sc_within_printed.nd) ((defBody s_within_printed).getD 1 (.Pass ⟨0, 0, 0, 0⟩) |> fun s => match s with | .For _ _ b _ _ => b.drop 1 | _ => [])
              [some (.im (.lst (es.map dN))), some (.ow (acc.map tx)), some (.im (.int (i : Nat))), some (.im (dN p))] Pq := fun acc hacc he Pq hq => by
          refine ss_one (sw_ext 1 ⟨_, rfl⟩ (ew_pure (de_call hT (hk := hk) (des_cons (de_var 3) des_nil) ⟨p, rfl, ok1, ok2, hpl, rfl⟩) ⟨_, _, rfl, rfl, by rw [List.length_map, List.length_map]; omega, hq _ ⟨some (.im (.int (i : Nat))), some (.im (dN p)), ?_⟩⟩))
          rw [← he, List.map_append]
          rfl
        refine ss_cons (sw_ifD (k := decide (0 < i)) (td_is (td_cmp (de_var 2) de_int od_gt) (decide_eq_decide.mpr (by omega))) (fun z => ?_) fun z => ?_)
        · have z := of_decide_eq_true z
          refine ss_one (sw_app 1 ⟨_, rfl⟩ (ew_pure de_str ⟨_, rfl, by rw [List.length_map, List.length_cons]; omega, ?_⟩))
          refine ss_env (step (([40] :: commaT ((es.take i).map tokN)) ++ [[44]]) (by rw [List.length_append, List.length_cons]; simp only [List.length_cons, List.length_nil]; omega) ?_ _ (fun Γ h => h)) ?_
          · rw [et, commaT_snoc, if_neg (fun zz => by
              have := congrArg List.length zz
              rw [List.length_map, List.length_take, List.length_nil] at this
              omega), List.append_assoc]
            rfl
          · rw [List.map_append]
            rfl
        · have z := of_decide_eq_false z
          have i0 : i = 0 := by omega
          subst i0
          refine ss_nil ?_
          refine step ([40] :: commaT ((es.take 0).map tokN)) (by rw [List.length_cons]; omega) ?_ _ (fun Γ h => h)
          rw [et]
          rfl
    · obtain ⟨x, y, rfl⟩ := hI
      rw [hlen, List.take_length]
      refine ss_freeze 1 rfl ?_
      refine ss_one (sw_retD (de_op (de_var 1) (de_lst (des_cons de_str des_nil)) (od_cat (by rw [List.length_map, List.length_cons]; exact szl (by simp only [List.length_cons, List.length_nil]; omega)))) ?_)
      show Res.ret (.lst (([40] :: (commaT (es.map tokN) ++ [[41]])).map tx)) = _
      rw [← List.cons_append, List.map_append]
      rfl
end
end Sd

set_option Elab.async false
set_option linter.all false
set_option maxRecDepth 100000
set_option maxHeartbeats 4000000
set_option exponentiation.threshold 10000
namespace Sd
open PySem PySem.Spec PyProof.Rows L2
abbrev bytD (l : List Nat) : List D := l.map fun (c : Nat) => D.int (c : Int)
def ansR (Cr : Addr) (a : Int × List Nat × List Int) : Res := if a.1 < 0 then .exc Cr (refG (a.2.2.map D.int) a.1) else .ret (toldD a.1 (bytD a.2.1) (a.2.2.map D.int))
def ansL (a : Int × List Nat × List Int) : List Int := a.1 :: (a.2.1.length : Int) :: (a.2.1.map fun c : Nat => (c : Int)) ++ ((a.2.2.length : Int) :: a.2.2)
theorem ans_ret {a : Int × List Nat × List Int} (h : ¬ a.1 < 0) {Cr : Addr} : ansR Cr a = .ret (.lst ((ansL a).map D.int)) := by
  unfold ansR
  rw [if_neg h]
  congr 1
  unfold toldD ansL bytD
  rw [List.length_map, List.length_map]
  simp
theorem ans_exc {a : Int × List Nat × List Int} (h : a.1 < 0) (hb : a.2.1 = []) : toldD a.1 [] (a.2.2.map D.int) = .lst ((ansL a).map D.int) := by
  unfold toldD ansL
  rw [hb, List.length_map]
  simp
section
variable {P : Program} {w : World} {K : PySem.W.Frag} {mg : Str → Option Value} {base : Heap} {Cp Cl Ct Cf Cr : Addr}
/-! ### bytes_of -/
theorem sc_bytes_of : FnScope ["text", "sign"] ["text"] (defScope s_bytes_of) := ⟨rfl, rfl, rfl, by decide +kernel, rfl, by decide +kernel, by decide +kernel⟩
def F_bytes_of : FS := fun ds r => ∃ l : List Nat, ds = [tx l] ∧ l.length < 1000000 ∧ r = .ret (.lst (bytD l))
theorem fn_bytes_of (T : FunT K mg "bytes_of" s_bytes_of ["text"]) (hOrd : mg "ord" = none) : FnN P w K mg base "bytes_of" 1 F_bytes_of := fnN T fun f fd Fu => by
  refine fn_intro Fu sc_bytes_of (fun ds r h => ?_) fun cd A outer s H E W room ds r h => ?_
  · obtain ⟨l, rfl, _⟩ := h
    rfl
  · obtain ⟨l, rfl, hl, rfl⟩ := h
    exact ss_one (sw_retD (de_mapE (own := [("sign", 1)]) (xs := l) 1 (fun c => tx [c]) (fun _ _ => sign_inj) (fun c => .int (c : Int)) (signs_S l ▸ sd_str (de_var 0)) rfl hl
      (he := fun F s H cl C fp c hc => de_bi hOrd (des_cons (de_var 1) des_nil) cd_ord)) rfl)
end
end Sd

set_option Elab.async false
set_option linter.all false
set_option maxRecDepth 100000
set_option maxHeartbeats 4000000
set_option exponentiation.threshold 10000
namespace Sd
open PySem PySem.Spec PyProof.Rows L2
theorem numD_inj {a b : Rat} (h : numD a = numD b) : a = b := by
  injection h with h
  injection h with h1 h
  injection h with h2 h
  injection h1 with h1
  injection h2 with h2
  exact Rat.ext h1 (by omega)
theorem ptD_inj {a b : Pt} (h : ptD a = ptD b) : a = b := by
  injection h with h
  injection h with h1 h
  injection h with h2 h
  exact Prod.ext (numD_inj h1) (numD_inj h2)
theorem edgeD_inj {e e' : Pt × Pt} (h : edgeD e = edgeD e') : e = e' := by
  injection h with h
  injection h with h1 h
  injection h with h2 h
  exact Prod.ext (ptD_inj h1) (ptD_inj h2)
section
variable {P : Program} {w : World} {K : PySem.W.Frag} {mg : Str → Option Value} {base : Heap} {Cp Cl Ct Cf Cr : Addr}
end
end Sd

set_option exponentiation.threshold 256
set_option Elab.async false
set_option linter.all false
set_option maxRecDepth 100000
set_option maxHeartbeats 4000000
namespace Sd
open PySem PySem.Spec PyProof.Rows L2
section
variable {B : Bx} {a b e o : Expr} {es : List Expr} {Γ : Env} {P : Post} {x y : Str} {px py pt pt2 p1 pos apos p : Pos} {ds : List D} {d : D} {n : Str}
/-- x, y = [..], 0 : the list is one's own -/
theorem sw_parO {kt k2 k3 : Nat} {k : Int} {q1 : Pos} (i j : Nat) (h : DEs B es Γ ds) (hes : es.length ≤ 1000) (hiΓ : i < Γ.length) (hng : noG Γ = true) (q : P.nx ((Γ.set i (some (.ow ds))).set j (some (.im (.int k))))) (hi : B.X.N[i]? = some x := by rfl) (hj : B.X.N[j]? = some y := by rfl) (hij : i ≠ j := by decide)
    (hx : B.X.env.scope.names.lookup x = some .local := by rfl) (hy : B.X.env.scope.names.lookup y = some .local := by rfl) (hw : swappedStores [.Tuple [.Name x px, .Name y py] kt pt] (.Tuple [.List es p, .Constant (.int k) k3 q1] k2 pt2) B.X.env = pure (some [x, y]) := by rfl)
    (hs : swapsWithSole [.Tuple [.Name x px, .Name y py] kt pt] (.Tuple [.List es p, .Constant (.int k) k3 q1] k2 pt2) pos.line B.X.env = pure false := by rfl) (h1 : starEach [.List es p, .Constant (.int k) k3 q1] B.X.env = (false, eval (.List es p) B.X.env) :: starEach [.Constant (.int k) k3 q1] B.X.env := by rfl) (h2 : starEach [.Constant (.int k) k3 q1] B.X.env = (false, eval (.Constant (.int k) k3 q1) B.X.env) :: starEach [] B.X.env := by rfl) (hh : B.hot = false := by rfl) :
    SW B (.Assign [.Tuple [.Name x px, .Name y py] kt pt] (.Tuple [.List es p, .Constant (.int k) k3 q1] k2 pt2) pos) Γ P := fun T σ H D s r =>
  SemS.of (ps_par (B.calm hh) B.nd hi hj hij hx hy (pa_cons (pe_lst semA) (pa_cons pe_int pa_nil h2) h1) hw hs) (h T σ H _ s (fun vs ds' H' Γ' ⟨e1, e2⟩ hl s' => ⟨line1000 (by omega), fun a ha => ⟨.ref a, .int k, rfl, r.nx _ _ _ q (by
    subst e1 e2
    obtain ⟨W, g⟩ := s'
    have kp : Kp W (fun b => W b ∨ b = a) H' (upd H' a (.lst vs)) := ⟨fun b u _ e => same_new ha b u e, fun b z => z.elim .inl fun e => .inr (e ▸ ha)⟩
    have g2 := g.tl.owned ha hiΓ (s := .ow ds') ⟨a, vs, rfl, .inr rfl, g.fresh0 ha, upd_same, RpL.keep kp g.top⟩ hng
    exact Sta.store (Sta.int ⟨_, g2⟩))⟩⟩) .no)
/-- whether something is not in a list of one's own -/
theorem td_onotin (i : Nat) (h : Γ[i]? = some (some (.ow ds))) (ha : DE B a Γ d) (hx : plainD d = true) (hy : plainDs ds = true) (sx : SeqAt.shaped (toPy d) = true) (sy : SeqAt.shaped (.list (toPys ds)) = true) (hN : B.X.N[i]? = some n := by rfl) (hv : Vis B.X.env.scope n := by first | exact Or.inl rfl | exact Or.inr (Or.inl rfl) | exact Or.inr (Or.inr rfl))
    (hd : (n == ("__debug__" : Str)) = false := by decide) (hc : (n == ("__classdict__" : Str)) = false := by decide) (hm : behindInMarks .NotIn (.Name n p1) = false := by first | exact nomark _ | rfl) : TD B (.Compare a [.NotIn] [.Name n p1] pos) Γ (!(toPys ds).any fun z => PyData.eqv z (toPy d)) := td_of fun T σ H Q s q =>
  SemT.of (pt_cmpR semO semE (pe_var hN hv hd hc) hm) (ha.run s fun v H1 s1 => by
    obtain ⟨W, g⟩ := id s1
    obtain ⟨u, e, l, xs, rfl, wl, fl, hl, hr⟩ := g.slot i _ h
    exact ⟨.ref l, e, SemO.of (op_notInD B.un65) ⟨_, _, dp_of g.top hx, .lst (SqL.of hl) (dps_of hr hy), sx, sy, ⟨_, rfl, q _ s1.tail⟩⟩⟩)
/-- l.index(k): the first place -/
theorem de_index {is : List Int} {k : Int} {j : Nat} (ho : DE B o Γ (.lst (is.map D.int))) (he : DE B e Γ (.int k)) (hj : is[j]? = some k) (hf : ∀ m, m < j → is[m]? ≠ some k)
    (hb : attributeBase o "index" B.X.env (eval o B.X.env) = eval o B.X.env := by rfl)
    (hfew : ((backTo pos (starEach [e] B.X.env)).all (fun x => !x.1) && (backToKw pos (keywordEach [] B.X.env)).all (fun x => x.1.isSome)
      && decide (([e] : List Expr).length + ([] : List Keyword).length + (if ([] : List Keyword).isEmpty then 0 else 1) < 30)) = true := by rfl)
    (hline : (apos.endLine == pos.line) = true := by rfl) (hse : starEach [e] B.X.env = (false, eval e B.X.env) :: starEach [] B.X.env := by rfl) (hpl : (backTo pos (starEach [] B.X.env)).any (·.1) = false := by rfl) :
    DE B (.Call (.Attribute o "index" apos) [e] [] pos) Γ (.int j) := de_of fun T σ H Q s q =>
  SemE.of (pe_bm PySem.F.plainAttrs_list PySem.F.slot_list_index PySem.F.type_list_index mt_index semE (pa_cons semE pa_nil hse) hb hfew hline hse hpl) (ho.run s fun v H1 s1 => by
    obtain ⟨W, g⟩ := id s1
    obtain ⟨l, xs, rfl, hs, hl, _, hr⟩ := rpLst g.top
    refine ⟨.inl ⟨rfl, _, SqL.of hl⟩, he.run s1 fun w H2 s2 => ?_⟩
    obtain ⟨W2, g2⟩ := id s2
    cases rpInt g2.top
    obtain ⟨l', xs', e', hs2, hl2, _, hr2⟩ := rpLst g2.snd
    cases e'
    have ex := rpl_ints hr2
    subst ex
    have at_ : ∀ (m : Nat) (z : V), (is.map V.int)[m]? = some z → ∃ i, is[m]? = some i ∧ z = V.int i := fun m z e => by
      rw [List.getElem?_map] at e
      cases q : is[m]? with
      | none => rw [q] at e; cases e
      | some i => rw [q] at e; exact ⟨i, rfl, (Option.some.inj e).symm⟩
    refine ⟨l, _, .int k, j, .int k, rfl, rfl, hs2, rfl, ?_, by rw [List.getElem?_map, hj]; rfl, by show (k == k) = true; simp, fun m z hm e => ?_, q _ H2 s2.tail.tail.int⟩
    · rw [List.all_map]
      exact List.all_eq_true.mpr fun i _ => rfl
    · obtain ⟨i, hi, rfl⟩ := at_ m z e
      show (i == k) = false
      rw [beq_eq_false_iff_ne]
      exact fun z => hf m hm (z ▸ hi))
end
/-- [elt for y in it], y a name that an inner comprehension reads -/
theorem de_mapC {α : Type} {xs : List α} {B : Bx} {it elt : Expr} {scope : Scope} {own : List (Str × Nat)} {Γ : Env} {pos : Pos} {y : Str} {py : Pos} (v : Nat) (e : α → D) (inj : ∀ x y, e x = e y → x = y) (g : α → D) (hs : SD B (.Name y py) it Γ (xs.map e)) (ok : blkC B.X.N B.X.env.scope scope own = true) (hl : xs.length < 1000000)
    (hx : ∀ (F : Frame) s H cl C fp, Loc (B.blk F s H scope cl C fp).X.env.scope y := by intros; first | exact Or.inl rfl | exact Or.inr rfl) (hfn : ∀ (F : Frame) s H cl C fp, (B.blk F s H scope cl C fp).X.fn y = true := by intros; rfl)
    (he : ∀ F s H cl C fp, ∀ x ∈ xs, DE (B.blk F s H scope cl C fp) elt ((blkE Γ [v]).set v (some (.im (e x)))) (g x)) (hv : own.map (·.2) = [v] := by rfl) (hy : B.X.N[v]? = some y := by rfl) (hf : ∀ x, foldedSetIterable it B.X.env x = pure x := by intro _; rfl) (hh : B.hot = false := by rfl) :
    DE B (.ListComp elt [⟨.Name y py, it, [], 0⟩] scope pos) Γ (.lst (xs.map g)) := by
  have r := de_compE (B := B) (ifs := []) (own := own) (elt := elt) (pos := pos) [v] [v] (fun x => [e x]) e inj (fun _ => true) g hs ok hl (fun F s H cl C fp x _ => tg_name v hy (hx F s H cl C fp) (.inl (hfn F s H cl C fp))) (fun F s H cl C fp x _ => ts_nil) (fun F s H cl C fp x hx' _ => he F s H cl C fp x hx') hv (by simp) hf hh
  rw [filter_true] at r
  exact r
end Sd

set_option Elab.async false
set_option linter.all false
set_option maxRecDepth 100000
set_option maxHeartbeats 4000000
set_option exponentiation.threshold 10000
namespace Sd
open PySem PySem.Spec PyProof.Rows L2
/-! ### numbers as texts -/
def showI (i : Int) : List Nat := (if i < 0 then [45] else []) ++ dec i.natAbs
theorem str_of_list (s : String) : Str.ofString s = S (s.toList.map Char.toNat) := by
  rw [Str.ofString_eq_toList]
theorem show_str (i : Int) : (Str.ofString (toString i)) = S (showI i) := by
  rw [str_of_list]
  congr 1
  show ((Int.repr i).toList.map Char.toNat) = _
  cases i with
  | ofNat m =>
    have e : (Int.repr (Int.ofNat m)) = String.ofList (Nat.toDigits 10 m) := rfl
    have h : ¬ (Int.ofNat m) < 0 := Int.not_lt.mpr (Int.natCast_nonneg m)
    unfold showI
    rw [e, String.toList_ofList, if_neg h]
    rfl
  | negSucc m =>
    have e : (Int.repr (Int.negSucc m)) = "-" ++ String.ofList (Nat.toDigits 10 (m + 1)) := rfl
    have h : Int.negSucc m < 0 := Int.negSucc_lt_zero m
    unfold showI
    rw [e, String.toList_append, List.map_append, String.toList_ofList, String.toList_ofList, if_pos h]
    rfl
theorem dec_len {n k : Nat} (h : n < 10 ^ k) (hk : 0 < k) : (dec n).length ≤ k := by
  unfold dec
  rw [List.length_map]
  exact (Nat.length_toDigits_le_iff (by decide) hk).mpr h
theorem show_len {i : Int} (h : i.natAbs < 2 ^ 63) : (showI i).length ≤ 21 := by
  have p : (2 : Nat) ^ 63 < 10 ^ 20 := by decide
  have := dec_len (n := i.natAbs) (k := 20) (by omega) (by decide)
  unfold showI
  rw [List.length_append]
  split
  · rw [List.length_singleton]; omega
  · rw [List.length_nil]; omega
theorem text_show (q : Rat) : textN q = showI q.num ++ (if q.den = 1 then [] else 47 :: dec q.den) := by
  unfold textN showI
  rw [List.append_assoc]
  congr 1
  by_cases h : q < 0
  · have : q.num < 0 := by
      have := (rat_lt q 0).mp h
      have e : q.num * 1 < 0 * q.den := this
      omega
    rw [if_pos h, if_pos this]
  · have : ¬ q.num < 0 := fun z => h (by
      rw [rat_lt]
      show q.num * 1 < 0 * q.den
      omega)
    rw [if_neg h, if_neg this]
theorem text_len {q : Rat} (h : Sz 63 q) : (textN q).length ≤ 50 := by
  have h1 := show_len h.1
  have p : (2 : Nat) ^ 63 < 10 ^ 20 := by decide
  have h2 := dec_len (n := q.den) (k := 20) (by have := h.2; omega) (by decide)
  rw [text_show, List.length_append]
  split
  · rw [List.length_nil]; omega
  · rw [List.length_cons]; omega
theorem show_nat (n : Nat) : showI (n : Int) = dec n := by
  unfold showI
  rw [if_neg (by omega), Int.natAbs_natCast]
  rfl
section
variable {P : Program} {w : World} {K : PySem.W.Frag} {mg : Str → Option Value} {base : Heap} {Cp Cl Ct Cf Cr : Addr}
theorem cd_show {B : Bx} {i : Int} (h : i.natAbs < 2 ^ 1300) : CD B (.type "str") [.int i] (tx (showI i)) := by
  have r := cd_strI (B := B) (i := i) (by have := Sz.log h (by omega); omega)
  rw [show_str] at r
  exact r
theorem sc_told_text : FnScope ["text"] ["text"] (defScope s_told_text) := ⟨rfl, rfl, rfl, by decide +kernel, rfl, by decide +kernel, by decide +kernel⟩
def F_told_text : FS := fun ds r => ∃ l : List Nat, ds = [tx l] ∧ l.length < 1000000 ∧ r = .ret (toldD (l.length : Nat) (bytD l) [])
theorem fn_told_text (T : FunT K mg "told_text" s_told_text ["text"]) (hLen : mg "len" = none) (hB : FnN P w K mg base "bytes_of" 1 F_bytes_of) (hT : FnN P w K mg base "told" 1 F_told) : FnN P w K mg base "told_text" 2 F_told_text := fnN T fun f fd Fu => by
  refine fn_intro Fu sc_told_text (fun ds r h => ?_) fun cd A outer s H E W room ds r h => ?_
  · obtain ⟨l, rfl, _⟩ := h
    rfl
  · obtain ⟨l, rfl, hl, rfl⟩ := h
    exact ss_one (sw_retD (de_call hT (des_cons (de_is (de_bi hLen (des_cons (de_var 0) des_nil) (cd_lenS (by rw [S_len, sizeLine_eq]; omega))) (by rw [S_len])) (des_cons (de_call hB (des_cons (de_var 0) des_nil) ⟨l, rfl, hl, rfl⟩) (des_cons (de_lst des_nil) des_nil))) ⟨_, _, _, rfl, by rw [List.length_map]; omega, Nat.zero_le _, rfl⟩) rfl)
end
end Sd

set_option Elab.async false
set_option linter.all false
set_option maxRecDepth 100000
set_option maxHeartbeats 4000000
set_option exponentiation.threshold 10000
namespace Sd
open PySem PySem.Spec PyProof.Rows L2
section
variable {P : Program} {w : World} {K : PySem.W.Frag} {mg : Str → Option Value} {base : Heap}
theorem sc_tokens_in : FnScope ["node", "word", "found"] ["node"] (defScope s_tokens_in) := ⟨rfl, rfl, rfl, by decide +kernel, rfl, by decide +kernel, by decide +kernel⟩
theorem cut_tail (x : D) (r : List D) (h : (x :: r).length < 1000) : cutD (x :: r) (some 1) none = r := by
  unfold cutD
  rw [show (1 : Int) = ((1 : Nat) : Int) from rfl, HT.sIx_nat]
  show ((x :: r).drop (min 1 (x :: r).length)).take ((x :: r).length - min 1 (x :: r).length) = r
  rw [Nat.min_eq_left (by simp), List.drop_succ_cons, List.drop_zero, List.length_cons, Nat.add_sub_cancel, List.take_length]
theorem fn_tokens_in {k n : Nat} (T : FunT K mg "tokens_in" s_tokens_in ["node"]) (hL : mg "list" = none) (hD : FnN P w K mg base "digits_printed" 1 F_dig) (hk1 : 1 ≤ k) {kb kr kw : Nat} (hkb : kb ≤ k) (hkr : kr ≤ k) (hkw : kw ≤ k)
    (hB : FnN P w K mg base "bracketed" kb (F_brk n)) (hR : FnN P w K mg base "row_printed" kr (F_row n)) (hW : FnN P w K mg base "within_printed" kw (F_within n)) : FnN P w K mg base "tokens_in" (k + 1) (F_tok (n + 1)) := fnN T fun f fd Fu => by
  refine fn_intro Fu sc_tokens_in (fun ds r h => ?_) fun cd A outer s H E W room ds r h => ?_
  · obtain ⟨e, rfl, _⟩ := h
    rfl
  · obtain ⟨e, rfl, ok, hd, hl, rfl⟩ := h
    obtain ⟨rr, er⟩ := dN_head e
    refine ss_cons (sw_setD 1 (d := .str (wordE e)) (de_ix (x := .tup (.str (wordE e) :: rr)) (de_is (de_var 0) er) de_int ix_hd) ?_)
    clear er rr
    -- a function's parts
    have call : ∀ (g : Nat) (es : List Nd), wordE e = fnW g → dN e = .tup (.str (fnW g) :: es.map dN) → tokN e = callT g (es.map tokN) → (∀ e ∈ es, okW e ∧ (dpr e).1 ≤ n) → 1 ≤ es.length → es.length ≤ 4 →
        SsW (bxN P w K mg base ["node", "word", "found"] "tokens_in" (defScope s_tokens_in) f cd A outer s H E k W (fun _ => False) room sc_tokens_in.nd) ((defBody s_tokens_in).drop 1)
          [some (.im (dN e)), some (.im (.str (wordE e))), none] (postF (.ret (.lst ((tokN e).map tx)))) := fun g es hw he ht hes h1 h4 => by
      obtain ⟨n1, n2, n3, n4, n5⟩ := fn_not g
      rw [hw, he]
      refine ss_cons (sw_ifD (k := false) (td_is (td_cmp (de_var 1) de_str od_eqS) n1) (fun z => nomatch z) fun _ => ss_nil ?_)
      refine ss_cons (sw_ifD (k := false) (td_is (td_cmp (de_var 1) de_str od_eqS) n2) (fun z => nomatch z) fun _ => ss_nil ?_)
      refine ss_cons (sw_ifD (k := false) (td_is (td_cmp (de_var 1) de_str od_eqS) n3) (fun z => nomatch z) fun _ => ss_nil ?_)
      refine ss_cons (sw_ifD (k := false) (td_is (td_cmp (de_var 1) de_str od_eqS) n4) (fun z => nomatch z) fun _ => ss_nil ?_)
      refine ss_cons (sw_ifD (k := false) (td_is (td_cmp (de_var 1) de_str od_eqS) n5) (fun z => nomatch z) fun _ => ss_nil ?_)
      have hlt : (D.str (fnW g) :: es.map dN).length < 1000 := by rw [List.length_cons, List.length_map]; omega
      have hcl : (commaT (es.map tokN)).length ≤ 100000 := by
        rw [ht] at hl
        unfold callT at hl
        rw [List.length_append, List.length_cons, List.length_append] at hl
        omega
      refine ss_cons (sw_setD 2 (de_call hW (hk := hkw) (des_cons (de_bty hL (des_cons (de_is (de_slT (ds := .str (fnW g) :: es.map dN) (de_var 0) (pd_some de_int) pd_none ?_) (congrArg D.tup (cut_tail _ _ hlt))) des_nil) cd_list) des_nil) ⟨es, rfl, hes, hcl, rfl⟩) ?_)
      · intro z
        have z1 := z.1
        rw [show (1 : Int) = ((1 : Nat) : Int) from rfl, HT.sIx_nat, List.length_cons] at z1
        omega
      refine ss_one (sw_retD (de_if (k := decide (g = 4)) (td_is (td_cmp (de_var 1) de_str od_eqS) (fn_at g)) (fun _ => de_var 2) fun _ => de_op (de_lst (des_cons (de_var 1) des_nil)) (de_var 2) (od_cat (by refine szl ?_; simp only [List.length_map, List.length_cons, List.length_append, List.length_nil]; omega))) ?_)
      rw [ht]
      unfold callT
      by_cases g4 : g = 4
      · rw [decide_eq_true g4, if_pos rfl, if_pos g4]
        rfl
      · rw [decide_eq_false g4, if_neg Bool.false_ne_true, if_neg g4]
        rfl
    cases e with
    | name b => exact ss_cons (sw_ifD (k := true) (td_is (td_cmp (de_var 1) de_str od_eqS) (by show decide (("name" : Str) = ("name" : Str)) = true; decide +kernel)) (fun _ => ss_one (sw_retD (de_lst (des_cons (de_ix (x := .tup [.str "name", tx b]) (de_var 0) de_int rfl) des_nil)) rfl)) fun z => nomatch z)
    | num b =>
      refine ss_cons (sw_ifD (k := false) (td_is (td_cmp (de_var 1) de_str od_eqS) (by show decide (("number" : Str) = ("name" : Str)) = false; decide +kernel)) (fun z => nomatch z) fun _ => ss_nil ?_)
      exact ss_cons (sw_ifD (k := true) (td_is (td_cmp (de_var 1) de_str od_eqS) (by show decide (("number" : Str) = ("number" : Str)) = true; decide +kernel)) (fun _ => ss_one (sw_retD (de_lst (des_cons (de_call hD (hk := hk1) (des_cons (de_ix (x := .tup [.str "number", tx b]) (de_var 0) de_int rfl) des_nil) ⟨b, rfl, ok, rfl⟩) des_nil)) rfl)) fun z => nomatch z)
    | neg a =>
      have hda : (dpr a).1 ≤ n := by
        have : 1 + (dpr a).1 ≤ n + 1 := hd
        omega
      have hla : (tokN a).length ≤ 100000 := by
        have h1 : ([45] :: brkT (wordE a) ["sum", "product"] (tokN a)).length ≤ 100000 := hl
        rw [List.length_cons] at h1
        have := (brk_len (w := wordE a) (ws := ["sum", "product"]) (l := tokN a)).1
        omega
      refine ss_cons (sw_ifD (k := false) (td_is (td_cmp (de_var 1) de_str od_eqS) (by show decide (("less" : Str) = ("name" : Str)) = false; decide +kernel)) (fun z => nomatch z) fun _ => ss_nil ?_)
      refine ss_cons (sw_ifD (k := false) (td_is (td_cmp (de_var 1) de_str od_eqS) (by show decide (("less" : Str) = ("number" : Str)) = false; decide +kernel)) (fun z => nomatch z) fun _ => ss_nil ?_)
      refine ss_cons (sw_ifD (k := false) (td_is (td_cmp (de_var 1) de_str od_eqS) (by show decide (("less" : Str) = ("sum" : Str)) = false; decide +kernel)) (fun z => nomatch z) fun _ => ss_nil ?_)
      refine ss_cons (sw_ifD (k := false) (td_is (td_cmp (de_var 1) de_str od_eqS) (by show decide (("less" : Str) = ("product" : Str)) = false; decide +kernel)) (fun z => nomatch z) fun _ => ss_nil ?_)
      exact ss_cons (sw_ifD (k := true) (td_is (td_cmp (de_var 1) de_str od_eqS) (by show decide (("less" : Str) = ("less" : Str)) = true; decide +kernel)) (fun _ => ss_one (sw_retD (de_op (de_lst (des_cons de_str des_nil)) (de_call hB (hk := hkb) (des_cons (de_ix (x := .tup [.str "less", dN a]) (de_var 0) de_int rfl) (des_cons (de_tup (des_cons de_str (des_cons de_str des_nil))) des_nil)) ⟨a, ["sum", "product"], rfl, ok, hda, hla, rfl⟩) (od_cat (by rw [List.length_map]; exact szl (by have := (brk_len (w := wordE a) (ws := ["sum", "product"]) (l := tokN a)).2; simp only [List.length_cons, List.length_nil]; omega)))) rfl)) fun z => nomatch z)
    | op c j a b =>
      have hrow : ∀ p ∈ partsE (.op c j a b), okW p.2 ∧ (dpr p.2).1 ≤ n := fun p hp => by
        obtain ⟨h1, h2⟩ := parts_ok ok p hp
        have h3 : 1 + (dpr (.op c j a b)).2 ≤ n + 1 := hd
        exact ⟨h1, by omega⟩
      rw [tokN_row ok] at hl ⊢
      have edr : dN (.op c j a b) = .tup [.str (kindS c), .lst ((partsE (.op c j a b)).map pD)] := by
        show D.tup [.str (kindS c), .lst (dr (.op c j a b)).2] = _
        rw [dr_parts]
      rw [edr]
      generalize partsE (.op c j a b) = ps at *
      show SsW _ _ [some (.im (.tup [.str (kindS c), .lst (ps.map pD)])), some (.im (.str (kindS c))), none] _
      rw [kind_of]
      unfold w0 w1 at hl ⊢
      clear edr call hd ok
      cases hc : isAdd c with
      | true =>
        rw [hc, if_pos rfl, if_pos rfl] at hl
        rw [if_pos rfl, if_pos rfl, if_pos rfl]
        refine ss_cons (sw_ifD (k := false) (td_is (td_cmp (de_var 1) de_str od_eqS) (by decide +kernel)) (fun z => nomatch z) fun _ => ss_nil ?_)
        refine ss_cons (sw_ifD (k := false) (td_is (td_cmp (de_var 1) de_str od_eqS) (by decide +kernel)) (fun z => nomatch z) fun _ => ss_nil ?_)
        exact ss_cons (sw_ifD (k := true) (td_is (td_cmp (de_var 1) de_str od_eqS) (by decide +kernel)) (fun _ => ss_one (sw_retD (de_call hR (hk := hkr) (des_cons (de_ix (x := .tup [.str "sum", .lst (ps.map pD)]) (de_var 0) de_int rfl) (des_cons (de_tup (des_cons (de_tup des_nil) (des_cons (de_tup (des_cons de_str des_nil)) des_nil))) des_nil)) ⟨ps, [], ["sum"], rfl, hrow, hl, rfl⟩) rfl)) fun z => nomatch z)
      | false =>
        rw [hc, if_neg Bool.false_ne_true, if_neg Bool.false_ne_true] at hl
        rw [if_neg Bool.false_ne_true, if_neg Bool.false_ne_true, if_neg Bool.false_ne_true]
        refine ss_cons (sw_ifD (k := false) (td_is (td_cmp (de_var 1) de_str od_eqS) (by decide +kernel)) (fun z => nomatch z) fun _ => ss_nil ?_)
        refine ss_cons (sw_ifD (k := false) (td_is (td_cmp (de_var 1) de_str od_eqS) (by decide +kernel)) (fun z => nomatch z) fun _ => ss_nil ?_)
        refine ss_cons (sw_ifD (k := false) (td_is (td_cmp (de_var 1) de_str od_eqS) (by decide +kernel)) (fun z => nomatch z) fun _ => ss_nil ?_)
        exact ss_cons (sw_ifD (k := true) (td_is (td_cmp (de_var 1) de_str od_eqS) (by decide +kernel)) (fun _ => ss_one (sw_retD (de_call hR (hk := hkr) (des_cons (de_ix (x := .tup [.str "product", .lst (ps.map pD)]) (de_var 0) de_int rfl) (des_cons (de_tup (des_cons (de_tup (des_cons de_str des_nil)) (des_cons (de_tup (des_cons de_str (des_cons de_str des_nil))) des_nil))) des_nil)) ⟨ps, ["sum"], ["sum", "product"], rfl, hrow, hl, rfl⟩) rfl)) fun z => nomatch z)
    | call1 g a =>
      have hd : 1 + (dpr a).1 ≤ n + 1 := hd
      exact call g [a] rfl rfl rfl (fun e he => by
        simp only [List.mem_cons, List.not_mem_nil, or_false] at he
        subst he
        exact ⟨ok, by omega⟩) (by simp) (by simp)
    | call2 g a b =>
      have hd : 1 + max (dpr a).1 (dpr b).1 ≤ n + 1 := hd
      obtain ⟨o1, o2⟩ := ok
      exact call g [a, b] rfl rfl rfl (fun e he => by
        simp only [List.mem_cons, List.not_mem_nil, or_false] at he
        rcases he with rfl | rfl
        · exact ⟨o1, by omega⟩
        · exact ⟨o2, by omega⟩) (by simp) (by simp)
    | call3 g a b c =>
      have hd : 1 + max (dpr a).1 (max (dpr b).1 (dpr c).1) ≤ n + 1 := hd
      obtain ⟨o1, o2, o3⟩ := ok
      exact call g [a, b, c] rfl rfl rfl (fun e he => by
        simp only [List.mem_cons, List.not_mem_nil, or_false] at he
        rcases he with rfl | rfl | rfl
        · exact ⟨o1, by omega⟩
        · exact ⟨o2, by omega⟩
        · exact ⟨o3, by omega⟩) (by simp) (by simp)
    | call4 g a b c d =>
      have hd : 1 + max (dpr a).1 (max (dpr b).1 (max (dpr c).1 (dpr d).1)) ≤ n + 1 := hd
      obtain ⟨o1, o2, o3, o4⟩ := ok
      exact call g [a, b, c, d] rfl rfl rfl (fun e he => by
        simp only [List.mem_cons, List.not_mem_nil, or_false] at he
        rcases he with rfl | rfl | rfl | rfl
        · exact ⟨o1, by omega⟩
        · exact ⟨o2, by omega⟩
        · exact ⟨o3, by omega⟩
        · exact ⟨o4, by omega⟩) (by simp) (by simp)
theorem dpr_pos : ∀ e : Nd, 1 ≤ (dpr e).1
  | .num _ => Nat.le_refl _
  | .name _ => Nat.le_refl _
  | .neg _ => Nat.le_add_right _ _
  | .op _ _ _ _ => Nat.le_add_right _ _
  | .call1 _ _ => Nat.le_add_right _ _
  | .call2 _ _ _ => Nat.le_add_right _ _
  | .call3 _ _ _ _ => Nat.le_add_right _ _
  | .call4 _ _ _ _ _ => Nat.le_add_right _ _
theorem fn_tok_all (tT : FunT K mg "tokens_in" s_tokens_in ["node"]) (tB : FunT K mg "bracketed" s_bracketed ["node", "words"]) (tR : FunT K mg "row_printed" s_row_printed ["parts", "words"]) (tW : FunT K mg "within_printed" s_within_printed ["parts"])
    (hL : mg "list" = none) (hEn : mg "enumerate" = none) (hD : FnN P w K mg base "digits_printed" 1 F_dig) : ∀ n : Nat, FnN P w K mg base "tokens_in" (3 * n + 2) (F_tok n)
  | 0 => fnN tT fun f fd Fu => by
    refine fn_intro Fu sc_tokens_in (fun ds r h => ?_) fun cd A outer s H E W room ds r h => ?_
    · obtain ⟨e, rfl, _⟩ := h
      rfl
    · obtain ⟨e, rfl, ok, hd, hl, rfl⟩ := h
      have := dpr_pos e
      omega
  | n + 1 => by
    have ih := fn_tok_all tT tB tR tW hL hEn hD n
    have b := fn_bracketed tB ih
    have r := fn_row_printed tR hEn b
    have w := fn_within_printed tW hEn ih
    have := fn_tokens_in (k := 3 * n + 4) tT hL hD (by omega) (show 3 * n + 2 + 1 ≤ 3 * n + 4 by omega) (show 3 * n + 2 + 1 + 1 ≤ 3 * n + 4 by omega) (show 3 * n + 2 + 1 ≤ 3 * n + 4 by omega) b r w
    exact this
end
end Sd

set_option Elab.async false
set_option linter.all false
set_option maxRecDepth 100000
set_option maxHeartbeats 4000000
set_option exponentiation.threshold 10000
namespace Sd
open PySem PySem.Spec PyProof.Rows L2
/-- a statement's tokens -/
abbrev letT : List Nat := [108, 101, 116]
abbrev pointT : List Nat := [112, 111, 105, 110, 116]
abbrev pieceT : List Nat := [112, 105, 101, 99, 101]
abbrev seamT : List Nat := [115, 101, 97, 109]
abbrev grainT : List Nat := [103, 114, 97, 105, 110]
def stT : Stt → List (List Nat)
  | .let_ n e => [letT, n, [61]] ++ tokN e ++ [[59]]
  | .point n e => [pointT, n, [61]] ++ tokN e ++ [[59]]
  | .piece n cs g h => [pieceT, n, [40]] ++ commaT (cs.map fun c => [c]) ++ [[41], grainT, g, h, [59]]
  | .seam l => [seamT] ++ l.take 3 ++ [[44]] ++ l.drop 3 ++ [[59]]
def okT (n : Nat) : Stt → Prop
  | .let_ _ e => okW e ∧ (dpr e).1 ≤ n ∧ (tokN e).length ≤ 100000
  | .point _ e => okW e ∧ (dpr e).1 ≤ n ∧ (tokN e).length ≤ 100000
  | .piece _ cs _ _ => cs.length ≤ 1000
  | .seam l => l.length ≤ 1000
abbrev NBs : List Str := [",", ")", ";"]
abbrev GLs : List Str := ["x", "y", "min", "max", "between", "meet", "foot", "mirror", "turn", "shift"]
def StrsT (K : PySem.W.Frag) (mg : Str → Option Value) (x : Str) (ws : List Str) : Prop := ∃ l, mg x = some (.ref l) ∧ ∀ W H, Rp K W H (.ref l) (.tup (ws.map D.str))
def tight (b t : List Nat) : Bool := decide (b = [40]) || (decide (S t ∈ NBs) || (decide (t = [40]) && decide (S b ∈ GLs)))
def joinP : List Nat → List (List Nat) → List Nat → List Nat
  | _, [], acc => acc
  | b, t :: r, acc => joinP t r (acc ++ (if tight b t = true then [] else [32]) ++ t)
/-- how long -/
def chW (ts : List (List Nat)) : Nat := (ts.map fun t => t.length + 1).sum
theorem joinP_len : ∀ (ts : List (List Nat)) (b acc : List Nat), (joinP b ts acc).length ≤ acc.length + chW ts
  | [], b, acc => Nat.le_add_right _ _
  | t :: r, b, acc => by
    have := joinP_len r t (acc ++ (if tight b t = true then [] else [32]) ++ t)
    unfold joinP
    show _ ≤ acc.length + ((t.length + 1) + chW r)
    rw [List.length_append, List.length_append] at this
    have h : (if tight b t = true then ([] : List Nat) else [32]).length ≤ 1 := by split <;> simp
    omega
def lnP (s : Stt) : List Nat := joinP [40] (stT s) [] ++ [10]
def prT (l : List Stt) : List Nat := l.flatMap lnP
section
variable {P : Program} {w : World} {K : PySem.W.Frag} {mg : Str → Option Value} {base : Heap} {Cr : Addr}
theorem sc_names_printed : FnScope ["names", "found", "k", "name"] ["names"] (defScope s_names_printed) := ⟨rfl, rfl, rfl, by decide +kernel, rfl, by decide +kernel, by decide +kernel⟩
def F_names : FS := fun ds r => ∃ cs : List (List Nat), ds = [.lst (cs.map tx)] ∧ cs.length ≤ 1000 ∧ r = .ret (.lst ((commaT (cs.map fun c => [c])).map tx))
theorem comma_ones : ∀ cs : List (List Nat), (commaT (cs.map fun c => [c])).length ≤ 2 * cs.length
  | [] => Nat.le_refl _
  | [c] => by simp [commaT]
  | c :: d :: r => by
    have := comma_ones (d :: r)
    show ([c] ++ [44] :: commaT ((d :: r).map fun c => [c])).length ≤ _
    rw [List.length_append, List.length_cons, List.length_cons]
    simp only [List.length_cons, List.length_nil] at this ⊢
    omega
theorem fn_names_printed (T : FunT K mg "names_printed" s_names_printed ["names"]) (hEn : mg "enumerate" = none) (hI : mg "int" = none) : FnN P w K mg base "names_printed" 1 F_names := fnN T fun f fd Fu => by
  refine fn_intro Fu sc_names_printed (fun ds r h => ?_) fun cd A outer s H E W room ds r h => ?_
  · obtain ⟨cs, rfl, _⟩ := h
    rfl
  · obtain ⟨cs, rfl, hl, rfl⟩ := h
    refine ss_cons (sw_own 1 (aw_nil ⟨Nat.le_of_ble_eq_true rfl, rfl, ?_⟩))
    have hlen : (enumD (cs.map tx)).length = cs.length := by
      unfold enumD
      rw [List.length_mapIdx, List.length_map]
    refine ss_cons (sw_for [2, 3] (fun d => match d with
      | .tup [i, n] => [i, n]
      | _ => []) (fun i Γ => ∃ x y, Γ = [some (.im (.lst (cs.map tx))), some (.ow ((commaT ((cs.take i).map fun c => [c])).map tx)), x, y]) (sd_enum hEn (de_var 0)) ⟨none, none, rfl⟩ (fun d hd => ?_) (fun i d Γ1 hd hI2 => ?_) (fun Γ1 hI2 => ?_))
    · obtain ⟨i, hi⟩ := List.getElem?_of_mem hd
      obtain ⟨x, hx, rfl⟩ := enum_get hi
      exact tg_two 2 3
    · obtain ⟨x, y, rfl⟩ := hI2
      obtain ⟨q, hx, rfl⟩ := enum_get hd
      rw [List.getElem?_map] at hx
      cases e : cs[i]? with
      | none => rw [e] at hx; cases hx
      | some p =>
        rw [e] at hx
        cases hx
        have hil : i < cs.length := (List.getElem?_eq_some_iff.mp e).1
        have et : (cs.take (i + 1)).map (fun c => [c]) = (cs.take i).map (fun c => [c]) ++ [[p]] := by rw [take_one e, List.map_append]; rfl
        have hcl := comma_ones (cs.take i)
        rw [List.length_take] at hcl
        have hA : ((commaT ((cs.take i).map fun c => [c])).map tx).length ≤ 2000 := by
          rw [List.length_map]
          omega
        have hB : ∀ b : Bool, ((List.replicate (if b = true then (1 : Int) else 0).toNat [D.str ","]).flatten ++ [tx p]).length ≤ 2 := by
          intro b
          cases b <;> simp
        refine ss_one (sw_ext 1 ⟨_, rfl⟩ (ew_pure (d := .lst ((List.replicate (if decide (0 < i) = true then (1 : Int) else 0).toNat [D.str ","]).flatten ++ [tx p])) (de_op (de_op (de_lst (des_cons de_str des_nil)) (de_bty hI (des_cons (de_is (de_cmp (de_var 2) de_int od_gt) (congrArg D.bl (decide_eq_decide.mpr (show (0 : Int) < (i : Int) ↔ 0 < i by omega)))) des_nil) cd_intB) (od_rep (by split <;> decide) (by split <;> decide) (szl (by split <;> simp)))) (de_lst (des_cons (de_var 3) des_nil)) (od_cat (szl (by have := hB (decide (0 < i)); rw [List.length_append] at this; omega)))) ⟨_, _, rfl, rfl, Nat.lt_of_le_of_lt (Nat.add_le_add hA (hB _)) (by decide), some (.im (.int (i : Nat))), some (.im (tx p)), ?_⟩))
        rw [et, commaT_snoc]
        by_cases z : 0 < i
        · rw [if_pos (decide_eq_true z), if_neg (fun zz => by
            have := congrArg List.length zz
            rw [List.length_map, List.length_take, List.length_nil] at this
            omega), List.map_append]
          rfl
        · have : i = 0 := by omega
          subst this
          rfl
    · obtain ⟨x, y, rfl⟩ := hI2
      rw [hlen, List.take_length]
      refine ss_freeze 1 rfl ?_
      exact ss_one (sw_retD (de_var 1) rfl)
theorem sc_statement_tokens : FnScope ["told", "word", "name", "corners", "first", "last"] ["told"] (defScope s_statement_tokens) := ⟨rfl, rfl, rfl, by decide +kernel, rfl, by decide +kernel, by decide +kernel⟩
def F_stt (n : Nat) : FS := fun ds r => ∃ s : Stt, ds = [dSt s] ∧ okT n s ∧ r = .ret (.lst ((stT s).map tx))
theorem fn_statement_tokens {k n : Nat} (T : FunT K mg "statement_tokens" s_statement_tokens ["told"]) (hk1 : 1 ≤ k) (hT : FnN P w K mg base "tokens_in" k (F_tok n)) (hN : FnN P w K mg base "names_printed" 1 F_names) : FnN P w K mg base "statement_tokens" (k + 1) (F_stt n) := fnN T fun f fd Fu => by
  have hk : k ≤ k := Nat.le_refl k
  refine fn_intro Fu sc_statement_tokens (fun ds r h => ?_) fun cd A outer s H E W room ds r h => ?_
  · obtain ⟨st, rfl, _⟩ := h
    rfl
  · obtain ⟨st, rfl, ok, rfl⟩ := h
    cases st with
    | let_ nm e =>
      obtain ⟨o1, o2, o3⟩ := ok
      refine ss_cons (sw_ifD (k := true) (td_is (td_cmp (de_ix (x := .tup [.str "let", tx nm, dN e]) (de_var 0) de_int rfl) (de_tup (des_cons de_str (des_cons de_str des_nil))) (od_inT rfl rfl)) (by decide +kernel)) (fun _ => ss_one (sw_retD (de_op (de_op (de_lst (des_cons (de_ix (x := .tup [.str "let", tx nm, dN e]) (de_var 0) de_int rfl) (des_cons (de_ix (x := .tup [.str "let", tx nm, dN e]) (de_var 0) de_int rfl) (des_cons de_str des_nil)))) (de_call hT (hk := hk) (des_cons (de_ix (x := .tup [.str "let", tx nm, dN e]) (de_var 0) de_int rfl) des_nil) ⟨e, rfl, o1, o2, o3, rfl⟩) (od_cat ?_)) (de_lst (des_cons de_str des_nil)) (od_cat ?_)) ?_)) fun z => nomatch z)
      · refine szl ?_
        simp only [List.length_map, List.length_cons, List.length_nil]
        omega
      · refine szl ?_
        simp only [List.length_append, List.length_map, List.length_cons, List.length_nil]
        omega
      · show Res.ret (.lst (([letT, nm, [61]] ++ tokN e ++ [[59]]).map tx)) = _
        rw [List.map_append, List.map_append]
        rfl
    | point nm e =>
      obtain ⟨o1, o2, o3⟩ := ok
      refine ss_cons (sw_ifD (k := true) (td_is (td_cmp (de_ix (x := .tup [.str "point", tx nm, dN e]) (de_var 0) de_int rfl) (de_tup (des_cons de_str (des_cons de_str des_nil))) (od_inT rfl rfl)) (by decide +kernel)) (fun _ => ss_one (sw_retD (de_op (de_op (de_lst (des_cons (de_ix (x := .tup [.str "point", tx nm, dN e]) (de_var 0) de_int rfl) (des_cons (de_ix (x := .tup [.str "point", tx nm, dN e]) (de_var 0) de_int rfl) (des_cons de_str des_nil)))) (de_call hT (hk := hk) (des_cons (de_ix (x := .tup [.str "point", tx nm, dN e]) (de_var 0) de_int rfl) des_nil) ⟨e, rfl, o1, o2, o3, rfl⟩) (od_cat ?_)) (de_lst (des_cons de_str des_nil)) (od_cat ?_)) ?_)) fun z => nomatch z)
      · refine szl ?_
        simp only [List.length_map, List.length_cons, List.length_nil]
        omega
      · refine szl ?_
        simp only [List.length_append, List.length_map, List.length_cons, List.length_nil]
        omega
      · show Res.ret (.lst (([pointT, nm, [61]] ++ tokN e ++ [[59]]).map tx)) = _
        rw [List.map_append, List.map_append]
        rfl
    | piece nm cs g h =>
      have hcl := comma_ones cs
      have ok : cs.length ≤ 1000 := ok
      refine ss_cons (sw_ifD (k := false) (td_is (td_cmp (de_ix (x := .tup [.str "piece", tx nm, .lst (cs.map tx), tx g, tx h]) (de_var 0) de_int rfl) (de_tup (des_cons de_str (des_cons de_str des_nil))) (od_inT rfl rfl)) (by decide +kernel)) (fun z => nomatch z) fun _ => ss_nil ?_)
      refine ss_cons (sw_ifD (k := true) (td_is (td_cmp (de_ix (x := .tup [.str "piece", tx nm, .lst (cs.map tx), tx g, tx h]) (de_var 0) de_int rfl) de_str od_eqS) (by decide +kernel)) (fun _ => ?_) fun z => nomatch z)
      refine ss_cons (sw_unp [1, 2, 3, 4, 5] (ew_pure (d := .tup [.str "piece", tx nm, .lst (cs.map tx), tx g, tx h]) (de_var 0) ⟨[.str "piece", tx nm, .lst (cs.map tx), tx g, tx h], tg_tup [1, 2, 3, 4, 5] (pgs_nm 1 sc_statement_tokens.nd (pgs_nm 2 sc_statement_tokens.nd (pgs_nm 3 sc_statement_tokens.nd (pgs_nm 4 sc_statement_tokens.nd (pgs_nm 5 sc_statement_tokens.nd pgs_nil))))), ?_⟩))
      refine ss_one (sw_retD (de_op (de_op (de_lst (des_cons (de_var 1) (des_cons (de_var 2) (des_cons de_str des_nil)))) (de_call hN (hk := hk1) (des_cons (de_var 3) des_nil) ⟨cs, rfl, ok, rfl⟩) (od_cat ?_)) (de_lst (des_cons de_str (des_cons de_str (des_cons (de_var 4) (des_cons (de_var 5) (des_cons de_str des_nil)))))) (od_cat ?_)) ?_)
      · refine szl ?_
        simp only [List.length_map, List.length_cons, List.length_nil] at hcl ⊢
        omega
      · refine szl ?_
        simp only [List.length_append, List.length_map, List.length_cons, List.length_nil] at hcl ⊢
        omega
      · show Res.ret (.lst (([pieceT, nm, [40]] ++ commaT (cs.map fun c => [c]) ++ [[41], grainT, g, h, [59]]).map tx)) = _
        rw [List.map_append, List.map_append]
        rfl
    | seam l =>
      have ok : l.length ≤ 1000 := ok
      refine ss_cons (sw_ifD (k := false) (td_is (td_cmp (de_ix (x := .tup [.str "seam", .lst (l.map tx)]) (de_var 0) de_int rfl) (de_tup (des_cons de_str (des_cons de_str des_nil))) (od_inT rfl rfl)) (by decide +kernel)) (fun z => nomatch z) fun _ => ss_nil ?_)
      refine ss_cons (sw_ifD (k := false) (td_is (td_cmp (de_ix (x := .tup [.str "seam", .lst (l.map tx)]) (de_var 0) de_int rfl) de_str od_eqS) (by decide +kernel)) (fun z => nomatch z) fun _ => ss_nil ?_)
      have c1 : cutD (l.map tx) none (some 3) = (l.take 3).map tx := by
        unfold cutD
        rw [show (3 : Int) = ((3 : Nat) : Int) from rfl, HT.sIx_nat]
        show ((l.map tx).drop 0).take (min 3 (l.map tx).length - 0) = _
        rw [List.drop_zero, Nat.sub_zero, List.map_take, List.take_eq_take_iff]
        simp
      have c2 : cutD (l.map tx) (some 3) none = (l.drop 3).map tx := by
        unfold cutD
        rw [show (3 : Int) = ((3 : Nat) : Int) from rfl, HT.sIx_nat]
        show ((l.map tx).drop (min 3 (l.map tx).length)).take ((l.map tx).length - min 3 (l.map tx).length) = _
        rw [List.take_of_length_le (by rw [List.length_drop]; exact Nat.le_refl _), List.map_drop]
        by_cases h3 : 3 ≤ (l.map tx).length
        · rw [Nat.min_eq_left h3]
        · rw [Nat.min_eq_right (by omega), List.drop_length, List.drop_of_length_le (by omega)]
      have i1 : IxD (.tup [.str "seam", .lst (l.map tx)]) 1 (.lst (l.map tx)) := rfl
      refine ss_one (sw_retD (de_op (de_op (de_op (de_op (de_lst (des_cons de_str des_nil)) (de_is (de_slL (de_ix (de_var 0) de_int i1) pd_none (pd_some de_int)) (congrArg D.lst c1)) (od_cat ?_)) (de_lst (des_cons de_str des_nil)) (od_cat ?_)) (de_is (de_slL (de_ix (de_var 0) de_int i1) (pd_some de_int) pd_none) (congrArg D.lst c2)) (od_cat ?_)) (de_lst (des_cons de_str des_nil)) (od_cat ?_)) ?_)
      · refine szl ?_
        simp only [List.length_append, List.length_map, List.length_cons, List.length_nil, List.length_take, List.length_drop]
        omega
      · refine szl ?_
        simp only [List.length_append, List.length_map, List.length_cons, List.length_nil, List.length_take, List.length_drop]
        omega
      · refine szl ?_
        simp only [List.length_append, List.length_map, List.length_cons, List.length_nil, List.length_take, List.length_drop]
        omega
      · refine szl ?_
        simp only [List.length_append, List.length_map, List.length_cons, List.length_nil, List.length_take, List.length_drop]
        omega
      · show Res.ret (.lst (([seamT] ++ l.take 3 ++ [[44]] ++ l.drop 3 ++ [[59]]).map tx)) = _
        rw [List.map_append, List.map_append, List.map_append, List.map_append]
        rfl
theorem sc_joined : FnScope ["tokens", "found", "before", "token", "is_tight"] ["tokens"] (defScope s_joined) := ⟨rfl, rfl, rfl, by decide +kernel, rfl, by decide +kernel, by decide +kernel⟩
def F_joined : FS := fun ds r => ∃ ts : List (List Nat), ds = [.lst (ts.map tx)] ∧ chW ts ≤ 900000 ∧ r = .ret (tx (joinP [40] ts []))
theorem fn_joined (T : FunT K mg "joined" s_joined ["tokens"]) (hNB : StrsT K mg "NO_BLANK_AHEAD" NBs) (hGL : StrsT K mg "GLUED" GLs) : FnN P w K mg base "joined" 1 F_joined := fnN T fun f fd Fu => by
  obtain ⟨l1, g1, r1⟩ := hNB
  obtain ⟨l2, g2, r2⟩ := hGL
  refine fn_intro Fu sc_joined (fun ds r h => ?_) fun cd A outer s H E W room ds r h => ?_
  · obtain ⟨ts, rfl, _⟩ := h
    rfl
  · obtain ⟨ts, rfl, hl, rfl⟩ := h
    refine ss_cons (sw_setD 1 (d := tx []) de_str ?_)
    refine ss_cons (sw_setD 2 (d := tx [40]) de_str ?_)
    refine ss_cons (sw_for [3] (fun d => [d]) (fun i Γ => ∃ acc b x y, acc.length + chW (ts.drop i) ≤ 900000 ∧ joinP b (ts.drop i) acc = joinP [40] ts [] ∧ Γ = [some (.im (.lst (ts.map tx))), some (.im (tx acc)), some (.im (tx b)), x, y]) (sd_list (de_var 0)) ⟨[], [40], none, none, by rw [List.drop_zero, List.length_nil]; omega, rfl, rfl⟩ (fun d hd => tg_name 3) (fun i d Γ1 hd hI => ?_) (fun Γ1 hI => ?_))
    · obtain ⟨acc, b, x, y, hb, hj, rfl⟩ := hI
      rw [List.getElem?_map] at hd
      cases e : ts[i]? with
      | none => rw [e] at hd; cases hd
      | some t =>
        rw [e] at hd
        cases hd
        obtain ⟨hil, et⟩ := List.getElem?_eq_some_iff.mp e
        have ed : ts.drop i = t :: ts.drop (i + 1) := by rw [← et]; exact List.drop_eq_getElem_cons hil
        rw [ed] at hb hj
        have hb : acc.length + ((t.length + 1) + chW (ts.drop (i + 1))) ≤ 900000 := hb
        have hj : joinP t (ts.drop (i + 1)) (acc ++ (if tight b t = true then [] else [32]) ++ t) = joinP [40] ts [] := hj
        have hsp : (if tight b t = true then ([] : List Nat) else [32]).length ≤ 1 := by split <;> simp
        refine ss_cons (sw_setD 4 (d := .bl (tight b t)) (de_is (de_or (de_is (de_cmp (de_var 2) de_str od_eqS) (congrArg D.bl (S_eq (b := [40])))) fun _ => de_or (de_is (de_cmp (de_var 3) (de_gtup g1 r1) (od_inT rfl (strs_flat NBs))) (congrArg D.bl (inF_strs _ _))) fun _ => de_one (de_and (de_is (de_cmp (de_var 3) de_str od_eqS) (congrArg D.bl (S_eq (b := [40])))) fun _ => de_one (de_is (de_cmp (de_var 2) (de_gtup g2 r2) (od_inT rfl (strs_flat GLs))) (congrArg D.bl (inF_strs _ _))))) rfl) ?_)
        have e1 : (if tight b t = true then tx [] else tx [32]) = tx (if tight b t = true then [] else [32]) := by split <;> rfl
        refine ss_cons (sw_setD 1 (d := tx (acc ++ (if tight b t = true then [] else [32]) ++ t)) (de_is (de_op (de_is (de_op (de_var 1) (de_is (de_if (k := tight b t) (x := tx []) (y := tx [32]) (td_val (de_var 4)) (fun _ => de_str) fun _ => de_str) e1) (od_addS ?_)) (congrArg D.str (cat_S _ _))) (de_var 3) (od_addS ?_)) (congrArg D.str (cat_S _ _))) ?_)
        · rw [S_len, S_len]
          refine szl ?_
          omega
        · rw [S_len, S_len, List.length_append]
          refine szl ?_
          omega
        · refine ss_one (sw_setD 2 (de_var 3) ⟨_, t, some (.im (tx t)), some (.im (.bl (tight b t))), ?_, hj, rfl⟩)
          rw [List.length_append, List.length_append]
          omega
    · obtain ⟨acc, b, x, y, hb, hj, rfl⟩ := hI
      rw [List.length_map, List.drop_length] at hj
      have hj : acc = joinP [40] ts [] := hj
      subst hj
      exact ss_one (sw_retD (de_var 1) rfl)
end
end Sd

set_option Elab.async false
set_option linter.all false
set_option maxRecDepth 100000
set_option maxHeartbeats 4000000
set_option exponentiation.threshold 10000
namespace Sd
open PySem PySem.Spec PyProof.Rows L2
theorem flat_S (l : List (List Nat)) : Txt.join (S []) (l.map S) = S l.flatten := by
  have e : ∀ l : List (List Nat), TL.joinL [] l = l.flatten := fun l => by
    induction l with
    | nil => rfl
    | cons c r ih =>
      cases r with
      | nil => simp [TL.joinL]
      | cons d r =>
        show c ++ ([] ++ TL.joinL [] (d :: r)) = _
        rw [ih]
        rfl
  rw [← e]
  exact SX.join_S [] l
/-- a draft that may be printed -/
structure DrOk (n : Nat) (l : List Stt) : Prop where
  ok : ∀ s ∈ l, okT n s
  ch : ∀ s ∈ l, chW (stT s) ≤ 900000
  all : (l.map fun s => chW (stT s) + 1).sum ≤ 900000
  len : l.length ≤ 1000
theorem prT_len : ∀ l : List Stt, (prT l).length ≤ (l.map fun s => chW (stT s) + 1).sum ∧ ((l.map fun s => S (lnP s)).map (·.length)).sum ≤ (l.map fun s => chW (stT s) + 1).sum
  | [] => ⟨Nat.le_refl _, Nat.le_refl _⟩
  | s :: r => by
    obtain ⟨i1, i2⟩ := prT_len r
    have h : (lnP s).length ≤ chW (stT s) + 1 := by
      unfold lnP
      rw [List.length_append, List.length_cons, List.length_nil]
      have := joinP_len (stT s) [40] []
      rw [List.length_nil] at this
      omega
    refine ⟨?_, ?_⟩
    · rw [List.map_cons, List.sum_cons]
      show (lnP s ++ prT r).length ≤ _
      rw [List.length_append]
      omega
    · rw [List.map_cons, List.map_cons, List.map_cons, List.sum_cons, List.sum_cons, S_len]
      omega
/-- what print answers -/
def printA (b : List Nat) : Int × List Nat × List Int := if decide (b.length ≤ 4096) = true then (match stsOf (b.map sg) with
    | .ok l _ => (((prT l).length : Int), prT l, [])
    | .bad ts => (-2, [], [((fltK (rsOf (b.map sg)) ts).1 : Int), ((fltK (rsOf (b.map sg)) ts).2 : Int)])) else (-1, [], [])
section
variable {P : Program} {w : World} {K : PySem.W.Frag} {mg : Str → Option Value} {base : Heap} {Cr : Addr}
theorem sc_printed : FnScope ["statements", "told"] ["statements"] (defScope s_printed) := ⟨rfl, rfl, rfl, by decide +kernel, rfl, by decide +kernel, by decide +kernel⟩
def F_printed (n : Nat) : FS := fun ds r => ∃ l : List Stt, ds = [.lst (l.map dSt)] ∧ DrOk n l ∧ r = .ret (tx (prT l))
theorem fn_printed {k n : Nat} (T : FunT K mg "printed" s_printed ["statements"]) (hk1 : 1 ≤ k) (hS : FnN P w K mg base "statement_tokens" k (F_stt n)) (hJ : FnN P w K mg base "joined" 1 F_joined) : FnN P w K mg base "printed" (k + 1) (F_printed n) := fnN T fun f fd Fu => by
  have hk : k ≤ k := Nat.le_refl k
  refine fn_intro Fu sc_printed (fun ds r h => ?_) fun cd A outer s H E W room ds r h => ?_
  · obtain ⟨l, rfl, _⟩ := h
    rfl
  · obtain ⟨l, rfl, ok, rfl⟩ := h
    refine ss_one (sw_retD (de_is (de_join (a := S []) (ys := l.map fun s => S (lnP s)) de_str (de_is (x := .lst (l.map fun s => D.str (S (lnP s)))) ?_ (by rw [List.map_map]; rfl)) ?_) (y := tx (prT l)) ?_) rfl)
    · refine ew_compR (own := [("told", 1)]) (ds := l.map dSt) [1] [1] (fun d => [d]) (fun i acc Γ1 => acc = (l.take i).map (fun s => D.str (S (lnP s))) ∧ Γ1 = [some (.im (.lst (l.map dSt))), none]) (sd_list (de_var 0)) rfl (by rw [List.length_map]; have := ok.len; omega) rfl ⟨rfl, rfl⟩ (fun F σ0 s H cl C fp hp d _ => tg_name 1) ?_ ?_
      · rintro F σ0 s0 H0 cl C fp hp i d acc Γ1 hd hacc ⟨rfl, rfl⟩
        rw [List.getElem?_map] at hd
        cases e : l[i]? with
        | none => rw [e] at hd; cases hd
        | some st =>
          rw [e] at hd
          cases hd
          have hm := List.mem_of_getElem? e
          refine ew_pure (d := tx (lnP st)) (de_is (de_op (de_call hJ (hk := hk1) (des_cons (de_call hS (hk := hk) (des_cons (de_var 1) des_nil) ⟨st, rfl, ok.ok st hm, rfl⟩) des_nil) ⟨stT st, rfl, ok.ch st hm, rfl⟩) de_str (od_addS (t := S [10]) ?_)) ?_) ⟨?_, rfl⟩
          · rw [S_len, S_len]
            have := joinP_len (stT st) [40] []
            have h2 := ok.ch st hm
            refine szl ?_
            simp only [List.length_cons, List.length_nil] at this ⊢
            omega
          · show D.str (S (joinP [40] (stT st) []) ++ S [10]) = _
            rw [cat_S]
            rfl
          · rw [take_one e, List.map_append]
            rfl
      · rintro acc Γ1 ⟨rfl, rfl⟩
        refine ⟨?_, rfl⟩
        rw [List.length_map, List.take_length]
    · have := (prT_len l).2
      have h2 := ok.all
      rw [S_len]
      simp only [List.length_nil, Nat.mul_zero, Nat.add_zero]
      omega
    · have e : (l.map fun s => S (lnP s)) = (l.map lnP).map S := by rw [List.map_map]; rfl
      rw [e, flat_S]
      rfl
theorem sc_answer_print : FnScope ["t"] ["t"] (defScope s_answer_print) := ⟨rfl, rfl, rfl, by decide +kernel, rfl, by decide +kernel, by decide +kernel⟩
def F_answer_print (Cr : Addr) : FS := fun ds r => ∃ b : List Nat, ds = [bytesD b] ∧ r = ansR Cr (printA b)
theorem fn_answer_print {k n : Nat} (T : FunT K mg "answer_print" s_answer_print ["t"]) (h33 : 33 ≤ k) (hk' : k ≤ 200) (hSt : ∀ b : List Nat, b.length ≤ 4096 → ∀ l us, stsOf (b.map sg) = .ok l us → DrOk n l) (hW : FnN P w K mg base "want_short" 5 (F_want_short Cr)) (hP : FnC P w K mg base "draft_in" 33 (F_draft_in Cr)) (hPr : FnN P w K mg base "printed" k (F_printed n)) (hT : FnN P w K mg base "told_text" 2 F_told_text) :
    FnC P w K mg base "answer_print" (k + 1) (F_answer_print Cr) := fnC T fun f fd Fu => by
  have hk : k ≤ k := Nat.le_refl k
  have h5 : 5 ≤ k := by omega
  have h2 : 2 ≤ k := by omega
  refine fnC_intro Fu sc_answer_print (fun ds r h => ?_) fun cd A outer s H E W room ds r h => ?_
  · obtain ⟨b, rfl, _⟩ := h
    rfl
  · obtain ⟨b, rfl, rfl⟩ := h
    refine ss_cons (sw_expr (ew_call hW.weak (hk := h5) (h := aw_pure (des_cons (de_lst (des_cons (de_var 0) des_nil)) des_nil) ⟨_, ⟨[b], rfl, Nat.le_of_ble_eq_true rfl, rfl⟩, ?_⟩)))
    have e1 : ([b].all fun b => decide (b.length ≤ 4096)) = decide (b.length ≤ 4096) := by simp
    rw [e1]
    cases hb : decide (b.length ≤ 4096) with
    | false =>
      show ansR Cr (printA b) = _
      unfold printA
      rw [hb]
      rfl
    | true =>
      have hb' := of_decide_eq_true hb
      have ej : printA b = match stsOf (b.map sg) with
        | .ok l _ => (((prT l).length : Int), prT l, [])
        | .bad ts => (-2, [], [((fltK (rsOf (b.map sg)) ts).1 : Int), ((fltK (rsOf (b.map sg)) ts).2 : Int)]) := by
        unfold printA
        rw [if_pos hb]
      cases e : stsOf (b.map sg) with
      | bad ts =>
        rw [e] at ej
        refine ss_one (sw_ret (ew_call hT.weak (hk := h2) (h := aw_cons (ew_call hPr.weak (hk := hk) (h := aw_cons (ew_call hP (hk := h33) (h := aw_pure (des_cons (de_var 0) des_nil) ⟨_, ⟨b, rfl, hb', rfl⟩, ?_⟩)))))))
        unfold drR
        rw [e]
        show ansR Cr (printA b) = _
        rw [ej]
        rfl
      | ok l us =>
        rw [e] at ej
        have ok := hSt b hb' l us e
        have hl := (prT_len l).1
        have h9 := ok.all
        refine ss_one (sw_ret (ew_call hT.weak (hk := h2) (h := aw_cons (ew_call hPr.weak (hk := hk) (h := aw_cons (ew_call hP (hk := h33) (h := aw_pure (des_cons (de_var 0) des_nil) ⟨_, ⟨b, rfl, hb', rfl⟩, ?_⟩)))))))
        unfold drR
        rw [e]
        refine aw_nil ⟨_, ⟨l, rfl, ok, rfl⟩, aw_nil ⟨_, ⟨prT l, rfl, by omega, rfl⟩, ?_⟩⟩
        show ansR Cr (printA b) = _
        rw [ej]
        unfold ansR
        rw [if_neg (by show ¬ ((prT l).length : Int) < 0; omega)]
        rfl
theorem sc_print_of : FnScope ["t", "e"] ["t"] (defScope s_print_of) := ⟨rfl, rfl, rfl, by decide +kernel, rfl, by decide +kernel, by decide +kernel⟩
def F_print_of : FS := fun ds r => ∃ b : List Nat, ds = [bytesD b] ∧ r = .ret (.lst ((ansL (printA b)).map D.int))
theorem printA_neg (b : List Nat) (h : (printA b).1 < 0) : (printA b).2.1 = [] ∧ (printA b).2.2.length ≤ 10 := by
  unfold printA at h ⊢
  split at h
  · rename_i hb
    rw [if_pos hb]
    cases e : stsOf (b.map sg) with
    | ok l us =>
      rw [e] at h
      have h : ((prT l).length : Int) < 0 := h
      omega
    | bad ts => exact ⟨rfl, by simp⟩
  · rename_i hb
    rw [if_neg hb]
    exact ⟨rfl, by simp⟩
theorem fn_print_of {k : Nat} {f : Addr} {fd fdR : FuncData} {fR : Addr} (h2 : 2 ≤ k) (Fu : Fun K "print_of" "print_of" s_print_of f fd) (hA : FnC P w K mg base "answer_print" k (F_answer_print Cr)) (FR : FnW P w K mg base (L2.CX P w) 2 fR fdR ["e"] (spR K Cr G_refused)) (hm : mg "refused" = some (.ref fR)) (hk : PySem.W.keepIn K (.ref fR) = true) (hbd : Binds K fdR ["e"] [])
    (hf : mg "Refused" = some (.ref Cr)) (hcc : PySem.W.exmOne K (.ref Cr) (.ref Cr) = some true) : FnOk P w K mg base (L2.CX P w) (k + 1) f fd ["t"] (spF K F_print_of) := by
  have hkk : k ≤ k := Nat.le_refl k
  refine fnC_intro Fu sc_print_of (fun ds r h => ?_) fun cd A outer s H E W room ds r h => ?_
  · obtain ⟨b, rfl, _⟩ := h
    rfl
  · obtain ⟨b, rfl, rfl⟩ := h
    refine ss_one (sw_try_ret (G := G_refused) 1 FR h2 hm hk hbd hcc hf (fun pn xe W tk po => ss_one (sw_ret (ew_call hA (hk := hkk) (h := aw_pure (des_cons (de_var 0) des_nil) ⟨_, ⟨b, rfl, rfl⟩, ?_⟩)))) (hnx := ?_) (hbk := fun _ z => z) (hct := fun _ z => z))
    · by_cases h : (printA b).1 < 0
      · obtain ⟨h1, h2⟩ := printA_neg b h
        unfold ansR
        rw [if_pos h]
        exact ⟨rfl, Nat.le_of_ble_eq_true rfl, _, ⟨_, _, rfl, by rw [List.length_map]; exact h2, rfl⟩, congrArg Res.ret (ans_exc h h1).symm⟩
      · rw [ans_ret h]
        rfl
    · intro Γ z
      cases z
end
end Sd

set_option Elab.async false
set_option linter.all false
set_option maxRecDepth 100000
set_option maxHeartbeats 4000000
set_option exponentiation.threshold 10000
namespace Sd
open PySem PySem.Spec PyProof.Rows L2
theorem above_cut (l : List Nat) : aboveN (cutN 47 l).1 = (cutN 47 (aboveN l)).1 ∧ (cutN 47 l).2 = (cutN 47 (aboveN l)).2 ∧ ((cutN 47 l).1.head? = some 45 ↔ l.head? = some 45) := by
  cases l with
  | nil => exact ⟨rfl, rfl, Iff.rfl⟩
  | cons x r =>
    by_cases h : x = 45
    · subst h
      have e : cutN 47 (45 :: r) = (45 :: (cutN 47 r).1, (cutN 47 r).2) := if_neg (by decide)
      rw [e]
      exact ⟨rfl, rfl, Iff.rfl⟩
    · have e1 : aboveN (x :: r) = x :: r := if_neg (fun z => h (Option.some.inj z))
      rw [e1]
      have e2 : (cutN 47 (x :: r)).1.head? ≠ some 45 := by
        unfold cutN
        split
        · exact fun z => nomatch z
        · exact fun z => h (Option.some.inj z)
      exact ⟨if_neg e2, rfl, ⟨fun z => absurd z e2, fun z => absurd (Option.some.inj z) h⟩⟩
/-- the parts of l: its sign, what's above, what's below -/
theorem parts (l : List Nat) (hp : plain (cutN 47 (aboveN l)).1 = true) : l = (if l.head? = some 45 then [45] else []) ++ ((cutN 47 (aboveN l)).1 ++ match (cutN 47 (aboveN l)).2 with
    | none => []
    | some d => 47 :: d) := by
  have back : ∀ l : List Nat, l = (cutN 47 l).1 ++ match (cutN 47 l).2 with
    | none => []
    | some d => 47 :: d := fun l => by
    induction l with
    | nil => rfl
    | cons x r ih =>
      by_cases h : x = 47
      · subst h
        rfl
      · have e : cutN 47 (x :: r) = ((x :: (cutN 47 r).1), (cutN 47 r).2) := if_neg h
        rw [e]
        show x :: r = x :: ((cutN 47 r).1 ++ _)
        rw [← ih]
  rw [← back (aboveN l)]
  cases l with
  | nil => rfl
  | cons x r =>
    by_cases h : (x :: r).head? = some 45
    · rw [if_pos h]
      unfold aboveN
      rw [if_pos h]
      rw [Option.some.inj h]
      rfl
    · rw [if_neg h]
      unfold aboveN
      rw [if_neg h]
      rfl
theorem fits_iff (x : Rat) : SeamNum.fits x = true ↔ x.num.natAbs ≤ 2 ^ 62 ∧ x.den ≤ 2 ^ 62 := by
  unfold SeamNum.fits SeamNum.FINE
  rw [Bool.and_eq_true, decide_eq_true_eq, decide_eq_true_eq]
theorem ratio (neg : Bool) (p q : Nat) : (if neg = true then -((p : Nat) : Rat) else ((p : Nat) : Rat)) / (q : Rat) = mkRat (if neg = true then -(p : Int) else (p : Int)) q := by
  rw [Rat.mkRat_eq_div]
  congr 1
  cases neg with
  | true =>
    rw [if_pos rfl, if_pos rfl, Rat.intCast_neg]
    rfl
  | false => rfl
theorem numIn_read (l : List Nat) : numIn l = readN l := by
  obtain ⟨c1, c2, c3⟩ := above_cut l
  have hparts := parts l
  unfold numIn readN numOf numN
  rw [c1]
  have c3' : (cutN 47 l).1 = [45, 48] ↔ l.head? = some 45 ∧ (cutN 47 (aboveN l)).1 = [48] := by
    refine ⟨fun z => ?_, fun ⟨z1, z2⟩ => ?_⟩
    · refine ⟨c3.mp (by rw [z]; rfl), ?_⟩
      rw [← c1, z]
      rfl
    · have h1 := c3.mpr z1
      rw [← c1] at z2
      unfold aboveN at z2
      rw [if_pos h1] at z2
      cases e : (cutN 47 l).1 with
      | nil => rw [e] at h1; cases h1
      | cons x r =>
        rw [e] at h1 z2
        rw [Option.some.inj h1, show r = [48] from z2]
  have c4 : lineN (cutN 47 l) = match (cutN 47 (aboveN l)).2 with
      | none => []
      | some _ => [47] := by
    unfold lineN
    rw [c2]
    try (cases (cutN 47 (aboveN l)).2 <;> rfl)
  rw [c4, c2]
  simp only [c3, c3']
  clear c4
  generalize (cutN 47 (aboveN l)).1 = a at hparts
  generalize (cutN 47 (aboveN l)).2 = t at hparts c2
  have ht : (cutN 47 l).2 = t := c2
  generalize hneg : decide (l.head? = some 45) = neg
  have en : (l.head? = some 45) = (neg = true) := by
    rw [← hneg]
    simp
  simp only [en] at hparts ⊢
  by_cases hp : plain a = true
  · have hl := hparts hp
    have ea := dec_of_plain hp
    have a48 : a = [48] ↔ valN a = 0 := by
      refine ⟨fun z => by rw [z]; rfl, fun z => ?_⟩
      rw [z] at ea
      exact ea.symm
    generalize valN a = p at *
    simp only [hp, Bool.not_true, Bool.false_or, if_true]
    -- the text of a number of these parts
    have same : ∀ (x : Rat) (q : Nat), x.num = (if neg = true then -(p : Int) else (p : Int)) → x.den = q → (textN x = (if neg = true then [45] else []) ++ (a ++ (if q = 1 then [] else 47 :: dec q)) ↔ ¬ (neg = true ∧ p = 0)) := fun x q hn hd => by
      unfold textN
      have hx : x < 0 ↔ (neg = true ∧ p ≠ 0) := by
        rw [rat_lt, hn]
        show _ * (1 : Int) < 0 * _ ↔ _
        rw [Int.mul_one, Int.zero_mul]
        cases neg with
        | true =>
          simp only [if_true, true_and]
          omega
        | false =>
          simp only [Bool.false_eq_true, if_false, false_and]
          exact ⟨fun z => absurd z (by omega), fun z => z.elim⟩
      have hab : x.num.natAbs = p := by
        rw [hn]
        split <;> omega
      rw [hab, hd, ← ea]
      by_cases hz : neg = true ∧ p = 0
      · rw [if_neg (fun z => (hx.mp z).2 hz.2), if_pos hz.1]
        refine ⟨fun e => ?_, fun e => absurd hz e⟩
        exfalso
        have := congrArg List.head? e
        rw [List.nil_append] at this
        cases hdp : dec p with
        | nil => exact dec_ne p hdp
        | cons c r =>
          rw [hdp] at this
          have e1 : c = 45 := Option.some.inj this
          have := dec_digit (n := p) (c := c) (by rw [hdp]; exact List.mem_cons_self)
          omega
      · refine ⟨fun _ => hz, fun _ => ?_⟩
        have : (x < 0) = (neg = true) := propext ⟨fun z => (hx.mp z).1, fun z => hx.mpr ⟨z, fun y => hz ⟨z, y⟩⟩⟩
        simp only [this]
    cases t with
    | none =>
      have hl' : l = (if neg = true then [45] else []) ++ (a ++ (if (1 : Nat) = 1 then [] else 47 :: dec 1)) := by rw [hl]; rfl
      have e0 : (if (1 : Nat) = 0 then (0 : Rat) else (if neg = true then -((p : Nat) : Rat) else ((p : Nat) : Rat)) / ((1 : Nat) : Rat)) = mkRat (if neg = true then -(p : Int) else (p : Int)) 1 := by rw [if_neg (by decide), ratio]
      simp only [Option.bind_some, e0]
      generalize hN : (if neg = true then -(p : Int) else (p : Int)) = N at same
      obtain ⟨n1, n2⟩ := rat_of (q := mkRat N 1) (n := N) (d := 1) (by decide) (Nat.coprime_one_right _) (by rw [Rat.mkRat_eq_div])
      have st := same (mkRat N 1) 1 n1 n2
      rw [← hl'] at st
      simp only [fits_iff, n1, n2, st]
      by_cases hz : neg = true ∧ p = 0
      · rw [if_pos, if_neg (fun z => z.2.2 hz)]
        simp [a48, hz]
      · have hz' : neg = true → ¬ p = 0 := fun h1 h2 => hz ⟨h1, h2⟩
        rw [if_neg]
        · by_cases hf : N.natAbs ≤ 2 ^ 62
          · have hf' : N.natAbs ≤ 4611686018427387904 := hf
            simp [hf', hz']
            exact hz'
          · have hf' : ¬ N.natAbs ≤ 4611686018427387904 := hf
            simp [hf']
        · simp [a48]
          exact hz'
    | some d =>
      by_cases hq : plain d = true
      · have ed := dec_of_plain hq
        have d48 : d = [48] ↔ valN d = 0 := by
          refine ⟨fun z => by rw [z]; rfl, fun z => ?_⟩
          rw [z] at ed
          exact ed.symm
        have d49 : d = [49] ↔ valN d = 1 := by
          refine ⟨fun z => by rw [z]; rfl, fun z => ?_⟩
          rw [z] at ed
          exact ed.symm
        simp only [Option.getD_some, hq, if_true, Bool.not_true, Bool.false_or, Option.bind_some]
        generalize valN d = q at *
        simp only [hq, if_true, Bool.not_true, Bool.false_or, Option.bind_some, d48, d49]
        by_cases q0 : q = 0
        · subst q0
          simp
        · rw [ratio, if_neg q0]
          generalize hN : (if neg = true then -(p : Int) else (p : Int)) = N at same
          by_cases q1 : q = 1
          · subst q1
            rw [if_pos (by simp), if_neg]
            rintro ⟨_, _, e⟩
            obtain ⟨n1, n2⟩ := rat_of (q := mkRat N 1) (n := N) (d := 1) (by decide) (Nat.coprime_one_right _) (by rw [Rat.mkRat_eq_div])
            have := textN_cut (mkRat N 1)
            rw [e, if_pos n2] at this
            rw [this] at ht
            cases ht
          · by_cases hg : Int.gcd N q = 1
            · have hc : N.natAbs.Coprime q := hg
              obtain ⟨n1, n2⟩ := rat_of (q := mkRat N q) (n := N) (d := q) q0 hc (by rw [Rat.mkRat_eq_div])
              have st := same (mkRat N q) q n1 n2
              rw [if_neg q1, ed, ← hl] at st
              simp only [fits_iff, n1, n2, st]
              have hz : ¬ (neg = true ∧ p = 0) := fun z => by
                rw [← hN, if_pos z.1, z.2] at hg
                have : Int.gcd (-((0 : Nat) : Int)) q = q := by simp
                rw [this] at hg
                exact q1 hg
              rw [if_neg]
              · by_cases hf : N.natAbs ≤ 2 ^ 62 ∧ q ≤ 2 ^ 62
                · have hz' : neg = true → ¬ p = 0 := fun h1 h2 => hz ⟨h1, h2⟩
                  have hf1 : N.natAbs ≤ 4611686018427387904 := hf.1
                  have hf2 : q ≤ 4611686018427387904 := hf.2
                  simp [hf1, hf2, hg, hz', q0]
                  exact hz'
                · have e1 : (decide (Int.gcd N ((if ([47] : List Nat) = [] then 1 else q : Nat) : Int) = 1) && (decide (N.natAbs ≤ 2 ^ 62) && decide ((if ([47] : List Nat) = [] then 1 else q) ≤ 2 ^ 62))) = false := by
                    rw [if_neg (by decide), decide_eq_true hg, Bool.true_and, ← Bool.decide_and]
                    exact decide_eq_false hf
                  rw [e1, if_neg Bool.false_ne_true, if_neg (fun z => hf z.2.1)]
              · simp [a48, q0, q1]
                exact fun h1 h2 => hz ⟨h1, h2⟩
            · rw [if_neg (c := q ≠ 0 ∧ _ ∧ _)]
              · split
                · rfl
                · rw [if_neg]
                  simp only [List.cons_ne_nil, if_false, Bool.and_eq_true, decide_eq_true_eq]
                  exact fun z => hg z.1
              · rintro ⟨_, _, e⟩
                have := textN_cut (mkRat N q)
                rw [e] at this
                rw [this] at ht
                dsimp only at ht
                split at ht
                · cases ht
                · have e2 : dec (mkRat N q).den = dec q := by rw [ed]; exact Option.some.inj ht
                  have e3 := dec_inj e2
                  rw [Rat.den_mkRat, if_neg q0] at e3
                  apply hg
                  have h1 : q.gcd N.natAbs ∣ q := Nat.gcd_dvd_left _ _
                  have h2 := Nat.div_mul_cancel h1
                  rw [e3] at h2
                  have h3 : q.gcd N.natAbs = 1 := Nat.eq_of_mul_eq_mul_left (Nat.pos_of_ne_zero q0) (by rw [h2, Nat.mul_one])
                  rw [Nat.gcd_comm] at h3
                  exact h3
      · rw [Bool.not_eq_true] at hq
        simp [hq]
  · rw [Bool.not_eq_true] at hp
    rw [hp]
    rfl
theorem num_read (b : Bytes) : numIn ((nb b).map sg) = SeamPattern.readNum b := by rw [numIn_sg, numIn_read, readNum_eq]
end Sd

set_option Elab.async false
set_option linter.all false
set_option maxRecDepth 100000
set_option maxHeartbeats 4000000
set_option exponentiation.threshold 10000
namespace Sd
open PySem PySem.Spec PyProof.Rows L2
/-- what the program reads of bytes -/
abbrev sgs (b : Bytes) : List Nat := (nb b).map sg
theorem sgs_eq {b t : Bytes} (ht : ∀ c ∈ nb t, c ∈ LI) : sgs b = nb t ↔ b = t := by rw [eq_sg ht, nb_eq]
theorem sg10 {c t : UInt8} (ht : t.toNat ∈ LI) : sg c.toNat = t.toNat ↔ c = t := by rw [sg_li ht, UInt8.toNat_inj]
theorem lines_eq (b : Bytes) : splN 10 (sgs b) = ((SeamPattern.linesOf b).1 ++ [(SeamPattern.linesOf b).2]).map sgs := by
  induction b with
  | nil => rfl
  | cons c r ih =>
    have h10 : sg c.toNat = 10 ↔ c = 10 := @sg10 c 10 (by decide +kernel)
    show (if sg c.toNat = 10 then [] :: splN 10 (sgs r) else match splN 10 (sgs r) with
      | [] => [[sg c.toNat]]
      | p :: ps => (sg c.toNat :: p) :: ps) = _
    unfold SeamPattern.linesOf
    by_cases h : c = 10
    · rw [if_pos (h10.mpr h), ih]
      dsimp only
      rw [if_pos h]
      rfl
    · rw [if_neg (fun z => h (h10.mp z)), ih]
      dsimp only
      rw [if_neg h]
      cases (SeamPattern.linesOf r).1 with
      | nil => rfl
      | cons x l => rfl
theorem words_eq (b : Bytes) : splN 32 (sgs b) = (SeamPattern.wordsOf b).map sgs := by
  induction b with
  | nil => rfl
  | cons c r ih =>
    have h10 : sg c.toNat = 32 ↔ c = 32 := @sg10 c 32 (by decide +kernel)
    show (if sg c.toNat = 32 then [] :: splN 32 (sgs r) else match splN 32 (sgs r) with
      | [] => [[sg c.toNat]]
      | p :: ps => (sg c.toNat :: p) :: ps) = _
    unfold SeamPattern.wordsOf
    by_cases h : c = 32
    · rw [if_pos (h10.mpr h), ih, if_pos h]
      rfl
    · rw [if_neg (fun z => h (h10.mp z)), ih, if_neg h]
      cases SeamPattern.wordsOf r with
      | nil => rfl
      | cons x l => rfl
theorem name_eq (b : Bytes) : nameP (sgs b) = SeamPattern.isName b ∧ (SeamPattern.isName b = true → sgs b = nb b) := by
  have al : ∀ c : UInt8, isAl c.toNat = ((decide (48 ≤ c) && decide (c ≤ 57)) || ((decide (65 ≤ c) && decide (c ≤ 90)) || (decide (97 ≤ c) && decide (c ≤ 122)))) := fun c => by
    unfold isAl
    have d : ∀ a b : UInt8, decide (a ≤ b) = decide (a.toNat ≤ b.toNat) := fun a b => decide_eq_decide.mpr UInt8.le_iff_toNat_le
    rw [d 48 c, d c 57, d 65 c, d c 90, d 97 c, d c 122]
    show _ = ((decide (48 ≤ c.toNat) && decide (c.toNat ≤ 57)) || ((decide (65 ≤ c.toNat) && decide (c.toNat ≤ 90)) || (decide (97 ≤ c.toNat) && decide (c.toNat ≤ 122))))
    generalize (decide (48 ≤ c.toNat) && decide (c.toNat ≤ 57)) = x
    generalize (decide (65 ≤ c.toNat) && decide (c.toNat ≤ 90)) = y
    generalize (decide (97 ≤ c.toNat) && decide (c.toNat ≤ 122)) = z
    cases x <;> cases y <;> cases z <;> rfl
  refine ⟨?_, fun h => ?_⟩
  · unfold nameP SeamPattern.isName
    rw [List.length_map, show (nb b).length = b.length from List.length_map _, List.all_map, show (nb b).all (isAl ∘ sg) = b.all (fun (c : UInt8) => (decide (48 ≤ c) && decide (c ≤ 57)) || ((decide (65 ≤ c) && decide (c ≤ 90)) || (decide (97 ≤ c) && decide (c ≤ 122)))) from ?_]
    · cases b with
      | nil => rfl
      | cons c r =>
        rw [decide_eq_true (show 1 ≤ (c :: r).length by simp)]
        rfl
    · unfold nb
      rw [List.all_map]
      congr 1
      funext c
      show isAl (sg c.toNat) = _
      rw [(sg_al _).1, al]
  · unfold SeamPattern.isName at h
    simp only [Bool.and_eq_true] at h
    have a := List.all_eq_true.mp h.2.2
    show (nb b).map sg = nb b
    unfold nb
    rw [List.map_map]
    refine List.map_congr_left fun c hc => (sg_al c.toNat).2 ?_
    rw [al]
    exact a c hc
/-! ## the pattern on its way -/
def toPT (p : SeamPattern.Piece) : PT := ⟨nb p.name, p.grain, p.row⟩
def toS (s : SeamPattern.Seam) : List Nat := [s.1.1, s.1.2, s.2.1, s.2.2]
def toLS (m : SeamPattern.Making) : LS := ⟨m.pieces.map toPT, m.seams.map toS, m.ended⟩
theorem filled_eq (m : SeamPattern.Making) : filled (toLS m) = m.enough := by
  unfold filled SeamPattern.Making.enough toLS
  dsimp only
  rw [List.getLast?_map]
  cases m.pieces.getLast? with
  | none => rfl
  | some p => rfl
theorem addP_eq (q : Pt) : ∀ (l : List SeamPattern.Piece) (x : SeamPattern.Piece), l.getLast? = some x → addP q (l.map toPT) = (l.dropLast ++ [{ x with row := x.row ++ [q] }]).map toPT
  | [p], x, h => by
    cases h
    rfl
  | p :: r :: l, x, h => by
    rw [List.getLast?_cons_cons] at h
    show toPT p :: addP q ((r :: l).map toPT) = _
    rw [addP_eq q (r :: l) x h]
    rfl
theorem isE {α β : Type} (l : List α) (f : α → β) : (l.map f).isEmpty = l.isEmpty := by cases l <;> rfl
theorem sgs_end (b : Bytes) : sgs b = [101, 110, 100] ↔ b = SeamNum.ascii "end" := sgs_eq (t := SeamNum.ascii "end") (by decide +kernel)
theorem sgs_piece (b : Bytes) : sgs b = [112, 105, 101, 99, 101] ↔ b = SeamNum.ascii "piece" := sgs_eq (t := SeamNum.ascii "piece") (by decide +kernel)
theorem sgs_seam (b : Bytes) : sgs b = [115, 101, 97, 109] ↔ b = SeamNum.ascii "seam" := sgs_eq (t := SeamNum.ascii "seam") (by decide +kernel)
theorem num_piece : SeamPattern.readNum (SeamNum.ascii "piece") = none := by
  rw [← num_read]
  decide +kernel
theorem num_seam : SeamPattern.readNum (SeamNum.ascii "seam") = none := by
  rw [← num_read]
  decide +kernel
/-- what holds of a pattern on its way -/
structure MOk (m : SeamPattern.Making) : Prop where
  few : m.pieces.length ≤ 8
  pc : ∀ p ∈ m.pieces, SeamPattern.isName p.name = true ∧ p.row.length ≤ 16 ∧ p.row.all SeamNum.fitsP = true ∧ SeamNum.fitsP p.grain = true
  full : ∀ p ∈ m.pieces.dropLast, 3 ≤ p.row.length
  fin : m.seams ≠ [] ∨ m.ended = true → m.enough = true
end Sd

set_option Elab.async false
set_option linter.all false
set_option maxRecDepth 100000
set_option maxHeartbeats 4000000
set_option exponentiation.threshold 10000
namespace Sd
open PySem PySem.Spec PyProof.Rows L2
/-! # The lexer's law -/
/-- numbers as bytes -/
def bb (l : List Nat) : Bytes := l.map UInt8.ofNat
theorem bb_nb (b : Bytes) : bb (nb b) = b := by
  unfold bb nb
  rw [List.map_map]
  conv => rhs; rw [← List.map_id b]
  exact List.map_congr_left fun c _ => UInt8.ofNat_toNat
theorem sg_keep {p : Nat → Bool} (h : ∀ c, p c = true → c ∈ LI) (h9 : p 9 = false) (c : Nat) : p (sg c) = p c ∧ (p c = true → sg c = c) := by
  by_cases hc : c ∈ LI
  · have e : sg c = c := if_pos hc
    exact ⟨by rw [e], fun _ => e⟩
  · have e : sg c = 9 := if_neg hc
    have z : p c = false := by
      cases q : p c with
      | false => rfl
      | true => exact absurd (h c q) hc
    exact ⟨by rw [e, h9, z], fun q => by rw [z] at q; cases q⟩
theorem small_in {p : Nat → Bool} (h : (List.range 128).all (fun c => !p c || decide (c ∈ LI)) = true) (hb : ∀ c, 128 ≤ c → p c = false) (c : Nat) (hc : p c = true) : c ∈ LI := by
  by_cases h1 : c < 128
  · have := List.all_eq_true.mp h c (List.mem_range.mpr h1)
    rw [hc] at this
    simpa using this
  · rw [hb c (by omega)] at hc
    cases hc
theorem let_sg (c : Nat) : isLet (sg c) = isLet c ∧ (isLet c = true → sg c = c) := sg_keep (small_in (by decide +kernel) fun c h => by unfold isLet; simp; omega) (by decide) c
theorem al_sg (c : Nat) : isAl (sg c) = isAl c ∧ (isAl c = true → sg c = c) := sg_keep (small_in (by decide +kernel) fun c h => by unfold isAl; simp; omega) (by decide) c
theorem sgn_sg (c : Nat) : isSgn (sg c) = isSgn c ∧ (isSgn c = true → sg c = c) := sg_keep (small_in (by decide +kernel) fun c h => by unfold isSgn sgns; simp; omega) (by decide) c
theorem tw_sg {p : Nat → Bool} {q : UInt8 → Bool} (h : ∀ c, p (sg c) = p c ∧ (p c = true → sg c = c)) (hq : ∀ c : UInt8, q c = p c.toNat) : ∀ b : Bytes, (sgs b).takeWhile p = nb (b.takeWhile q)
  | [] => rfl
  | c :: r => by
    show List.takeWhile p (sg c.toNat :: sgs r) = _
    cases e : p c.toNat with
    | true =>
      rw [List.takeWhile_cons_of_pos (by rw [(h _).1]; exact e), List.takeWhile_cons_of_pos (by rw [hq]; exact e), tw_sg h hq r, (h _).2 e]
      rfl
    | false =>
      rw [List.takeWhile_cons_of_neg (by rw [(h _).1, e]; decide), List.takeWhile_cons_of_neg (by rw [hq, e]; decide)]
      rfl
theorem sgs_drop (n : Nat) (b : Bytes) : (sgs b).drop n = sgs (b.drop n) := by
  unfold sgs nb
  rw [List.map_drop, List.map_drop]
theorem sgs_len (b : Bytes) : (sgs b).length = b.length := by
  unfold sgs nb
  rw [List.length_map, List.length_map]
theorem nb_len (b : Bytes) : (nb b).length = b.length := by
  unfold nb
  rw [List.length_map]
theorem u8_le (c : UInt8) (n : Nat) (h : n < 256) : (UInt8.ofNat n ≤ c) ↔ n ≤ c.toNat := by
  rw [UInt8.le_iff_toNat_le, UInt8.toNat_ofNat', Nat.mod_eq_of_lt h]
theorem u8_ge (c : UInt8) (n : Nat) (h : n < 256) : (c ≤ UInt8.ofNat n) ↔ c.toNat ≤ n := by
  rw [UInt8.le_iff_toNat_le, UInt8.toNat_ofNat', Nat.mod_eq_of_lt h]
theorem letter_eq (c : UInt8) : SeamText.isLetter c = isLet c.toNat := rfl
theorem digit_eq (c : UInt8) : SeamPattern.isDigit c = isDig c.toNat := rfl
/-! ### words -/
def WL : List (List Nat) := WORDSs.map fun x => x.cps.toList
theorem wordN_iff (l : List Nat) : wordN l = true ↔ l ∈ WL := by
  have e : WORDSs = WL.map S := by decide +kernel
  unfold wordN inF
  rw [e, List.map_map, List.any_map, List.any_eq_true]
  constructor
  · rintro ⟨x, hx, h⟩
    have h : eqF (.str (S x)) (.str (S l)) = true := h
    have : S x = S l := by
      unfold eqF at h
      exact of_decide_eq_true h
    rw [← S_inj this]
    exact hx
  · intro h
    refine ⟨l, h, ?_⟩
    show eqF (.str (S l)) (.str (S l)) = true
    unfold eqF
    exact decide_eq_true rfl
def WB : List Bytes := WL.map bb
theorem wl_nb : WL = WB.map nb := by decide +kernel
theorem isWord_iff (b : Bytes) : SeamText.isWord b = true ↔ b ∈ WB := by
  have e : WB = [SeamNum.ascii "let", SeamNum.ascii "point", SeamNum.ascii "piece", SeamNum.ascii "seam", SeamText.GRAIN] ++ ([SeamText.wordOf 0, SeamText.wordOf 1, SeamText.wordOf 2, SeamText.wordOf 3] ++ [SeamText.wordOf 5, SeamText.wordOf 6, SeamText.wordOf 7, SeamText.wordOf 8, SeamText.wordOf 9, SeamText.wordOf 10]) := by decide +kernel
  have es : ∀ lo hi, (SeamText.fnOf lo hi b).isSome = (List.range hi).any fun f => decide (lo ≤ f) && SeamText.wordOf f == b := fun lo hi => by
    unfold SeamText.fnOf
    rw [Bool.eq_iff_iff, List.find?_isSome, List.any_eq_true]
  rw [e]
  unfold SeamText.isWord SeamText.ofSums SeamText.ofPlaces
  rw [es, es]
  have r4 : List.range 4 = [0, 1, 2, 3] := rfl
  have r11 : List.range 11 = [0, 1, 2, 3, 4, 5, 6, 7, 8, 9, 10] := rfl
  rw [r4, r11]
  simp only [List.any_cons, List.any_nil, List.contains_iff_mem, Bool.or_eq_true, Bool.and_eq_true, decide_eq_true_eq, beq_iff_eq, Bool.or_false, List.mem_append, List.mem_cons, List.not_mem_nil, or_false, Nat.reduceLeDiff, true_and, false_and, false_or, Nat.le_refl, Nat.zero_le]
  constructor
  · rintro (h | h)
    · exact .inl h
    · refine .inr ?_
      rcases h with (h | h | h | h) | (h | h | h | h | h | h) <;> simp [h]
  · rintro (h | h)
    · exact .inl h
    · refine .inr ?_
      rcases h with (h | h | h | h) | (h | h | h | h | h | h) <;> simp [h]
theorem isWord_nb (b : Bytes) : SeamText.isWord b = wordN (nb b) := by
  rw [Bool.eq_iff_iff, isWord_iff, wordN_iff, wl_nb]
  constructor
  · exact fun h => List.mem_map.mpr ⟨b, h, rfl⟩
  · intro h
    obtain ⟨c, hc, e⟩ := List.mem_map.mp h
    exact nb_inj e ▸ hc
/-! ### tokens -/
def tokOf (t : Tk) : SeamText.Tok := match t.fam with
  | .num => SeamText.numTok (bb (cutN 46 t.text).1) (bb ((cutN 46 t.text).2.getD []))
  | .sgn => .sign (UInt8.ofNat (t.text.headD 0))
  | _ => .name (bb t.text)
def tkP (t : Tk) : Nat × SeamText.Tok := (t.place, tokOf t)
/-- what tokens are -/
def TkG (t : Tk) : Prop := match t.fam with
  | .word => t.text ∈ WL
  | .name => t.text ∉ WL ∧ ∃ b : Bytes, t.text = nb b ∧ SeamText.nameFine b = true
  | .num => ∃ a d : Bytes, a ≠ [] ∧ a.length ≤ 18 ∧ d.length ≤ 18 ∧ (∀ c ∈ a, SeamPattern.isDigit c = true) ∧ (∀ c ∈ d, SeamPattern.isDigit c = true) ∧ t.text = if d = [] then nb a else nb a ++ 46 :: nb d
  | .sgn => ∃ c ∈ sgns, t.text = [c]
theorem tw_all {α : Type} {p : α → Bool} : ∀ {l : List α}, ∀ x ∈ l.takeWhile p, p x = true
  | [], x, h => absurd h (by simp)
  | a :: l, x, h => by
    cases e : p a with
    | true =>
      rw [List.takeWhile_cons_of_pos e] at h
      rcases List.mem_cons.mp h with rfl | h
      · exact e
      · exact tw_all x h
    | false =>
      rw [List.takeWhile_cons_of_neg (by rw [e]; decide)] at h
      cases h
theorem num_cut {a d : Bytes} (ha : ∀ c ∈ a, SeamPattern.isDigit c = true) : (cutN 46 (if d = [] then nb a else nb a ++ 46 :: nb d)).1 = nb a ∧ ((cutN 46 (if d = [] then nb a else nb a ++ 46 :: nb d)).2.getD []) = nb d := by
  have no : 46 ∉ nb a := fun h => by
    obtain ⟨c, hc, e⟩ := List.mem_map.mp h
    have := ha c hc
    rw [digit_eq, e] at this
    exact absurd this (by decide)
  by_cases h : d = []
  · subst h
    rw [if_pos rfl]
    have := cut_no (t := []) no
    rw [List.append_nil] at this
    rw [this]
    show nb a ++ [] = nb a ∧ _
    rw [List.append_nil]
    exact ⟨rfl, rfl⟩
  · rw [if_neg h, cut_no no]
    have e : cutN 46 (46 :: nb d) = ([], some (nb d)) := if_pos rfl
    rw [e]
    exact ⟨List.append_nil _, rfl⟩
theorem signs_eq (c : UInt8) : SeamText.signs.contains c = isSgn c.toNat := by
  have e : sgns = SeamText.signs.map UInt8.toNat := by decide +kernel
  unfold isSgn
  rw [e, List.contains_eq_mem]
  refine decide_eq_decide.mpr ⟨fun h => List.mem_map.mpr ⟨c, h, rfl⟩, fun h => ?_⟩
  obtain ⟨d, hd, q⟩ := List.mem_map.mp h
  exact UInt8.toNat_inj.mp q ▸ hd
theorem cut_while (l : List Nat) : (cutN 10 l).1 = l.takeWhile (fun c => c != 10) := by
  induction l with
  | nil => rfl
  | cons c r ih =>
    by_cases h : c = 10
    · subst h
      rw [List.takeWhile_cons_of_neg (by decide)]
      exact congrArg Prod.fst (if_pos rfl : cutN 10 (10 :: r) = ([], some r))
    · rw [List.takeWhile_cons_of_pos (by simpa using h), ← ih]
      exact congrArg Prod.fst (if_neg h : cutN 10 (c :: r) = (c :: (cutN 10 r).1, (cutN 10 r).2))
theorem tw10 (b : Bytes) : ((sgs b).takeWhile fun c => c != 10).length = (b.takeWhile fun c => c != 10).length := by
  induction b with
  | nil => rfl
  | cons c r ih =>
    have h10 : sg c.toNat = 10 ↔ c = 10 := @sg10 c 10 (by decide +kernel)
    show (List.takeWhile (fun c => c != 10) (sg c.toNat :: sgs r)).length = _
    by_cases h : c = 10
    · rw [List.takeWhile_cons_of_neg (by simp [h10.mpr h]), List.takeWhile_cons_of_neg (by simp [h])]
      rfl
    · rw [List.takeWhile_cons_of_pos (by simpa [h10] using h), List.takeWhile_cons_of_pos (by simpa using h), List.length_cons, List.length_cons, ih]
theorem drop_tw {α : Type} (p : α → Bool) (l : List α) : l.drop (l.takeWhile p).length = l.dropWhile p := by
  induction l with
  | nil => rfl
  | cons c r ih =>
    cases e : p c with
    | true => rw [List.takeWhile_cons_of_pos e, List.dropWhile_cons_of_pos e, List.length_cons, List.drop_succ_cons, ih]
    | false => rw [List.takeWhile_cons_of_neg (by simp [e]), List.dropWhile_cons_of_neg (by simp [e])]; rfl
theorem letter_goes {c : UInt8} (h : SeamText.isLetter c = true) : SeamText.goesOn c = true := by
  unfold SeamText.goesOn
  rw [h]
  rfl
theorem goes_al (c : UInt8) : SeamText.goesOn c = isAl c.toNat := by
  unfold SeamText.goesOn isAl
  rw [letter_eq, digit_eq]
  unfold isLet isDig
  rw [Bool.or_assoc]
theorem numAt_sg {c : UInt8} {r : Bytes} (hc : SeamPattern.isDigit c = true) : ∃ a d : Bytes, a ≠ [] ∧ a = (c :: r).takeWhile SeamPattern.isDigit ∧ d = (if ((c :: r).drop a.length).headD 0 = 46 then (((c :: r).drop a.length).drop 1).takeWhile SeamPattern.isDigit else []) ∧
    numAt (sgs (c :: r)) = (if d = [] then nb a else nb a ++ 46 :: nb d, decide (18 < a.length) || decide (18 < d.length)) := by
  refine ⟨_, _, ?_, rfl, rfl, ?_⟩
  · rw [List.takeWhile_cons_of_pos hc]
    exact fun z => nomatch z
  · have e1 : (sgs (c :: r)).takeWhile isDig = nb ((c :: r).takeWhile SeamPattern.isDigit) := tw_sg sg_dig digit_eq (c :: r)
    unfold numAt
    dsimp only
    rw [e1, nb_len]
    generalize (c :: r).takeWhile SeamPattern.isDigit = a
    rw [sgs_drop]
    generalize (c :: r).drop a.length = s
    have h46 : (sgs s).head? = some 46 ↔ s.headD 0 = 46 := by
      cases s with
      | nil => exact ⟨(fun z => nomatch z), fun z => absurd z (by decide)⟩
      | cons x t =>
        show some (sg x.toNat) = some 46 ↔ x = 46
        rw [Option.some_inj]
        exact @sg10 x 46 (by decide +kernel)
    by_cases h : s.headD 0 = 46
    · rw [if_pos (h46.mpr h), if_pos h, sgs_drop, tw_sg sg_dig digit_eq, nb_len]
      generalize (s.drop 1).takeWhile SeamPattern.isDigit = d
      refine Prod.ext ?_ rfl
      show (if nb d = [] then _ else _) = _
      by_cases hd : d = []
      · subst hd
        rfl
      · rw [if_neg hd, if_neg (show ¬ nb d = [] from fun z => hd (nb_inj (b := []) z))]
    · rw [if_neg (fun z => h (h46.mp z)), if_neg h, if_pos rfl, if_pos rfl]
      rfl
/-- the lexer is the specification's -/
theorem lex_eq : ∀ (f p : Nat) (b : Bytes), SeamText.lex f p b = ((lexN f p (sgs b)).1.map tkP, (lexN f p (sgs b)).2) ∧ ∀ t ∈ (lexN f p (sgs b)).1, TkG t
  | 0, _, _ => ⟨rfl, fun t h => absurd h (by simp [lexN])⟩
  | f + 1, p, [] => ⟨rfl, fun t h => absurd h (by simp [sgs, nb, lexN])⟩
  | f + 1, p, c :: r => by
    have es : sgs (c :: r) = sg c.toNat :: sgs r := rfl
    have h35 : sg c.toNat = 35 ↔ c = 35 := @sg10 c 35 (by decide +kernel)
    have h32 : sg c.toNat = 32 ↔ c = 32 := @sg10 c 32 (by decide +kernel)
    have h10 : sg c.toNat = 10 ↔ c = 10 := @sg10 c 10 (by decide +kernel)
    unfold SeamText.lex
    rw [es]
    unfold lexN
    by_cases c35 : c = 35
    · rw [if_neg (by rw [c35]; decide), if_pos c35, if_pos (h35.mpr c35)]
      have e1 : (cutN 10 (sg c.toNat :: sgs r)).1.length = 1 + (r.takeWhile fun d => d != 10).length := by
        rw [cut_while, List.takeWhile_cons_of_pos (by rw [h35.mpr c35]; decide), List.length_cons, tw10]
        omega
      rw [e1]
      have e2 : (sg c.toNat :: sgs r).drop (1 + (r.takeWhile fun d => d != 10).length) = sgs (r.dropWhile fun d => d != 10) := by
        rw [Nat.add_comm, List.drop_succ_cons, sgs_drop, drop_tw]
      rw [e2]
      have e3 : r.length - (r.dropWhile fun d => d != 10).length = (r.takeWhile fun d => d != 10).length := by
        have := congrArg List.length (List.takeWhile_append_dropWhile (p := fun d : UInt8 => d != 10) (l := r))
        rw [List.length_append] at this
        omega
      dsimp only
      rw [e3, show p + 1 + (r.takeWhile fun d => d != 10).length = p + (1 + (r.takeWhile fun d => d != 10).length) by omega]
      exact lex_eq f _ _
    · rw [if_neg (fun z => c35 (h35.mp z))]
      by_cases cb : c = 32 ∨ c = 10
      · rw [if_pos cb, if_pos (cb.elim (fun z => .inl (h32.mpr z)) fun z => .inr (h10.mpr z))]
        exact lex_eq f _ _
      · rw [if_neg cb, if_neg c35, if_neg (show ¬ (sg c.toNat = 32 ∨ sg c.toNat = 10) from fun z => cb (z.elim (fun z => .inl (h32.mp z)) fun z => .inr (h10.mp z)))]
        unfold tokAt
        dsimp only
        rw [(let_sg _).1, ← letter_eq, (sg_dig _).1, ← digit_eq, (sgn_sg _).1, ← signs_eq]
        by_cases hl : SeamText.isLetter c = true
        · rw [if_pos hl, if_pos hl]
          have e1 : (sg c.toNat :: sgs r).takeWhile isAl = nb ((c :: r).takeWhile SeamText.goesOn) := tw_sg al_sg goes_al (c :: r)
          have hf : ((c :: r).takeWhile SeamText.goesOn).headD 0 = c ∧ 1 ≤ ((c :: r).takeWhile SeamText.goesOn).length := by
            rw [List.takeWhile_cons_of_pos (letter_goes hl)]
            exact ⟨rfl, Nat.succ_le_succ (Nat.zero_le _)⟩
          have hall := fun x => tw_all (p := SeamText.goesOn) (l := c :: r) x
          rw [e1, nb_len]
          generalize (c :: r).takeWhile SeamText.goesOn = b at hf hall
          by_cases h16 : 16 < b.length
          · rw [if_pos (show SeamPattern.NAME < b.length from h16), if_pos h16]
            exact ⟨rfl, fun t h => absurd h (by simp)⟩
          · rw [if_neg (show ¬ SeamPattern.NAME < b.length from h16), if_neg h16]
            dsimp only
            rw [nb_len]
            have e2 : (sg c.toNat :: sgs r).drop b.length = sgs ((c :: r).drop b.length) := sgs_drop _ (c :: r)
            rw [e2]
            obtain ⟨i1, i2⟩ := lex_eq f (p + b.length) ((c :: r).drop b.length)
            rw [i1]
            refine ⟨?_, fun t ht => ?_⟩
            · rw [List.map_cons]
              refine Prod.ext (congrArg (· :: _) ?_) rfl
              cases wordN (nb b) <;> exact Prod.ext rfl (congrArg SeamText.Tok.name (bb_nb b).symm)
            · rcases List.mem_cons.mp ht with rfl | ht
              · cases e : wordN (nb b) with
                | true =>
                  show TkG ⟨if true = true then .word else .name, nb b, p⟩
                  rw [if_pos rfl]
                  exact (wordN_iff _).mp e
                | false =>
                  show TkG ⟨if false = true then .word else .name, nb b, p⟩
                  rw [if_neg Bool.false_ne_true]
                  have nw : nb b ∉ WL := fun z => by
                    rw [(wordN_iff _).mpr z] at e
                    cases e
                  refine ⟨nw, b, rfl, ?_⟩
                  unfold SeamText.nameFine
                  rw [isWord_nb, e, hf.1, hl, decide_eq_true hf.2, decide_eq_true (show b.length ≤ SeamPattern.NAME from by show b.length ≤ 16; omega), List.all_eq_true.mpr hall]
                  rfl
              · exact i2 t ht
        · rw [if_neg hl, if_neg hl]
          by_cases hd : SeamPattern.isDigit c = true
          · rw [if_pos hd, if_pos hd]
            obtain ⟨a, d, ha0, ha, hd2, e1⟩ := numAt_sg (r := r) hd
            rw [← es, e1]
            have haa : ∀ x ∈ a, SeamPattern.isDigit x = true := fun x hx => tw_all (l := c :: r) x (ha ▸ hx)
            have hdd : ∀ x ∈ d, SeamPattern.isDigit x = true := fun x hx => by
              rw [hd2] at hx
              split at hx
              · exact tw_all x hx
              · cases hx
            rw [← ha]
            dsimp only
            rw [← hd2]
            by_cases h18 : 18 < a.length ∨ 18 < d.length
            · rw [if_pos (show SeamText.DIGITS < a.length ∨ SeamText.DIGITS < d.length from h18), if_pos (by simpa using h18)]
              exact ⟨rfl, fun t h => absurd h (by simp)⟩
            · rw [if_neg (show ¬ (SeamText.DIGITS < a.length ∨ SeamText.DIGITS < d.length) from h18), if_neg (show ¬ ((decide (18 < a.length) || decide (18 < d.length)) = true) from fun z => h18 (by simpa using z))]
              obtain ⟨n1, n2⟩ := num_cut (d := d) haa
              have htk : ∀ q, tkP ⟨.num, (if d = [] then nb a else nb a ++ 46 :: nb d), q⟩ = (q, SeamText.numTok a d) := fun q => by
                refine Prod.ext rfl ?_
                show SeamText.numTok (bb (cutN 46 _).1) (bb ((cutN 46 _).2.getD [])) = _
                rw [n1, n2, bb_nb, bb_nb]
              have hg : ∀ q, TkG ⟨.num, (if d = [] then nb a else nb a ++ 46 :: nb d), q⟩ := fun q => ⟨a, d, ha0, by omega, by omega, haa, hdd, rfl⟩
              by_cases h0 : d = []
              · rw [if_pos h0]
                dsimp only
                have hln : (if d = [] then nb a else nb a ++ 46 :: nb d).length = a.length := by rw [if_pos h0, nb_len]
                rw [hln, sgs_drop]
                obtain ⟨i1, i2⟩ := lex_eq f (p + a.length) ((c :: r).drop a.length)
                rw [i1]
                refine ⟨?_, fun t ht => ?_⟩
                · rw [List.map_cons, htk, h0]
                · rcases List.mem_cons.mp ht with rfl | ht
                  · exact hg p
                  · exact i2 t ht
              · rw [if_neg h0]
                dsimp only
                have hln : (if d = [] then nb a else nb a ++ 46 :: nb d).length = a.length + 1 + d.length := by
                  rw [if_neg h0, List.length_append, List.length_cons, nb_len, nb_len]
                  omega
                rw [hln, sgs_drop, List.drop_drop]
                obtain ⟨i1, i2⟩ := lex_eq f (p + (a.length + 1 + d.length)) ((c :: r).drop (a.length + 1 + d.length))
                rw [show p + a.length + 1 + d.length = p + (a.length + 1 + d.length) by omega, show a.length + (1 + d.length) = a.length + 1 + d.length by omega, i1]
                refine ⟨?_, fun t ht => ?_⟩
                · rw [List.map_cons, htk]
                · rcases List.mem_cons.mp ht with rfl | ht
                  · exact hg p
                  · exact i2 t ht
          · rw [if_neg hd, if_neg hd]
            by_cases hs : SeamText.signs.contains c = true
            · rw [if_pos hs, if_pos hs]
              have e0 : sg c.toNat = c.toNat := (sgn_sg _).2 (by rw [← signs_eq]; exact hs)
              obtain ⟨i1, i2⟩ := lex_eq f (p + 1) r
              dsimp only
              show (let z := SeamText.lex f (p + 1) r; ((p, SeamText.Tok.sign c) :: z.1, z.2)) = _ ∧ _
              rw [i1]
              refine ⟨?_, fun t ht => ?_⟩
              · rw [List.map_cons]
                refine Prod.ext (congrArg (· :: _) (Prod.ext rfl ?_)) rfl
                show SeamText.Tok.sign c = .sign (UInt8.ofNat (sg c.toNat))
                rw [e0, UInt8.ofNat_toNat]
              · rcases List.mem_cons.mp ht with rfl | ht
                · refine ⟨c.toNat, ?_, by rw [e0]⟩
                  have := (signs_eq c).symm.trans hs
                  exact of_decide_eq_true this
                · exact i2 t ht
            · rw [if_neg hs, if_neg hs]
              exact ⟨rfl, fun t h => absurd h (by simp)⟩
  termination_by f => f
end Sd

set_option Elab.async false
set_option linter.all false
set_option maxRecDepth 100000
set_option maxHeartbeats 4000000
set_option exponentiation.threshold 10000
namespace Sd
open PySem PySem.Spec PyProof.Rows L2
open SeamText (E Got Toks St)
/-! # The parser's law -/
abbrev tks (ts : List Tk) : Toks := ts.map tkP
def Good (ts : List Tk) : Prop := ∀ t ∈ ts, TkG t
theorem Good.sfx {ts us : List Tk} (h : Good ts) (s : us <:+ ts) : Good us := fun t ht => h t (s.subset ht)
theorem Good.tail {t : Tk} {ts : List Tk} (h : Good (t :: ts)) : Good ts := fun u hu => h u (List.mem_cons_of_mem _ hu)
theorem Good.head {t : Tk} {ts : List Tk} (h : Good (t :: ts)) : TkG t := h t List.mem_cons_self
/-- a parser against the specification's; the second: at the text's end the specification may have gone on -/
def RelS {α β : Type} (cv : α → β) : Pr α → Got β → Prop
  | .ok a us, g => g = .ok (cv a, tks us)
  | .bad ts, g => g = SeamText.wrong (tks ts)
def Rel {α β : Type} (cv : α → β) : Pr α → Got β → Prop
  | .ok a us, g => g = .ok (cv a, tks us)
  | .bad [], g => g = .error none ∨ ∃ x, g = .ok (x, [])
  | .bad (t :: _), g => g = .error (some t.place)
theorem RelS.rel {α β : Type} {cv : α → β} {p : Pr α} {g : Got β} (h : RelS cv p g) : Rel cv p g := by
  cases p with
  | ok a us => exact h
  | bad ts =>
    cases ts with
    | nil => exact .inl h
    | cons t r => exact h
/-- at the text's end -/
def AtEnd {β : Type} (g : Got β) : Prop := g = .error none ∨ ∃ x, g = .ok (x, [])
theorem rel_next {α β γ δ : Type} {cv : α → β} {cv' : γ → δ} {p : Pr α} {g : Got β} {k : α → List Tk → Pr γ} {k' : β × Toks → Got δ} (h : Rel cv p g) (hk : ∀ a us, p = .ok a us → Rel cv' (k a us) (k' (cv a, tks us))) (he : ∀ x, AtEnd (k' (x, []))) : Rel cv' (p.bind k) (SeamNum.next g k') := by
  cases p with
  | ok a us =>
    have h : g = _ := h
    subst h
    exact hk a us rfl
  | bad ts =>
    cases ts with
    | nil =>
      rcases h with h | ⟨x, h⟩
      · subst h
        exact .inl rfl
      · subst h
        exact he x
    | cons t r =>
      have h : g = _ := h
      subst h
      rfl
theorem relS_next {α β γ δ : Type} {cv : α → β} {cv' : γ → δ} {p : Pr α} {g : Got β} {k : α → List Tk → Pr γ} {k' : β × Toks → Got δ} (h : Rel cv p g) (hk : ∀ a us, p = .ok a us → RelS cv' (k a us) (k' (cv a, tks us))) (he : ∀ x, k' (x, []) = .error none) : RelS cv' (p.bind k) (SeamNum.next g k') := by
  cases p with
  | ok a us =>
    have h : g = _ := h
    subst h
    exact hk a us rfl
  | bad ts =>
    cases ts with
    | nil =>
      rcases h with h | ⟨x, h⟩
      · subst h
        rfl
      · subst h
        exact he x
    | cons t r =>
      have h : g = _ := h
      subst h
      rfl
theorem relS_then {α β γ δ : Type} {cv : α → β} {cv' : γ → δ} {p : Pr α} {g : Got β} {k : α → List Tk → Pr γ} {k' : β × Toks → Got δ} (h : RelS cv p g) (hk : ∀ a us, p = .ok a us → RelS cv' (k a us) (k' (cv a, tks us))) : RelS cv' (p.bind k) (SeamNum.next g k') := by
  cases p with
  | ok a us =>
    have h : g = _ := h
    subst h
    exact hk a us rfl
  | bad ts =>
    have h : g = _ := h
    subst h
    cases ts <;> rfl
theorem rel_then {α β γ δ : Type} {cv : α → β} {cv' : γ → δ} {p : Pr α} {g : Got β} {k : α → List Tk → Pr γ} {k' : β × Toks → Got δ} (h : RelS cv p g) (hk : ∀ a us, p = .ok a us → Rel cv' (k a us) (k' (cv a, tks us))) : Rel cv' (p.bind k) (SeamNum.next g k') := by
  cases p with
  | ok a us =>
    have h : g = _ := h
    subst h
    exact hk a us rfl
  | bad ts =>
    have h : g = _ := h
    subst h
    cases ts with
    | nil => exact .inl rfl
    | cons t r => rfl
theorem bind_assoc {α β γ : Type} (p : Pr α) (f : α → List Tk → Pr β) (g : β → List Tk → Pr γ) : (p.bind f).bind g = p.bind fun a us => (f a us).bind g := by
  cases p <;> rfl
/-! ### single tokens -/
theorem wl_alpha : ∀ l ∈ WL, ∀ c ∈ sgns, l ≠ [c] := by decide +kernel
theorem says_sign {t : Tk} (h : TkG t) {c : Nat} (hc : c ∈ sgns) : saysN t (S [c]) = true ↔ tokOf t = .sign (UInt8.ofNat c) := by
  obtain ⟨fam, text, place⟩ := t
  have small : ∀ c ∈ sgns, c < 256 := by decide
  cases fam with
  | word =>
    have h : text ∈ WL := h
    refine ⟨fun z => ?_, (fun z => nomatch z)⟩
    unfold saysN at z
    rw [Bool.and_eq_true, decide_eq_true_eq, decide_eq_true_eq] at z
    exact absurd (S_inj z.2) (wl_alpha _ h c hc)
  | name =>
    refine ⟨fun z => ?_, (fun z => nomatch z)⟩
    unfold saysN at z
    rw [Bool.and_eq_true, decide_eq_true_eq] at z
    rcases z.1 with z | z <;> cases z
  | num =>
    refine ⟨fun z => ?_, (fun z => nomatch z)⟩
    unfold saysN at z
    rw [Bool.and_eq_true, decide_eq_true_eq] at z
    rcases z.1 with z | z <;> cases z
  | sgn =>
    obtain ⟨d, hd, e⟩ := (h : ∃ c ∈ sgns, text = [c])
    subst e
    unfold saysN tokOf
    rw [Bool.and_eq_true, decide_eq_true_eq, decide_eq_true_eq]
    refine ⟨fun z => ?_, fun z => ⟨.inr rfl, ?_⟩⟩
    · have := S_inj z.2
      cases this
      rfl
    · injection z with z
      have z := congrArg UInt8.toNat z
      have z : (UInt8.ofNat d).toNat = (UInt8.ofNat c).toNat := z
      rw [UInt8.toNat_ofNat', UInt8.toNat_ofNat', Nat.mod_eq_of_lt (small d hd), Nat.mod_eq_of_lt (small c hc)] at z
      rw [z]
theorem says_no {t : Tk} (h : TkG t) {c : Nat} (hc : c ∈ sgns) : saysN t (S [c]) = false ↔ tokOf t ≠ .sign (UInt8.ofNat c) := by
  rw [← Bool.not_eq_true, says_sign h hc]
theorem sign_eq {t : Tk} {r : List Tk} (h : TkG t) {c : Nat} (hc : c ∈ sgns) : SeamText.sign (UInt8.ofNat c) (tks (t :: r)) = if saysN t (S [c]) = true then .ok ((), tks r) else .error (some t.place) := by
  show SeamText.sign (UInt8.ofNat c) ((t.place, tokOf t) :: tks r) = _
  by_cases e : saysN t (S [c]) = true
  · rw [if_pos e, (says_sign h hc).mp e]
    exact if_pos rfl
  · rw [if_neg e]
    have ne : tokOf t ≠ .sign (UInt8.ofNat c) := fun z => e ((says_sign h hc).mpr z)
    unfold SeamText.sign
    split
    · rename_i d r' e2
      injection e2 with e3 e4
      injection e3 with e5 e6
      rw [if_neg (fun z => ne (by rw [e6, z]))]
      rfl
    · rfl
theorem need_sign {ts : List Tk} (h : Good ts) {c : Nat} {x : Str} (hx : x = S [c]) (hc : c ∈ sgns) : RelS (fun _ => ()) (needM x ts) (SeamText.sign (UInt8.ofNat c) (tks ts)) := by
  subst hx
  cases ts with
  | nil => rfl
  | cons t r =>
    rw [sign_eq h.head hc]
    unfold needM
    dsimp only
    by_cases e : saysN t (S [c]) = true
    · rw [if_pos e, if_pos e]
      rfl
    · rw [if_neg e, if_neg e]
      rfl
theorem name_rel {ts : List Tk} (h : Good ts) : RelS bb (nameM ts) (SeamText.ownName (tks ts)) := by
  cases ts with
  | nil => rfl
  | cons t r =>
    obtain ⟨fam, text, place⟩ := t
    have hg := h.head
    unfold nameM
    dsimp only
    cases fam with
    | word =>
      have hg : text ∈ WL := hg
      rw [if_neg (by decide)]
      show SeamText.ownName ((place, .name (bb text)) :: tks r) = _
      unfold SeamText.ownName
      have : SeamText.isWord (bb text) = true := (isWord_iff _).mpr (List.mem_map.mpr ⟨text, hg, rfl⟩)
      dsimp only
      rw [if_pos this]
      rfl
    | name =>
      obtain ⟨nw, b, e, _⟩ := (hg : text ∉ WL ∧ ∃ b : Bytes, text = nb b ∧ SeamText.nameFine b = true)
      subst e
      rw [if_pos rfl]
      show SeamText.ownName ((place, .name (bb (nb b))) :: tks r) = _
      have : ¬ SeamText.isWord b = true := fun z => nw ((wordN_iff _).mp (by rw [← isWord_nb]; exact z))
      unfold SeamText.ownName
      dsimp only
      rw [bb_nb, if_neg this]
    | num =>
      rw [if_neg (by decide)]
      rfl
    | sgn =>
      rw [if_neg (by decide)]
      rfl
/-! ### nodes -/
def nE : Nd → E
  | .num b => tokE (SeamText.numTok (bb (cutN 46 b).1) (bb ((cutN 46 b).2.getD [])))
  | .name b => .name (bb b)
  | .neg a => .neg (nE a)
  | .op c _ a b => .op (UInt8.ofNat c) (nE a) (nE b)
  | .call1 f a => .call1 f (nE a)
  | .call2 f a b => .call2 f (nE a) (nE b)
  | .call3 f a b c => .call3 f (nE a) (nE b) (nE c)
  | .call4 f a b c d => .call4 f (nE a) (nE b) (nE c) (nE d)
where tokE : SeamText.Tok → E
  | .num n k => .num n k
  | _ => .num 0 0
theorem called_E (f : Nat) (l : List Nd) : nE (callN f l) = SeamText.called f (l.map nE) := by
  match l with
  | [] => rfl
  | [a] => rfl
  | [a, b] => rfl
  | [a, b, c] => rfl
  | [a, b, c, d] => rfl
  | a :: b :: c :: d :: e :: r => rfl
/-- a function's word -/
def sumC (l : List Nat) : Bool := match SUMT.lookup (S l), SeamText.ofSums (bb l) with
  | none, none => true
  | some k, some g => g == fnNo (S l) && (SeamText.takesOf g == k.cps.toList.map (fun c => decide (c = 80)) && !k.cps.toList.isEmpty)
  | _, _ => false
def plC (l : List Nat) : Bool := match PLT.lookup (S l), SeamText.ofPlaces (bb l) with
  | none, none => true
  | some k, some g => g == fnNo (S l) && (SeamText.takesOf g == k.cps.toList.map (fun c => decide (c = 80)) && !k.cps.toList.isEmpty)
  | _, _ => false
theorem sum_words : ∀ l ∈ WL, sumC l = true := by decide +kernel
theorem pl_words : ∀ l ∈ WL, plC l = true := by decide +kernel
theorem sum_signs : ∀ c ∈ sgns, SUMT.lookup (S [c]) = none := by decide +kernel
theorem pl_signs : ∀ c ∈ sgns, PLT.lookup (S [c]) = none := by decide +kernel
theorem own_none {b : Bytes} (h : ¬ SeamText.isWord b = true) : SeamText.ofSums b = none ∧ SeamText.ofPlaces b = none := by
  unfold SeamText.isWord at h
  rw [Bool.or_eq_true, Bool.or_eq_true] at h
  constructor
  · cases e : SeamText.ofSums b with
    | none => rfl
    | some g => exact absurd (.inr (.inl (by rw [e]; rfl))) h
  · cases e : SeamText.ofPlaces b with
    | none => rfl
    | some g => exact absurd (.inr (.inr (by rw [e]; rfl))) h
/-! ### the simulation -/
abbrev rdS (f d : Nat) (g : SeamText.Goal) (ts : List Tk) : Got E := SeamText.read f d g (tks ts)
def partsP (lv : Lv) (ks : List Nat) (acc : List Nd) (g : Nat) (ts : List Tk) : Pr Nd := (partsL lv true ks acc ts).bind fun l us => (needM ")" us).bind fun _ us => .ok (callN g l) us
structure Sim (f n : Nat) : Prop where
  fac : ∀ ts, Good ts → 8 * ts.length + 1 ≤ f → Rel nE ((lvl (n + 1)).fac ts) (rdS f (6 - n) .factor ts)
  prod : ∀ ts, Good ts → 8 * ts.length + 2 ≤ f → Rel nE (prodM (lvl (n + 1)).fac ts) (rdS f (6 - n) .product ts)
  sum : ∀ ts, Good ts → 8 * ts.length + 3 ≤ f → Rel nE ((lvl (n + 1)).sum ts) (rdS f (6 - n) .sum ts)
  pl : ∀ ts, Good ts → 8 * ts.length + 1 ≤ f → Rel nE ((lvl (n + 1)).pl ts) (rdS f (6 - n) .place ts)
  pm : ∀ g a j ts, ts.length < g → Good ts → 8 * ts.length + 1 ≤ f → Rel nE (rowM "*" "/" (lvl (n + 1)).fac g a j ts) (rdS f (6 - n) (.productMore (nE a)) ts)
  sm : ∀ g a j ts, ts.length < g → Good ts → 8 * ts.length + 1 ≤ f → Rel nE (rowM "+" "-" (prodM (lvl (n + 1)).fac) g a j ts) (rdS f (6 - n) (.sumMore (nE a)) ts)
  parts : ∀ ks acc g ts, ks ≠ [] → Good ts → 8 * ts.length + 4 ≤ f → Rel nE (partsP (lvl (n + 1)) ks acc g ts) (rdS f (6 - n) (.parts g (acc.map nE) (ks.map fun c => decide (c = 80))) ts)
theorem bind_ok {α β : Type} {p : Pr α} {k : α → List Tk → Pr β} {b : β} {vs : List Tk} (h : p.bind k = .ok b vs) : ∃ a us, p = .ok a us ∧ k a us = .ok b vs := by
  cases p with
  | ok a us => exact ⟨a, us, rfl, h⟩
  | bad us => cases h
theorem parts_P {lv : Lv} {ks : List Nat} {g : Nat} {t : Tk} {r : List Tk} : ((partsM true lv ks (t :: r)).bind fun l us => .ok (callN g l) us) = (needM "(" r).bind fun _ us => partsP lv ks [] g us := by
  show (((needM "(" r).bind fun _ us => (partsL lv true ks [] us).bind fun l us => (needM ")" us).bind fun _ us => .ok l us).bind _) = _
  rw [bind_assoc]
  congr 1
  funext _ us
  rw [bind_assoc]
  unfold partsP
  congr 1
  funext l us
  rw [bind_assoc]
  rfl
theorem pair_P {lv : Lv} {t : Tk} {r : List Tk} : pairM true lv (t :: r) = partsP lv [83, 83] [] 4 r := by
  show ((lv.sum r).bind fun a us => (needM "," us).bind fun _ us => (lv.sum us).bind fun b us => (needM ")" us).bind fun _ us => .ok (.call2 4 a b) us) = (((lv.sum r).bind fun a us => ((needM "," us).bind fun _ us => ((lv.sum us).bind fun b us => .ok [a, b] us))).bind fun l us => (needM ")" us).bind fun _ us => .ok (callN 4 l) us)
  rw [bind_assoc]
  congr 1
  funext a us
  rw [bind_assoc]
  congr 1
  funext _ us
  rw [bind_assoc]
  rfl
theorem partsL_false {lv : Lv} {k : Nat} {ks : List Nat} {acc : List Nd} {ts : List Tk} : partsL lv false (k :: ks) acc ts = (needM "," ts).bind fun _ us => partsL lv true (k :: ks) acc us := rfl
theorem partsP_cons {lv : Lv} {k k2 : Nat} {ks : List Nat} {acc : List Nd} {g : Nat} {ts : List Tk} : partsP lv (k :: k2 :: ks) acc g ts = (if k = 80 then lv.pl ts else lv.sum ts).bind fun a us => (needM "," us).bind fun _ us => partsP lv (k2 :: ks) (acc ++ [a]) g us := by
  show (((if k = 80 then lv.pl ts else lv.sum ts).bind fun a us => partsL lv false (k2 :: ks) (acc ++ [a]) us).bind _) = _
  rw [bind_assoc]
  congr 1
  funext a us
  rw [partsL_false, bind_assoc]
  rfl
theorem partsP_one {lv : Lv} {k : Nat} {acc : List Nd} {g : Nat} {ts : List Tk} : partsP lv [k] acc g ts = (if k = 80 then lv.pl ts else lv.sum ts).bind fun a us => (needM ")" us).bind fun _ us => .ok (callN g (acc ++ [a])) us := by
  show (((if k = 80 then lv.pl ts else lv.sum ts).bind fun a us => .ok (acc ++ [a]) us).bind _) = _
  rw [bind_assoc]
  rfl
/-! what is read is gone by -/
theorem tail_lt {α : Type} {p : Pr α} {r : List Tk} {a : α} {us : List Tk} {n : Nat} (e : p = .ok a us) (hn : r.length < n) (h : p.rest <:+ r) : us.length < n := by
  subst e
  exact Nat.lt_of_le_of_lt h.length_le hn
theorem fac_lt {go : Bool} {lv : Lv} (L : LvS lv) {ts us : List Tk} {a : Nd} (h : facM go lv ts = .ok a us) : us.length < ts.length := by
  cases ts with
  | nil => cases h
  | cons t r =>
    have hr : r.length < (t :: r).length := Nat.lt_succ_self _
    unfold facM at h
    dsimp only at h
    split at h
    · cases h; exact hr
    · split at h
      · cases h; exact hr
      · cases go with
        | false =>
          split at h
          · cases h
          · split at h
            · cases h
            · split at h
              · cases h
              · cases h
        | true =>
          split at h
          · replace h : (lv.fac r).bind (fun a us => .ok (Nd.neg a) us) = .ok a us := h
            exact tail_lt h hr (rest_bind (L.fac r) fun _ us _ => List.suffix_refl us)
          · split at h
            · replace h : (lv.sum r).bind (fun a us => (needM ")" us).bind fun _ us => .ok a us) = .ok a us := h
              exact tail_lt h hr (rest_bind (L.sum r) fun _ us _ => rest_bind (sfx_need _ us) fun _ us _ => List.suffix_refl us)
            · split at h
              · cases h
              · rw [parts_P] at h
                exact tail_lt h hr (rest_bind (sfx_need _ r) fun _ us _ => rest_bind (sfx_partsL L _ true [] us) fun _ us _ => rest_bind (sfx_need _ us) fun _ us _ => List.suffix_refl us)
theorem pl_lt {go : Bool} {lv : Lv} (L : LvS lv) {ts us : List Tk} {a : Nd} (h : plM go lv ts = .ok a us) : us.length < ts.length := by
  cases ts with
  | nil => cases h
  | cons t r =>
    have hr : r.length < (t :: r).length := Nat.lt_succ_self _
    unfold plM at h
    dsimp only at h
    split at h
    · cases h; exact hr
    · cases go with
      | false =>
        split at h
        · cases h
        · split at h
          · cases h
          · cases h
      | true =>
        split at h
        · rw [pair_P] at h
          exact tail_lt h hr (rest_bind (sfx_partsL L _ true [] r) fun _ us _ => rest_bind (sfx_need _ us) fun _ us _ => List.suffix_refl us)
        · split at h
          · cases h
          · rw [parts_P] at h
            exact tail_lt h hr (rest_bind (sfx_need _ r) fun _ us _ => rest_bind (sfx_partsL L _ true [] us) fun _ us _ => rest_bind (sfx_need _ us) fun _ us _ => List.suffix_refl us)
theorem prod_lt {it : List Tk → Pr Nd} (hs : Sfx it) (hl : ∀ ts a us, it ts = .ok a us → us.length < ts.length) {ts us : List Tk} {a : Nd} (h : prodM it ts = .ok a us) : us.length < ts.length := by
  unfold prodM at h
  obtain ⟨b, vs, e1, e2⟩ := bind_ok h
  exact tail_lt e2 (hl _ _ _ e1) (sfx_row hs _ _ _ vs)
theorem sum_lt {it : List Tk → Pr Nd} (hs : Sfx it) (hl : ∀ ts a us, it ts = .ok a us → us.length < ts.length) {ts us : List Tk} {a : Nd} (h : sumM it ts = .ok a us) : us.length < ts.length := by
  unfold sumM at h
  obtain ⟨b, vs, e1, e2⟩ := bind_ok h
  exact tail_lt e2 (hl _ _ _ e1) (sfx_row hs _ _ _ vs)
theorem lf (n : Nat) : ∀ ts a us, (lvl (n + 1)).fac ts = .ok a us → us.length < ts.length := fun _ _ _ h => fac_lt (lvS n) h
theorem lp (n : Nat) : ∀ ts a us, prodM (lvl (n + 1)).fac ts = .ok a us → us.length < ts.length := fun _ _ _ h => prod_lt (lvS (n + 1)).fac (lf n) h
theorem lsu (n : Nat) : ∀ ts a us, (lvl (n + 1)).sum ts = .ok a us → us.length < ts.length := fun _ _ _ h => sum_lt (sfx_prod (lvS (n + 1)).fac) (lp n) h
theorem lpl (n : Nat) : ∀ ts a us, (lvl (n + 1)).pl ts = .ok a us → us.length < ts.length := fun _ _ _ h => pl_lt (lvS n) h
theorem Good.of {α : Type} {p : List Tk → Pr α} (h : Sfx p) {ts us : List Tk} {a : α} (g : Good ts) (e : p ts = .ok a us) : Good us := g.sfx (h.at e)
end Sd

set_option Elab.async false
set_option linter.all false
set_option maxRecDepth 100000
set_option maxHeartbeats 4000000
set_option exponentiation.threshold 10000
namespace Sd
open PySem PySem.Spec PyProof.Rows L2
open SeamText (E Got Toks St)
section
variable {f d p : Nat} {r : Toks} {b : Bytes} {c : UInt8} {a : E}
theorem rf_num {n k : Nat} : SeamText.read (f + 1) d .factor ((p, .num n k) :: r) = .ok (.num n k, r) := by rw [SeamText.read]
theorem rf_name : SeamText.read (f + 1) d .factor ((p, .name b) :: r) = (match SeamText.ofSums b with
    | some g => if SeamText.DEEP ≤ d then SeamText.wrong ((p, .name b) :: r) else SeamNum.next (SeamText.sign 40 r) fun (x : Unit × Toks) => SeamText.read f (d + 1) (.parts g [] (SeamText.takesOf g)) x.2
    | none => if SeamText.isWord b = true then SeamText.wrong ((p, .name b) :: r) else .ok (.name b, r)) := by rw [SeamText.read]; cases SeamText.ofSums b <;> rfl
theorem rf_sign : SeamText.read (f + 1) d .factor ((p, .sign c) :: r) = (if c = 45 then (if SeamText.DEEP ≤ d then SeamText.wrong ((p, .sign c) :: r) else SeamNum.next (SeamText.read f (d + 1) .factor r) fun (a : E × Toks) => .ok (.neg a.1, a.2))
      else if c = 40 then (if SeamText.DEEP ≤ d then SeamText.wrong ((p, .sign c) :: r) else SeamNum.next (SeamText.read f (d + 1) .sum r) fun (a : E × Toks) => SeamNum.next (SeamText.sign 41 a.2) fun (x : Unit × Toks) => .ok (a.1, x.2))
      else SeamText.wrong ((p, .sign c) :: r)) := by rw [SeamText.read]
theorem rf_nil : SeamText.read (f + 1) d .factor [] = .error none := by rw [SeamText.read]; rfl
theorem rp_name : SeamText.read (f + 1) d .place ((p, .name b) :: r) = (match SeamText.ofPlaces b with
    | some g => if SeamText.DEEP ≤ d then SeamText.wrong ((p, .name b) :: r) else SeamNum.next (SeamText.sign 40 r) fun (x : Unit × Toks) => SeamText.read f (d + 1) (.parts g [] (SeamText.takesOf g)) x.2
    | none => if SeamText.isWord b = true then SeamText.wrong ((p, .name b) :: r) else .ok (.name b, r)) := by rw [SeamText.read]; cases SeamText.ofPlaces b <;> rfl
theorem rp_sign : SeamText.read (f + 1) d .place ((p, .sign c) :: r) = if c = 40 ∧ d < SeamText.DEEP then SeamText.read f (d + 1) (.parts 4 [] (SeamText.takesOf 4)) r else SeamText.wrong ((p, .sign c) :: r) := by rw [SeamText.read]
theorem rp_num {n k : Nat} : SeamText.read (f + 1) d .place ((p, .num n k) :: r) = SeamText.wrong ((p, .num n k) :: r) := by rw [SeamText.read] <;> (intros; simp_all)
theorem rp_nil : SeamText.read (f + 1) d .place [] = .error none := by
  rw [SeamText.read] <;> first | rfl | (intros; simp_all)
theorem rs {t : Toks} : SeamText.read (f + 1) d .sum t = SeamNum.next (SeamText.read f d .product t) fun (a : E × Toks) => SeamText.read f d (.sumMore a.1) a.2 := by rw [SeamText.read]
theorem rpd {t : Toks} : SeamText.read (f + 1) d .product t = SeamNum.next (SeamText.read f d .factor t) fun (a : E × Toks) => SeamText.read f d (.productMore a.1) a.2 := by rw [SeamText.read]
theorem rsm : SeamText.read (f + 1) d (.sumMore a) ((p, .sign c) :: r) = if c = 43 ∨ c = 45 then SeamNum.next (SeamText.read f d .product r) fun (b : E × Toks) => SeamText.read f d (.sumMore (.op c a b.1)) b.2 else .ok (a, (p, .sign c) :: r) := by rw [SeamText.read]
theorem rpm : SeamText.read (f + 1) d (.productMore a) ((p, .sign c) :: r) = if c = 42 ∨ c = 47 then SeamNum.next (SeamText.read f d .factor r) fun (b : E × Toks) => SeamText.read f d (.productMore (.op c a b.1)) b.2 else .ok (a, (p, .sign c) :: r) := by rw [SeamText.read]
theorem rsm_no {t : Toks} (h : ∀ q c s, t ≠ (q, .sign c) :: s) : SeamText.read (f + 1) d (.sumMore a) t = .ok (a, t) := by
  rw [SeamText.read]
  exact h
theorem rpm_no {t : Toks} (h : ∀ q c s, t ≠ (q, .sign c) :: s) : SeamText.read (f + 1) d (.productMore a) t = .ok (a, t) := by
  rw [SeamText.read]
  exact h
theorem rpt0 {g : Nat} {l : List E} {t : Toks} : SeamText.read (f + 1) d (.parts g l []) t = SeamNum.next (SeamText.sign 41 t) fun (x : Unit × Toks) => .ok (SeamText.called g l, x.2) := by rw [SeamText.read]
theorem rpt {g : Nat} {l : List E} {t : Toks} {k : Bool} {m : List Bool} : SeamText.read (f + 1) d (.parts g l (k :: m)) t = SeamNum.next (SeamText.read f d (if k = true then .place else .sum) t) fun (a : E × Toks) => if m = [] then SeamText.read f d (.parts g (l ++ [a.1]) []) a.2 else SeamNum.next (SeamText.sign 44 a.2) fun (x : Unit × Toks) => SeamText.read f d (.parts g (l ++ [a.1]) m) x.2 := by rw [SeamText.read]
end
theorem more_end {f d : Nat} {a : E} : AtEnd (SeamText.read f d (.sumMore a) []) ∧ AtEnd (SeamText.read f d (.productMore a) []) := by
  cases f with
  | zero => exact ⟨.inl (by rw [SeamText.read]; rfl), .inl (by rw [SeamText.read]; rfl)⟩
  | succ f => exact ⟨.inr ⟨a, rsm_no fun _ _ _ z => nomatch z⟩, .inr ⟨a, rpm_no fun _ _ _ z => nomatch z⟩⟩
theorem parts_end {f d g : Nat} {l : List E} : SeamText.read f d (.parts g l []) [] = .error none := by
  cases f with
  | zero => rw [SeamText.read]; rfl
  | succ f => rw [rpt0]; rfl
theorem ofN {c k : Nat} (hc : c ∈ sgns) (hk : k ∈ sgns) : UInt8.ofNat c = UInt8.ofNat k ↔ c = k := by
  have small : ∀ c ∈ sgns, c < 256 := by decide
  refine ⟨fun z => ?_, fun z => by rw [z]⟩
  have z := congrArg UInt8.toNat z
  rw [UInt8.toNat_ofNat', UInt8.toNat_ofNat', Nat.mod_eq_of_lt (small c hc), Nat.mod_eq_of_lt (small k hk)] at z
  exact z
theorem says_c {c k q : Nat} {x : Str} (hx : x = S [k]) : saysN ⟨.sgn, [c], q⟩ x = decide (c = k) := by
  subst hx
  unfold saysN
  rw [decide_eq_true (Or.inr rfl), Bool.true_and]
  refine decide_eq_decide.mpr ⟨fun z => ?_, fun z => by rw [z]⟩
  have := S_inj z
  cases this
  rfl
theorem says_w {l : List Nat} {q k : Nat} {x : Str} (hx : x = S [k]) (hk : k ∈ sgns) (hl : l ∈ WL) : saysN ⟨.word, l, q⟩ x = false := by
  subst hx
  unfold saysN
  rw [decide_eq_true (Or.inl rfl), Bool.true_and]
  exact decide_eq_false fun z => wl_alpha l hl k hk (S_inj z)
theorem says_n {fam : Fam} {l : List Nat} {q : Nat} {x : Str} (h : fam = .name ∨ fam = .num) : saysN ⟨fam, l, q⟩ x = false := by
  unfold saysN
  rcases h with h | h <;> subst h <;> rw [decide_eq_false (by rintro (h | h) <;> cases h)] <;> rfl
theorem num_E (l : List Nat) (q : Nat) : tokOf ⟨.num, l, q⟩ = .num (SeamText.fewest (SeamPattern.natOf (bb (cutN 46 l).1 ++ bb ((cutN 46 l).2.getD []))) (bb ((cutN 46 l).2.getD [])).length).1 (SeamText.fewest (SeamPattern.natOf (bb (cutN 46 l).1 ++ bb ((cutN 46 l).2.getD []))) (bb ((cutN 46 l).2.getD [])).length).2 := rfl
theorem not_own {l : List Nat} (h : l ∉ WL ∧ ∃ b : Bytes, l = nb b ∧ SeamText.nameFine b = true) : ¬ SeamText.isWord (bb l) = true := by
  obtain ⟨nw, b, e, _⟩ := h
  subst e
  rw [bb_nb]
  exact fun z => nw ((wordN_iff _).mp (by rw [← isWord_nb]; exact z))
theorem word_own {l : List Nat} (h : l ∈ WL) : SeamText.isWord (bb l) = true := (isWord_iff _).mpr (List.mem_map.mpr ⟨l, h, rfl⟩)
theorem lvl_fac (n : Nat) : (lvl (n + 1)).fac = facM (decide (n ≠ 0)) (lvl n) := rfl
theorem lvl_pl (n : Nat) : (lvl (n + 1)).pl = plM (decide (n ≠ 0)) (lvl n) := rfl
theorem sim : ∀ f n, n ≤ 5 → Sim f n
  | 0, n, hn => ⟨fun _ _ h => by omega, fun _ _ h => by omega, fun _ _ h => by omega, fun _ _ h => by omega, fun _ _ _ _ _ _ h => by omega, fun _ _ _ _ _ _ h => by omega, fun _ _ _ _ _ _ h => by omega⟩
  | f + 1, n, hn => by
    have ih := sim f n hn
    have deep : (SeamText.DEEP ≤ 6 - n) ↔ n = 0 := by unfold SeamText.DEEP; omega
    refine ⟨fun ts hg hf => ?_, fun ts hg hf => ?_, fun ts hg hf => ?_, fun ts hg hf => ?_, fun g a j ts hl hg hf => ?_, fun g a j ts hl hg hf => ?_, fun ks acc g ts hk hg hf => ?_⟩
    · -- a factor
      rw [lvl_fac]
      cases ts with
      | nil => exact .inl rf_nil
      | cons t r =>
        obtain ⟨fam, text, place⟩ := t
        rw [List.length_cons] at hf
        unfold facM
        dsimp only
        cases fam with
        | name =>
          rw [if_pos rfl]
          have nw := not_own hg.head
          show SeamText.read (f + 1) (6 - n) .factor ((place, .name (bb text)) :: tks r) = _
          rw [rf_name, (own_none nw).1]
          dsimp only
          rw [if_neg nw]
          rfl
        | num =>
          rw [if_neg (by decide), if_pos rfl]
          show SeamText.read (f + 1) (6 - n) .factor ((place, tokOf ⟨.num, text, place⟩) :: tks r) = _
          rw [num_E, rf_num]
          rfl
        | sgn =>
          obtain ⟨c, hc, e⟩ := (hg.head : ∃ c ∈ sgns, text = [c])
          subst e
          rw [if_neg (by decide), if_neg (by decide), says_c (x := "-") (k := 45) rfl, says_c (x := "(") (k := 40) rfl, sum_signs c hc]
          show Rel nE _ (SeamText.read (f + 1) (6 - n) .factor ((place, .sign (UInt8.ofNat c)) :: tks r))
          have e45 : UInt8.ofNat c = 45 ↔ c = 45 := ofN (k := 45) hc (by decide)
          have e40 : UInt8.ofNat c = 40 ↔ c = 40 := ofN (k := 40) hc (by decide)
          rw [rf_sign]
          by_cases c45 : c = 45
          · rw [if_pos (decide_eq_true c45), if_pos (e45.mpr c45)]
            cases n with
            | zero =>
              rw [if_pos (deep.mpr rfl)]
              rfl
            | succ m =>
              rw [if_neg (fun z => by have := deep.mp z; omega)]
              show Rel nE (((lvl (m + 1)).fac r).bind fun a us => .ok (.neg a) us) _
              have i := (sim f m (by omega)).fac r hg.tail (by omega)
              rw [show 6 - m = 6 - (m + 1) + 1 by omega] at i
              exact rel_next i (fun a us _ => rfl) fun x => .inr ⟨_, rfl⟩
          · rw [if_neg (by simpa using c45), if_neg (fun z => c45 (e45.mp z))]
            by_cases c40 : c = 40
            · rw [if_pos (decide_eq_true c40), if_pos (e40.mpr c40)]
              cases n with
              | zero =>
                rw [if_pos (deep.mpr rfl)]
                rfl
              | succ m =>
                rw [if_neg (fun z => by have := deep.mp z; omega)]
                show Rel nE (((lvl (m + 1)).sum r).bind fun a us => (needM ")" us).bind fun _ us => .ok a us) _
                have i := (sim f m (by omega)).sum r hg.tail (by omega)
                rw [show 6 - m = 6 - (m + 1) + 1 by omega] at i
                exact rel_next i (fun a us e => rel_then (need_sign (c := 41) (Good.of (lvS (m + 1)).sum hg.tail e) rfl (by decide)) fun _ us _ => rfl) fun x => .inl rfl
            · rw [if_neg (by simpa using c40), if_neg (fun z => c40 (e40.mp z))]
              rfl
        | word =>
          have hw : text ∈ WL := hg.head
          rw [if_neg (by decide), if_neg (by decide), says_w (x := "-") (k := 45) rfl (by decide) hw, says_w (x := "(") (k := 40) rfl (by decide) hw, if_neg Bool.false_ne_true, if_neg Bool.false_ne_true]
          show Rel nE _ (SeamText.read (f + 1) (6 - n) .factor ((place, .name (bb text)) :: tks r))
          rw [rf_name]
          have ck := sum_words text hw
          unfold sumC at ck
          cases e1 : SUMT.lookup (S text) with
          | none =>
            rw [e1] at ck
            cases e2 : SeamText.ofSums (bb text) with
            | none =>
              dsimp only
              rw [if_pos (word_own hw)]
              rfl
            | some g =>
              rw [e2] at ck
              cases ck
          | some k =>
            rw [e1] at ck
            cases e2 : SeamText.ofSums (bb text) with
            | none =>
              rw [e2] at ck
              cases ck
            | some g =>
              rw [e2] at ck
              dsimp only at ck ⊢
              rw [Bool.and_eq_true, Bool.and_eq_true, beq_iff_eq, beq_iff_eq] at ck
              obtain ⟨eg, et, ne⟩ := ck
              cases n with
              | zero =>
                rw [if_pos (deep.mpr rfl)]
                rfl
              | succ m =>
                rw [if_neg (fun z => by have := deep.mp z; omega)]
                show Rel nE ((partsM true (lvl (m + 1)) k.cps.toList (⟨.word, text, place⟩ :: r)).bind fun l us => .ok (callN (fnNo (S text)) l) us) _
                rw [parts_P, ← eg]
                refine rel_then (need_sign (c := 40) hg.tail rfl (by decide)) fun _ us e => ?_
                have hlt := (sfx_need "(" r).length_le
                rw [e] at hlt
                replace hlt : us.length ≤ r.length := hlt
                have i := (sim f m (by omega)).parts k.cps.toList [] g us (fun z => by rw [z] at ne; cases ne) (Good.of (sfx_need _) hg.tail e) (by omega)
                rw [show 6 - m = 6 - (m + 1) + 1 by omega, ← et] at i
                exact i
    · -- a product
      show Rel nE _ (SeamText.read (f + 1) (6 - n) .product (tks ts))
      rw [rpd]
      refine rel_next (ih.fac ts hg (by omega)) (fun a us e => ?_) fun x => more_end.2
      have := lf n _ _ _ e
      exact ih.pm _ a false us (Nat.lt_succ_self _) (Good.of (lvS (n + 1)).fac hg e) (by omega)
    · -- a sum
      show Rel nE (sumM (prodM (lvl (n + 1)).fac) ts) (SeamText.read (f + 1) (6 - n) .sum (tks ts))
      rw [rs]
      refine rel_next (ih.prod ts hg (by omega)) (fun a us e => ?_) fun x => more_end.1
      have := lp n _ _ _ e
      exact ih.sm _ a false us (Nat.lt_succ_self _) (Good.of (sfx_prod (lvS (n + 1)).fac) hg e) (by omega)
    · -- a place
      rw [lvl_pl]
      cases ts with
      | nil => exact .inl rp_nil
      | cons t r =>
        obtain ⟨fam, text, place⟩ := t
        rw [List.length_cons] at hf
        unfold plM
        dsimp only
        cases fam with
        | name =>
          rw [if_pos rfl]
          have nw := not_own hg.head
          show SeamText.read (f + 1) (6 - n) .place ((place, .name (bb text)) :: tks r) = _
          rw [rp_name, (own_none nw).2]
          dsimp only
          rw [if_neg nw]
          rfl
        | num =>
          rw [if_neg (by decide), says_n (.inr rfl), if_neg Bool.false_ne_true]
          show Rel nE _ (SeamText.read (f + 1) (6 - n) .place ((place, tokOf ⟨.num, text, place⟩) :: tks r))
          obtain ⟨a, d, ha0, _, _, ha, _, ht⟩ := (hg.head : ∃ a d : Bytes, a ≠ [] ∧ a.length ≤ 18 ∧ d.length ≤ 18 ∧ (∀ c ∈ a, SeamPattern.isDigit c = true) ∧ (∀ c ∈ d, SeamPattern.isDigit c = true) ∧ text = if d = [] then nb a else nb a ++ 46 :: nb d)
          have en : PLT.lookup (S text) = none := by
            have key : ∀ x ∈ PLT, x.1 ≠ S text := fun x hx e => by
              obtain ⟨c0, a', rfl⟩ : ∃ c0 a', a = c0 :: a' := by
                cases a with
                | nil => exact absurd rfl ha0
                | cons c0 a' => exact ⟨c0, a', rfl⟩
              have hd : text.head? = some c0.toNat := by
                rw [show text = _ from ht]
                split <;> rfl
              have h1 := ha c0 List.mem_cons_self
              rw [digit_eq] at h1
              have hx' : ∀ x ∈ PLT, ∃ l : List Nat, x.1 = S l ∧ ∀ c, l.head? = some c → isDig c = false := by
                intro x hx
                simp only [PLT, List.mem_cons, List.not_mem_nil, or_false] at hx
                rcases hx with rfl | rfl | rfl | rfl | rfl | rfl <;> exact ⟨_, rfl, by intro c h; cases h; decide⟩
              obtain ⟨l, el, hl⟩ := hx' x hx
              have : l = text := S_inj (el.symm.trans e)
              subst this
              rw [hl _ hd] at h1
              cases h1
            rw [List.lookup_eq_none_iff]
            exact fun x hx => by simpa using (key x hx).symm
          rw [en, num_E, rp_num]
          rfl
        | sgn =>
          obtain ⟨c, hc, e⟩ := (hg.head : ∃ c ∈ sgns, text = [c])
          subst e
          rw [if_neg (by decide), says_c (x := "(") (k := 40) rfl, pl_signs c hc]
          show Rel nE _ (SeamText.read (f + 1) (6 - n) .place ((place, .sign (UInt8.ofNat c)) :: tks r))
          have e40 : UInt8.ofNat c = 40 ↔ c = 40 := ofN (k := 40) hc (by decide)
          rw [rp_sign]
          by_cases c40 : c = 40
          · rw [if_pos (decide_eq_true c40)]
            cases n with
            | zero =>
              rw [if_neg (fun z => by have := z.2; unfold SeamText.DEEP at this; omega)]
              rfl
            | succ m =>
              rw [if_pos ⟨e40.mpr c40, by unfold SeamText.DEEP; omega⟩]
              show Rel nE (pairM true (lvl (m + 1)) _) _
              rw [pair_P]
              have i := (sim f m (by omega)).parts [83, 83] [] 4 r (by decide) hg.tail (by omega)
              rw [show 6 - m = 6 - (m + 1) + 1 by omega] at i
              exact i
          · rw [if_neg (by simpa using c40), if_neg (fun z => c40 (e40.mp z.1))]
            rfl
        | word =>
          have hw : text ∈ WL := hg.head
          rw [if_neg (by decide), says_w (x := "(") (k := 40) rfl (by decide) hw, if_neg Bool.false_ne_true]
          show Rel nE _ (SeamText.read (f + 1) (6 - n) .place ((place, .name (bb text)) :: tks r))
          rw [rp_name]
          have ck := pl_words text hw
          unfold plC at ck
          cases e1 : PLT.lookup (S text) with
          | none =>
            rw [e1] at ck
            cases e2 : SeamText.ofPlaces (bb text) with
            | none =>
              dsimp only
              rw [if_pos (word_own hw)]
              rfl
            | some g =>
              rw [e2] at ck
              cases ck
          | some k =>
            rw [e1] at ck
            cases e2 : SeamText.ofPlaces (bb text) with
            | none =>
              rw [e2] at ck
              cases ck
            | some g =>
              rw [e2] at ck
              dsimp only at ck ⊢
              rw [Bool.and_eq_true, Bool.and_eq_true, beq_iff_eq, beq_iff_eq] at ck
              obtain ⟨eg, et, ne⟩ := ck
              cases n with
              | zero =>
                rw [if_pos (deep.mpr rfl)]
                rfl
              | succ m =>
                rw [if_neg (fun z => by have := deep.mp z; omega)]
                show Rel nE ((partsM true (lvl (m + 1)) k.cps.toList (⟨.word, text, place⟩ :: r)).bind fun l us => .ok (callN (fnNo (S text)) l) us) _
                rw [parts_P, ← eg]
                refine rel_then (need_sign (c := 40) hg.tail rfl (by decide)) fun _ us e => ?_
                have hlt := (sfx_need "(" r).length_le
                rw [e] at hlt
                replace hlt : us.length ≤ r.length := hlt
                have i := (sim f m (by omega)).parts k.cps.toList [] g us (fun z => by rw [z] at ne; cases ne) (Good.of (sfx_need _) hg.tail e) (by omega)
                rw [show 6 - m = 6 - (m + 1) + 1 by omega, ← et] at i
                exact i
    · -- more of a product
      cases g with
      | zero => omega
      | succ g =>
        cases ts with
        | nil => exact .inr ⟨_, rpm_no fun _ _ _ z => nomatch z⟩
        | cons t r =>
          obtain ⟨fam, text, place⟩ := t
          rw [List.length_cons] at hf hl
          unfold rowM
          have stay : ∀ fam', (fam' ≠ .sgn) → fam = fam' → (saysN ⟨fam, text, place⟩ "*" || saysN ⟨fam, text, place⟩ "/") = false := fun fam' h1 h2 => by
            subst h2
            cases fam with
            | sgn => exact absurd rfl h1
            | word => rw [says_w (x := "*") (k := 42) rfl (by decide) hg.head, says_w (x := "/") (k := 47) rfl (by decide) hg.head]; rfl
            | name => rw [says_n (.inl rfl), says_n (.inl rfl)]; rfl
            | num => rw [says_n (.inr rfl), says_n (.inr rfl)]; rfl
          cases fam with
          | sgn =>
            obtain ⟨c, hc, e⟩ := (hg.head : ∃ c ∈ sgns, text = [c])
            subst e
            rw [says_c (x := "*") (k := 42) rfl, says_c (x := "/") (k := 47) rfl]
            show Rel nE _ (SeamText.read (f + 1) (6 - n) (.productMore (nE a)) ((place, .sign (UInt8.ofNat c)) :: tks r))
            rw [rpm]
            have e42 : UInt8.ofNat c = 42 ↔ c = 42 := ofN (k := 42) hc (by decide)
            have e47 : UInt8.ofNat c = 47 ↔ c = 47 := ofN (k := 47) hc (by decide)
            by_cases h : c = 42 ∨ c = 47
            · rw [if_pos (by simpa using h), if_pos (by rw [e42, e47]; exact h)]
              refine rel_next (ih.fac r hg.tail (by omega)) (fun b us e => ?_) fun x => more_end.2
              have := lf n _ _ _ e
              exact ih.pm g (.op c j a b) true us (by omega) (Good.of (lvS (n + 1)).fac hg.tail e) (by omega)
            · rw [if_neg (by simpa using h), if_neg (by rw [e42, e47]; exact h)]
              rfl
          | word =>
            rw [stay _ (by decide) rfl, if_neg Bool.false_ne_true]
            exact rpm_no fun _ _ _ z => nomatch z
          | name =>
            rw [stay _ (by decide) rfl, if_neg Bool.false_ne_true]
            exact rpm_no fun _ _ _ z => nomatch z
          | num =>
            rw [stay _ (by decide) rfl, if_neg Bool.false_ne_true]
            exact rpm_no fun _ _ _ z => nomatch z
    · -- more of a sum
      cases g with
      | zero => omega
      | succ g =>
        cases ts with
        | nil => exact .inr ⟨_, rsm_no fun _ _ _ z => nomatch z⟩
        | cons t r =>
          obtain ⟨fam, text, place⟩ := t
          rw [List.length_cons] at hf hl
          unfold rowM
          have stay : ∀ fam', (fam' ≠ .sgn) → fam = fam' → (saysN ⟨fam, text, place⟩ "+" || saysN ⟨fam, text, place⟩ "-") = false := fun fam' h1 h2 => by
            subst h2
            cases fam with
            | sgn => exact absurd rfl h1
            | word => rw [says_w (x := "+") (k := 43) rfl (by decide) hg.head, says_w (x := "-") (k := 45) rfl (by decide) hg.head]; rfl
            | name => rw [says_n (.inl rfl), says_n (.inl rfl)]; rfl
            | num => rw [says_n (.inr rfl), says_n (.inr rfl)]; rfl
          cases fam with
          | sgn =>
            obtain ⟨c, hc, e⟩ := (hg.head : ∃ c ∈ sgns, text = [c])
            subst e
            rw [says_c (x := "+") (k := 43) rfl, says_c (x := "-") (k := 45) rfl]
            show Rel nE _ (SeamText.read (f + 1) (6 - n) (.sumMore (nE a)) ((place, .sign (UInt8.ofNat c)) :: tks r))
            rw [rsm]
            have e42 : UInt8.ofNat c = 43 ↔ c = 43 := ofN (k := 43) hc (by decide)
            have e47 : UInt8.ofNat c = 45 ↔ c = 45 := ofN (k := 45) hc (by decide)
            by_cases h : c = 43 ∨ c = 45
            · rw [if_pos (by simpa using h), if_pos (by rw [e42, e47]; exact h)]
              refine rel_next (ih.prod r hg.tail (by omega)) (fun b us e => ?_) fun x => more_end.1
              have := lp n _ _ _ e
              exact ih.sm g (.op c j a b) true us (by omega) (Good.of (sfx_prod (lvS (n + 1)).fac) hg.tail e) (by omega)
            · rw [if_neg (by simpa using h), if_neg (by rw [e42, e47]; exact h)]
              rfl
          | word =>
            rw [stay _ (by decide) rfl, if_neg Bool.false_ne_true]
            exact rsm_no fun _ _ _ z => nomatch z
          | name =>
            rw [stay _ (by decide) rfl, if_neg Bool.false_ne_true]
            exact rsm_no fun _ _ _ z => nomatch z
          | num =>
            rw [stay _ (by decide) rfl, if_neg Bool.false_ne_true]
            exact rsm_no fun _ _ _ z => nomatch z
    · -- parts
      cases ks with
      | nil => exact absurd rfl hk
      | cons k ks =>
        show Rel nE _ (SeamText.read (f + 1) (6 - n) (.parts g (acc.map nE) (decide (k = 80) :: ks.map fun c => decide (c = 80))) (tks ts))
        rw [rpt]
        have one : Rel nE (if k = 80 then (lvl (n + 1)).pl ts else (lvl (n + 1)).sum ts) (SeamText.read f (6 - n) (if decide (k = 80) = true then .place else .sum) (tks ts)) := by
          by_cases h : k = 80
          · rw [if_pos h, if_pos (decide_eq_true h)]
            exact ih.pl ts hg (by omega)
          · rw [if_neg h, if_neg (by simpa using h)]
            exact ih.sum ts hg (by omega)
        have lt : ∀ a us, (if k = 80 then (lvl (n + 1)).pl ts else (lvl (n + 1)).sum ts) = .ok a us → us.length < ts.length ∧ Good us := fun a us e => by
          split at e
          · exact ⟨lpl n _ _ _ e, Good.of (lvS (n + 1)).pl hg e⟩
          · exact ⟨lsu n _ _ _ e, Good.of (lvS (n + 1)).sum hg e⟩
        cases ks with
        | nil =>
          rw [partsP_one]
          refine rel_next one (fun a us e => ?_) fun x => ?_
          · obtain ⟨h1, h2⟩ := lt a us e
            dsimp only
            rw [if_pos (by rfl)]
            obtain ⟨f', rfl⟩ : ∃ f', f = f' + 1 := ⟨f - 1, by omega⟩
            rw [rpt0]
            refine rel_then (need_sign (c := 41) h2 rfl (by decide)) fun _ us _ => ?_
            show _ = _
            rw [called_E, List.map_append]
            rfl
          · rw [if_pos (by rfl)]
            exact .inl parts_end
        | cons k2 ks =>
          rw [partsP_cons]
          refine rel_next one (fun a us e => ?_) fun x => ?_
          · obtain ⟨h1, h2⟩ := lt a us e
            dsimp only
            rw [if_neg (fun z => nomatch z)]
            refine rel_then (need_sign (c := 44) h2 rfl (by decide)) fun _ vs e2 => ?_
            have hlt := (sfx_need "," us).length_le
            rw [e2] at hlt
            replace hlt : vs.length ≤ us.length := hlt
            have i := ih.parts (k2 :: ks) (acc ++ [a]) g vs (fun z => nomatch z) (Good.of (sfx_need _) h2 e2) (by omega)
            rw [List.map_append] at i
            exact i
          · rw [if_neg (fun z => nomatch z)]
            exact .inl rfl
end Sd

set_option Elab.async false
set_option linter.all false
set_option maxRecDepth 100000
set_option maxHeartbeats 4000000
set_option exponentiation.threshold 10000
namespace Sd
open PySem PySem.Spec PyProof.Rows L2
open SeamText (E Got Toks)
def stE : Stt → SeamText.St
  | .let_ n e => .let_ (bb n) (nE e)
  | .point n e => .point (bb n) (nE e)
  | .piece n cs g h => .piece (bb n) (cs.map bb) (bb g) (bb h)
  | .seam l => .seam (bb (l.getD 0 [])) (bb (l.getD 1 [])) (bb (l.getD 2 [])) (bb (l.getD 3 [])) (bb (l.getD 4 [])) (bb (l.getD 5 []))
/-- a statement's word -/
def stC (l : List Nat) : Bool := decide (decide (S l = ("let" : Str)) = decide (bb l = SeamNum.ascii "let")) && (decide (decide (S l = ("point" : Str)) = decide (bb l = SeamNum.ascii "point")) && (decide (decide (S l = ("piece" : Str)) = decide (bb l = SeamNum.ascii "piece")) && (decide (decide (S l = ("seam" : Str)) = decide (bb l = SeamNum.ascii "seam")) && decide (decide (S l = ("grain" : Str)) = decide (bb l = SeamText.GRAIN)))))
theorem st_words : ∀ l ∈ WL, stC l = true := by decide +kernel
structure StW (l : List Nat) : Prop where
  let_ : S l = ("let" : Str) ↔ bb l = SeamNum.ascii "let"
  point : S l = ("point" : Str) ↔ bb l = SeamNum.ascii "point"
  piece : S l = ("piece" : Str) ↔ bb l = SeamNum.ascii "piece"
  seam : S l = ("seam" : Str) ↔ bb l = SeamNum.ascii "seam"
  grain : S l = ("grain" : Str) ↔ bb l = SeamText.GRAIN
theorem stW {l : List Nat} (h : l ∈ WL) : StW l := by
  have := st_words l h
  unfold stC at this
  simp only [Bool.and_eq_true, decide_eq_true_eq, decide_eq_decide] at this
  exact ⟨this.1, this.2.1, this.2.2.1, this.2.2.2.1, this.2.2.2.2⟩
theorem says_word {l : List Nat} {q : Nat} {x : Str} : saysN ⟨.word, l, q⟩ x = decide (S l = x) := by
  unfold saysN
  rw [decide_eq_true (Or.inl rfl), Bool.true_and]
theorem says_sgnW {c q : Nat} {x : Str} (h : ∀ c ∈ sgns, S [c] ≠ x) (hc : c ∈ sgns) : saysN ⟨.sgn, [c], q⟩ x = false := by
  unfold saysN
  rw [decide_eq_false (h c hc), Bool.and_false]
theorem not_grain {b : Bytes} (h : ¬ SeamText.isWord b = true) : b ≠ SeamText.GRAIN ∧ b ≠ SeamNum.ascii "let" ∧ b ≠ SeamNum.ascii "point" ∧ b ≠ SeamNum.ascii "piece" ∧ b ≠ SeamNum.ascii "seam" := by
  refine ⟨fun z => h ?_, fun z => h ?_, fun z => h ?_, fun z => h ?_, fun z => h ?_⟩ <;> subst z <;> decide +kernel
theorem need_grain {ts : List Tk} (h : Good ts) : RelS (fun _ => ()) (needM "grain" ts) (SeamText.word SeamText.GRAIN (tks ts)) := by
  cases ts with
  | nil => rfl
  | cons t r =>
    obtain ⟨fam, text, place⟩ := t
    unfold needM
    dsimp only
    cases fam with
    | word =>
      have hw : text ∈ WL := h.head
      rw [says_word]
      show RelS _ _ (SeamText.word SeamText.GRAIN ((place, .name (bb text)) :: tks r))
      unfold SeamText.word
      dsimp only
      by_cases e : S text = ("grain" : Str)
      · rw [if_pos (decide_eq_true e), if_pos ((stW hw).grain.mp e)]
        rfl
      · rw [if_neg (by simpa using e), if_neg (fun z => e ((stW hw).grain.mpr z))]
        rfl
    | name =>
      have nw := not_own h.head
      rw [says_n (.inl rfl), if_neg Bool.false_ne_true]
      show SeamText.word SeamText.GRAIN ((place, .name (bb text)) :: tks r) = _
      unfold SeamText.word
      dsimp only
      rw [if_neg (not_grain nw).1]
      rfl
    | num =>
      rw [says_n (.inr rfl), if_neg Bool.false_ne_true]
      rfl
    | sgn =>
      obtain ⟨c, hc, e⟩ := (h.head : ∃ c ∈ sgns, text = [c])
      subst e
      rw [says_sgnW (by decide +kernel) hc, if_neg Bool.false_ne_true]
      rfl
def cornP (g : Nat) (acc : List (List Nat)) (ts : List Tk) : Pr (List (List Nat)) := (cornersM g acc ts).bind fun cs us => (needM ")" us).bind fun _ us => .ok cs us
theorem corn_lo {g : Nat} {acc : List (List Nat)} {ts : List Tk} (h : acc.length < 3) : cornP (g + 1) acc ts = (needM "," ts).bind fun _ us => (nameM us).bind fun n us => cornP g (acc ++ [n]) us := by
  unfold cornP
  rw [cornersM, if_pos h, bind_assoc]
  congr 1
  funext _ us
  rw [bind_assoc]
theorem corn_mid {g : Nat} {acc : List (List Nat)} {ts : List Tk} (h : ¬ acc.length < 3) (h2 : acc.length < 16) : cornP (g + 1) acc ts = (comesM "," ts).bind fun b us => if b = true then ((needM "," us).bind fun _ us => (nameM us).bind fun n us => cornP g (acc ++ [n]) us) else (needM ")" us).bind fun _ us => .ok acc us := by
  unfold cornP
  rw [cornersM, if_neg h, if_pos h2, bind_assoc]
  congr 1
  funext b us
  cases b with
  | true =>
    rw [if_pos rfl, if_pos rfl, bind_assoc]
    congr 1
    funext _ us
    rw [bind_assoc]
  | false => rfl
theorem corn_hi {g : Nat} {acc : List (List Nat)} {ts : List Tk} (h : ¬ acc.length < 3) (h2 : ¬ acc.length < 16) : cornP (g + 1) acc ts = (needM ")" ts).bind fun _ us => .ok acc us := by
  unfold cornP
  rw [cornersM, if_neg h, if_neg h2]
  rfl
theorem corner_rel : ∀ (g : Nat) (acc : List (List Nat)) (ts : List Tk), acc.length + g = 17 → 1 ≤ acc.length → acc.length ≤ 16 → Good ts → RelS (List.map bb) (cornP g acc ts) (SeamText.corners (g + 1) (acc.map bb) (tks ts))
  | 0, acc, ts, h, _, _, _ => by omega
  | g + 1, acc, ts, h, h1, h16, hg => by
    have ml : (acc.map bb).length = acc.length := List.length_map _
    -- the , and a name behind it
    have step : ∀ {place c : Nat} {r : List Tk}, c = 44 → acc.length < 16 → Good r → RelS (List.map bb) ((needM "," (⟨.sgn, [c], place⟩ :: r)).bind fun _ us => (nameM us).bind fun n us => cornP g (acc ++ [n]) us) (SeamText.corners (g + 1 + 1) (acc.map bb) (tks (⟨.sgn, [c], place⟩ :: r))) := fun {place c r} hc hlt hr => by
      subst hc
      show RelS _ ((nameM r).bind fun n us => cornP g (acc ++ [n]) us) (SeamText.corners (g + 1 + 1) (acc.map bb) ((place, .sign 44) :: tks r))
      rw [SeamText.corners, if_neg (fun z => absurd z.1 (by decide)), if_pos ⟨rfl, by rw [ml]; exact hlt⟩]
      refine relS_then (name_rel hr) fun n us e => ?_
      have i := corner_rel g (acc ++ [n]) us (by rw [List.length_append, List.length_cons, List.length_nil]; omega) (by rw [List.length_append]; omega) (by rw [List.length_append, List.length_cons, List.length_nil]; omega) (Good.of sfx_name hr e)
      rw [List.map_append] at i
      exact i
    have nilS : SeamText.corners (g + 1 + 1) (acc.map bb) [] = SeamText.wrong [] := by
      rw [SeamText.corners]
      intro a b c z
      cases z
    have otherS : ∀ {q : Nat} {k : SeamText.Tok} {s : Toks}, (∀ c, k ≠ .sign c) → SeamText.corners (g + 1 + 1) (acc.map bb) ((q, k) :: s) = SeamText.wrong ((q, k) :: s) := fun {q k s} nk => by
      rw [SeamText.corners]
      intro a b c z
      injection z with z1 _
      injection z1 with _ z2
      exact nk _ z2
    cases ts with
    | nil =>
      show RelS _ _ (SeamText.corners (g + 1 + 1) (acc.map bb) [])
      rw [nilS]
      by_cases h3 : acc.length < 3
      · rw [corn_lo h3]
        rfl
      · by_cases hm : acc.length < 16
        · rw [corn_mid h3 hm]
          rfl
        · rw [corn_hi h3 hm]
          rfl
    | cons t r =>
      obtain ⟨fam, text, place⟩ := t
      have hr := hg.tail
      have bad : (saysN ⟨fam, text, place⟩ "," = false) → (saysN ⟨fam, text, place⟩ ")" = false) → SeamText.corners (g + 1 + 1) (acc.map bb) (tks (⟨fam, text, place⟩ :: r)) = SeamText.wrong (tks (⟨fam, text, place⟩ :: r)) → RelS (List.map bb) (cornP (g + 1) acc (⟨fam, text, place⟩ :: r)) (SeamText.corners (g + 1 + 1) (acc.map bb) (tks (⟨fam, text, place⟩ :: r))) := fun z1 z2 e => by
        rw [e]
        have n1 : needM "," (⟨fam, text, place⟩ :: r) = .bad (⟨fam, text, place⟩ :: r) := by
          unfold needM
          dsimp only
          rw [z1, if_neg Bool.false_ne_true]
        have n2 : needM ")" (⟨fam, text, place⟩ :: r) = .bad (⟨fam, text, place⟩ :: r) := by
          unfold needM
          dsimp only
          rw [z2, if_neg Bool.false_ne_true]
        by_cases h3 : acc.length < 3
        · rw [corn_lo h3, n1]
          rfl
        · by_cases hm : acc.length < 16
          · rw [corn_mid h3 hm]
            show RelS _ (if saysN ⟨fam, text, place⟩ "," = true then _ else (needM ")" (⟨fam, text, place⟩ :: r)).bind _) _
            rw [z1, if_neg Bool.false_ne_true, n2]
            rfl
          · rw [corn_hi h3 hm, n2]
            rfl
      cases fam with
      | word => exact bad (says_w (k := 44) rfl (by decide) hg.head) (says_w (k := 41) rfl (by decide) hg.head) (otherS fun _ z => nomatch z)
      | name => exact bad (says_n (.inl rfl)) (says_n (.inl rfl)) (otherS fun _ z => nomatch z)
      | num => exact bad (says_n (.inr rfl)) (says_n (.inr rfl)) (otherS fun _ z => nomatch z)
      | sgn =>
        obtain ⟨c, hc, e⟩ := (hg.head : ∃ c ∈ sgns, text = [c])
        subst e
        have e41 : UInt8.ofNat c = 41 ↔ c = 41 := ofN (k := 41) hc (by decide)
        have e44 : UInt8.ofNat c = 44 ↔ c = 44 := ofN (k := 44) hc (by decide)
        have spec : SeamText.corners (g + 1 + 1) (acc.map bb) (tks (⟨.sgn, [c], place⟩ :: r)) = if c = 41 ∧ 3 ≤ acc.length then .ok (acc.map bb, tks r) else if c = 44 ∧ acc.length < 16 then SeamNum.next (SeamText.ownName (tks r)) fun (b : Bytes × Toks) => SeamText.corners (g + 1) (acc.map bb ++ [b.1]) b.2 else SeamText.wrong (tks (⟨.sgn, [c], place⟩ :: r)) := by
          show SeamText.corners (g + 1 + 1) (acc.map bb) ((place, .sign (UInt8.ofNat c)) :: tks r) = _
          rw [SeamText.corners, ml]
          simp only [e41, e44]
          rfl
        have s44 : saysN ⟨.sgn, [c], place⟩ "," = decide (c = 44) := says_c (k := 44) rfl
        have s41 : saysN ⟨.sgn, [c], place⟩ ")" = decide (c = 41) := says_c (k := 41) rfl
        by_cases h3 : acc.length < 3
        · rw [corn_lo h3]
          by_cases c44 : c = 44
          · exact step c44 (by omega) hr
          · rw [spec, if_neg (fun z => by omega), if_neg (fun z => c44 z.1)]
            unfold needM
            dsimp only
            rw [s44, if_neg (by simpa using c44)]
            rfl
        · by_cases hm : acc.length < 16
          · rw [corn_mid h3 hm]
            show RelS _ (if saysN ⟨.sgn, [c], place⟩ "," = true then _ else (needM ")" (⟨.sgn, [c], place⟩ :: r)).bind _) _
            rw [s44]
            by_cases c44 : c = 44
            · rw [if_pos (decide_eq_true c44)]
              exact step c44 hm hr
            · rw [if_neg (by simpa using c44), spec]
              unfold needM
              dsimp only
              rw [s41]
              by_cases c41 : c = 41
              · rw [if_pos (decide_eq_true c41), if_pos ⟨c41, by omega⟩]
                rfl
              · rw [if_neg (by simpa using c41), if_neg (fun z => c41 z.1), if_neg (fun z => c44 z.1)]
                rfl
          · rw [corn_hi h3 hm, spec]
            unfold needM
            dsimp only
            rw [s41]
            by_cases c41 : c = 41
            · rw [if_pos (decide_eq_true c41), if_pos ⟨c41, by omega⟩]
              rfl
            · rw [if_neg (by simpa using c41), if_neg (fun z => c41 z.1), if_neg (fun z => hm z.2)]
              rfl
theorem stEnd_rel {st : Stt} {s : SeamText.St} {ts : List Tk} (h : Good ts) (e : stE st = s) : RelS stE (stEnd st ts) (SeamNum.next (SeamText.sign 59 (tks ts)) fun (y : Unit × Toks) => .ok (s, y.2)) := by
  subst e
  exact relS_then (need_sign (c := 59) h rfl (by decide)) fun _ us _ => rfl
theorem st_rel {ts : List Tk} (h : Good ts) : RelS stE (stM ts) (SeamText.statement (tks ts)) := by
  cases ts with
  | nil => rfl
  | cons t r =>
    obtain ⟨fam, text, place⟩ := t
    have hr := h.tail
    unfold stM
    dsimp only
    cases fam with
    | name =>
      have nw := not_own h.head
      obtain ⟨_, n1, n2, n3, n4⟩ := not_grain nw
      rw [says_n (.inl rfl), says_n (.inl rfl), says_n (.inl rfl), says_n (.inl rfl), if_neg (by decide)]
      show SeamText.statement ((place, .name (bb text)) :: tks r) = _
      unfold SeamText.statement
      dsimp only
      rw [if_neg n1, if_neg n2, if_neg n3, if_neg n4]
      rfl
    | num =>
      rw [says_n (.inr rfl), says_n (.inr rfl), says_n (.inr rfl), says_n (.inr rfl), if_neg (by decide)]
      rfl
    | sgn =>
      obtain ⟨c, hc, e⟩ := (h.head : ∃ c ∈ sgns, text = [c])
      subst e
      rw [says_sgnW (by decide +kernel) hc, says_sgnW (by decide +kernel) hc, says_sgnW (by decide +kernel) hc, says_sgnW (by decide +kernel) hc, if_neg (by decide)]
      rfl
    | word =>
      have hw : text ∈ WL := h.head
      have w := stW hw
      rw [says_word, says_word, says_word, says_word]
      show RelS _ _ (SeamText.statement ((place, .name (bb text)) :: tks r))
      unfold SeamText.statement
      dsimp only
      by_cases h1 : S text = ("let" : Str)
      · rw [if_pos (by simp [h1]), if_pos h1, if_pos (w.let_.mp h1)]
        unfold givenM
        rw [bind_assoc]
        refine relS_then (name_rel hr) fun n us e => ?_
        have hg1 := Good.of sfx_name hr e
        rw [bind_assoc]
        refine relS_then (need_sign (c := 61) hg1 rfl (by decide)) fun _ us e => ?_
        have hg2 := Good.of (sfx_need _) hg1 e
        show RelS _ (((lvl 6).sum us).bind fun e us => stEnd (.let_ n e) us) _
        refine relS_next ((sim _ 5 (Nat.le_refl 5)).sum us hg2 ?_) (fun a vs e => stEnd_rel (Good.of (lvS 6).sum hg2 e) rfl) fun x => rfl
        unfold SeamText.fuel
        rw [List.length_map]
        omega
      · rw [if_neg h1, if_neg (fun z => h1 (w.let_.mpr z))]
        by_cases h2 : S text = ("point" : Str)
        · rw [if_pos (by simp [h2]), if_pos h2, if_pos (w.point.mp h2)]
          unfold givenM
          rw [bind_assoc]
          refine relS_then (name_rel hr) fun n us e => ?_
          have hg1 := Good.of sfx_name hr e
          rw [bind_assoc]
          refine relS_then (need_sign (c := 61) hg1 rfl (by decide)) fun _ us e => ?_
          have hg2 := Good.of (sfx_need _) hg1 e
          show RelS _ (((lvl 6).pl us).bind fun e us => stEnd (.point n e) us) _
          refine relS_next ((sim _ 5 (Nat.le_refl 5)).pl us hg2 ?_) (fun a vs e => stEnd_rel (Good.of (lvS 6).pl hg2 e) rfl) fun x => rfl
          unfold SeamText.fuel
          rw [List.length_map]
          omega
        · rw [if_neg h2, if_neg (fun z => h2 (w.point.mpr z))]
          by_cases h3 : S text = ("piece" : Str)
          · rw [if_pos (by simp [h3]), if_pos h3, if_pos (w.piece.mp h3)]
            unfold pieceM
            rw [bind_assoc]
            refine relS_then (name_rel hr) fun n us e => ?_
            have hg1 := Good.of sfx_name hr e
            rw [bind_assoc]
            refine relS_then (need_sign (c := 40) hg1 rfl (by decide)) fun _ us e => ?_
            have hg2 := Good.of (sfx_need _) hg1 e
            rw [bind_assoc]
            refine relS_then (name_rel hg2) fun c us e => ?_
            have hg3 := Good.of sfx_name hg2 e
            have ec : ((cornersM 16 [c] us).bind fun cs us => pieceEnd n cs us).bind (fun s us => stEnd s us) = (cornP 16 [c] us).bind fun cs us => (needM "grain" us).bind fun _ us => (nameM us).bind fun g us => (nameM us).bind fun h us => stEnd (.piece n cs g h) us := by
              unfold cornP pieceEnd
              rw [bind_assoc, bind_assoc]
              congr 1
              funext cs us
              rw [bind_assoc, bind_assoc]
              congr 1
              funext _ us
              rw [bind_assoc]
              show _ = (needM "grain" us).bind _
              congr 1
              funext _ us
              rw [bind_assoc]
              congr 1
              funext g us
              rw [bind_assoc]
              rfl
            rw [ec]
            refine relS_then (corner_rel 16 [c] us rfl (Nat.le_refl 1) (Nat.succ_le_succ (Nat.zero_le 15)) hg3) fun cs us e => ?_
            have hg4 : Good us := by
              refine hg3.sfx ?_
              have s : Sfx (cornP 16 [c]) := fun ts => rest_bind (sfx_corners _ _ ts) fun _ us _ => rest_bind (sfx_need _ us) fun _ us _ => List.suffix_refl us
              exact s.at e
            refine relS_then (need_grain hg4) fun _ us e => ?_
            have hg5 := Good.of (sfx_need _) hg4 e
            refine relS_then (name_rel hg5) fun g us e => ?_
            have hg6 := Good.of sfx_name hg5 e
            refine relS_then (name_rel hg6) fun h us e => ?_
            have hg7 := Good.of sfx_name hg6 e
            exact stEnd_rel hg7 rfl
          · rw [if_neg h3, if_neg (fun z => h3 (w.piece.mpr z))]
            by_cases h4 : S text = ("seam" : Str)
            · rw [if_pos (by simp [h4]), if_pos (w.seam.mp h4)]
              unfold seamM names3
              simp only [bind_assoc]
              refine relS_then (name_rel hr) fun n1 us e => ?_
              have g1 := Good.of sfx_name hr e
              refine relS_then (name_rel g1) fun n2 us e => ?_
              have g2 := Good.of sfx_name g1 e
              refine relS_then (name_rel g2) fun n3 us e => ?_
              have g3 := Good.of sfx_name g2 e
              show RelS _ ((needM "," us).bind _) _
              refine relS_then (need_sign (c := 44) g3 rfl (by decide)) fun _ us e => ?_
              have g4 := Good.of (sfx_need _) g3 e
              refine relS_then (name_rel g4) fun n4 us e => ?_
              have g5 := Good.of sfx_name g4 e
              refine relS_then (name_rel g5) fun n5 us e => ?_
              have g6 := Good.of sfx_name g5 e
              refine relS_then (name_rel g6) fun n6 us e => ?_
              have g7 := Good.of sfx_name g6 e
              exact stEnd_rel (st := .seam ([n1, n2, n3] ++ [n4, n5, n6])) g7 rfl
            · rw [if_neg (by simp [h1, h2, h3, h4]), if_neg (fun z => h4 (w.seam.mpr z))]
              rfl
/-! ### drafts -/
theorem sts_rel (ek : Nat) : ∀ (f n : Nat) (acc : List Stt) (ts : List Tk), ts.length < f → Good ts → acc.length + n = 128 → match stsM ek f acc ts with
    | .ok l us => us = [] ∧ ek = 2 ∧ ∃ l', l = acc ++ l' ∧ SeamText.statements n (tks ts) = .ok (l'.map stE)
    | .bad [] => SeamText.statements n (tks ts) = .error none ∨ (ek ≠ 2 ∧ ∃ l', SeamText.statements n (tks ts) = .ok l')
    | .bad (t :: _) => SeamText.statements n (tks ts) = .error (some t.place)
  | 0, n, acc, ts, h, _, _ => by omega
  | f + 1, n, acc, ts, h, hg, hn => by
    unfold stsM
    have snil : ∀ n, SeamText.statements n [] = .ok [] := fun n => by cases n <;> rfl
    cases ts with
    | nil =>
      by_cases e : ek = 2
      · rw [if_pos ⟨rfl, e⟩]
        exact ⟨rfl, e, [], (List.append_nil _).symm, snil n⟩
      · rw [if_neg (fun z => e z.2)]
        exact .inr ⟨e, [], snil n⟩
    | cons t r =>
      rw [if_neg (fun z => nomatch z.1)]
      cases n with
      | zero =>
        have : decide (acc.length < 128) = false := decide_eq_false (by omega)
        rw [this]
        show SeamText.statements 0 (tks (t :: r)) = _
        rfl
      | succ n =>
        have : decide (acc.length < 128) = true := decide_eq_true (by omega)
        rw [this]
        show match (stM (t :: r)).bind (fun s vs => stsM ek f (acc ++ [s]) vs) with
          | .ok l us => us = [] ∧ ek = 2 ∧ ∃ l', l = acc ++ l' ∧ SeamText.statements (n + 1) (tks (t :: r)) = .ok (l'.map stE)
          | .bad [] => SeamText.statements (n + 1) (tks (t :: r)) = .error none ∨ (ek ≠ 2 ∧ ∃ l', SeamText.statements (n + 1) (tks (t :: r)) = .ok l')
          | .bad (u :: _) => SeamText.statements (n + 1) (tks (t :: r)) = .error (some u.place)
        have es : SeamText.statements (n + 1) (tks (t :: r)) = SeamNum.next (SeamText.statement (tks (t :: r))) fun (s : SeamText.St × Toks) => SeamNum.next (SeamText.statements n s.2) fun (l : SeamText.Draft) => .ok (s.1 :: l) := rfl
        rw [es]
        have i := st_rel hg
        cases e : stM (t :: r) with
        | bad us =>
          rw [e] at i
          have i : SeamText.statement _ = _ := i
          rw [i]
          cases us with
          | nil => exact .inl rfl
          | cons u us => rfl
        | ok s us =>
          rw [e] at i
          have i : SeamText.statement _ = _ := i
          rw [i]
          have hlt := stM_less e
          have hus := Good.of sfx_st hg e
          have j := sts_rel ek f n (acc ++ [s]) us (by omega) hus (by rw [List.length_append, List.length_cons, List.length_nil]; omega)
          show match stsM ek f (acc ++ [s]) us with
            | .ok l us => us = [] ∧ ek = 2 ∧ ∃ l', l = acc ++ l' ∧ _ = Except.ok (l'.map stE)
            | .bad [] => _ = Except.error none ∨ (ek ≠ 2 ∧ ∃ l', _ = Except.ok l')
            | .bad (u :: _) => _ = Except.error (some u.place)
          dsimp only [SeamNum.next]
          cases e2 : stsM ek f (acc ++ [s]) us with
          | ok l vs =>
            rw [e2] at j
            obtain ⟨j1, j2, l', j3, j4⟩ := j
            refine ⟨j1, j2, s :: l', by rw [j3, List.append_assoc]; rfl, ?_⟩
            rw [j4]
            rfl
          | bad vs =>
            rw [e2] at j
            cases vs with
            | nil =>
              rcases j with j | ⟨j1, l', j2⟩
              · exact .inl (by rw [j])
              · exact .inr ⟨j1, _, by rw [j2]⟩
            | cons u vs =>
              have j : SeamText.statements n (tks us) = _ := j
              show _ = _
              rw [j]
end Sd

set_option Elab.async false
set_option linter.all false
set_option maxRecDepth 100000
set_option maxHeartbeats 4000000
set_option exponentiation.threshold 10000
namespace Sd
open PySem PySem.Spec PyProof.Rows L2
/-! # What is read may be printed -/
def T40 (l : List (List Nat)) : Prop := ∀ t ∈ l, t.length ≤ 40
theorem T40.app {a b : List (List Nat)} (x : T40 a) (y : T40 b) : T40 (a ++ b) := fun t h => (List.mem_append.mp h).elim (x t) (y t)
theorem T40.cons {a : List Nat} {b : List (List Nat)} (x : a.length ≤ 40) (y : T40 b) : T40 (a :: b) := fun t h => by
  rcases List.mem_cons.mp h with rfl | h
  · exact x
  · exact y t h
theorem T40.nil : T40 [] := fun _ h => absurd h (by simp)
theorem T40.brk {w : Str} {ws : List Str} {l : List (List Nat)} (x : T40 l) : T40 (brkT w ws l) := by
  unfold brkT
  split
  · exact .cons (by simp) (x.app (.cons (by simp) .nil))
  · exact x
theorem T40.comma : ∀ {ls : List (List (List Nat))}, (∀ l ∈ ls, T40 l) → T40 (commaT ls)
  | [], _ => .nil
  | [l], h => h l List.mem_cons_self
  | l :: m :: r, h => (h l List.mem_cons_self).app (.cons (by simp) (T40.comma (ls := m :: r) fun x hx => h x (List.mem_cons_of_mem _ hx)))
theorem fnL_len (f : Nat) : (fnL f).length ≤ 40 := by
  have all : ∀ x ∈ ([fnW 0, fnW 1, fnW 2, fnW 3, fnW 4, fnW 5, fnW 6, fnW 7, fnW 8, fnW 9, fnW 10] : List Str), x.cps.toList.length ≤ 40 := by decide +kernel
  exact all _ (fn_words f)
theorem T40.call {f : Nat} {ls : List (List (List Nat))} (h : ∀ l ∈ ls, T40 l) : T40 (callT f ls) := by
  unfold callT
  refine T40.app ?_ (.cons (by simp) ((T40.comma h).app (.cons (by simp) .nil)))
  split
  · exact .nil
  · exact .cons (fnL_len f) .nil
/-- what the printer's law wants of a node -/
def okP : Nd → Prop
  | .num b => TkG ⟨.num, b, 0⟩
  | .name b => TkG ⟨.name, b, 0⟩
  | .neg a => okP a
  | .op c _ a b => c ∈ [43, 45, 42, 47] ∧ okP a ∧ okP b
  | .call1 f a => f ≤ 10 ∧ okP a
  | .call2 f a b => f ≤ 10 ∧ okP a ∧ okP b
  | .call3 f a b c => f ≤ 10 ∧ okP a ∧ okP b ∧ okP c
  | .call4 f a b c d => f ≤ 10 ∧ okP a ∧ okP b ∧ okP c ∧ okP d
theorem fnNo_le (x : Str) : fnNo x ≤ 10 := by
  unfold fnNo
  have all : ∀ (l : List (Str × Nat)), (∀ p ∈ l, p.2 ≤ 10) → (l.lookup x).getD 0 ≤ 10 := fun l h => by
    induction l with
    | nil => exact Nat.zero_le _
    | cons p r ih =>
      rw [List.lookup_cons]
      split
      · exact h p List.mem_cons_self
      · exact ih fun q hq => h q (List.mem_cons_of_mem _ hq)
  exact all _ (by decide)
/-- a node's parse -/
structure PG (m T : Nat) (e : Nd) (us : List Tk) : Prop where
  ok : okW e
  dep : (dpr e).1 ≤ m
  len : (tokN e).length + 2 + 3 * us.length ≤ 3 * T
  sh : T40 (tokN e)
  pr : okP e
theorem PG.mono {m m' T T' : Nat} {e : Nd} {us : List Tk} (h : PG m T e us) (a : m ≤ m') (b : T ≤ T') : PG m' T' e us := ⟨h.ok, by have := h.dep; omega, by have := h.len; omega, h.sh, h.pr⟩
structure LvG (m : Nat) (lv : Lv) : Prop where
  fac : ∀ ts, Good ts → ∀ e us, lv.fac ts = .ok e us → PG m ts.length e us
  sum : ∀ ts, Good ts → ∀ e us, lv.sum ts = .ok e us → PG m ts.length e us
  pl : ∀ ts, Good ts → ∀ e us, lv.pl ts = .ok e us → PG m ts.length e us
def wL (l : List Nd) : Nat := (l.map fun e => (tokN e).length + 1).sum
theorem wL_app (a b : List Nd) : wL (a ++ b) = wL a + wL b := by
  unfold wL
  rw [List.map_append, List.sum_append]
theorem need_len {x : Str} {ts us : List Tk} {a : Unit} (h : needM x ts = .ok a us) : us.length + 1 = ts.length := by
  cases ts with
  | nil => cases h
  | cons t r =>
    unfold needM at h
    dsimp only at h
    split at h
    · cases h; rfl
    · cases h
theorem partsL_G {m : Nat} {lv : Lv} (L : LvS lv) (G : LvG m lv) : ∀ (ks : List Nat) (fst : Bool) (acc : List Nd) (ts us : List Tk) (l : List Nd), Good ts → partsL lv fst ks acc ts = .ok l us → (∀ e ∈ acc, okW e ∧ (dpr e).1 ≤ m ∧ T40 (tokN e) ∧ okP e) →
    (∀ e ∈ l, okW e ∧ (dpr e).1 ≤ m ∧ T40 (tokN e) ∧ okP e) ∧ wL l + 3 * us.length ≤ 3 * ts.length + wL acc
  | [], fst, acc, ts, us, l, hg, h, ha => by
    cases h
    exact ⟨ha, by omega⟩
  | k :: ks, fst, acc, ts, us, l, hg, h, ha => by
    unfold partsL at h
    obtain ⟨_, vs, e1, h⟩ := bind_ok h
    obtain ⟨a, ws, e2, h⟩ := bind_ok h
    have hv : vs.length ≤ ts.length ∧ Good vs := by
      split at e1
      · cases e1
        exact ⟨Nat.le_refl _, hg⟩
      · exact ⟨by have := need_len e1; omega, Good.of (sfx_need _) hg e1⟩
    have pa : PG m vs.length a ws ∧ Good ws := by
      split at e2
      · exact ⟨G.pl vs hv.2 a ws e2, Good.of L.pl hv.2 e2⟩
      · exact ⟨G.sum vs hv.2 a ws e2, Good.of L.sum hv.2 e2⟩
    obtain ⟨i1, i2⟩ := partsL_G L G ks false (acc ++ [a]) ws us l pa.2 h fun e he => by
      rcases List.mem_append.mp he with he | he
      · exact ha e he
      · have := List.mem_singleton.mp he
        subst this
        exact ⟨pa.1.ok, pa.1.dep, pa.1.sh, pa.1.pr⟩
    refine ⟨i1, ?_⟩
    rw [wL_app] at i2
    have h1 : wL [a] = (tokN a).length + 1 := rfl
    have := pa.1.len
    omega
theorem call_G {m T g : Nat} {l : List Nd} {us : List Tk} (hg10 : g ≤ 10) (h1 : 1 ≤ l.length) (h4 : l.length ≤ 4) (h : ∀ e ∈ l, okW e ∧ (dpr e).1 ≤ m ∧ T40 (tokN e) ∧ okP e) (hl : wL l + (if g = 4 then 4 else 5) + 3 * us.length ≤ 3 * T) : PG (m + 1) T (callN g l) us := by
  have cl : ∀ ls : List (List (List Nat)), (callT g ls).length = (if g = 4 then 2 else 3) + (commaT ls).length := fun ls => by
    unfold callT
    rw [List.length_append, List.length_cons, List.length_append, List.length_cons, List.length_nil]
    split <;> simp <;> omega
  have sp : (if g = 4 then 4 else 5) = (if g = 4 then 2 else 3) + 2 := by split <;> rfl
  rw [sp] at hl
  generalize (if g = 4 then 2 else 3) = z at *
  have hn : wL ([] : List Nd) = 0 := rfl
  have hc : ∀ (e : Nd) r, wL (e :: r) = ((tokN e).length + 1) + wL r := fun e r => by
    unfold wL
    rw [List.map_cons, List.sum_cons]
  match l with
  | [] => exact absurd h1 (by simp)
  | [a] =>
    obtain ⟨a1, a2, a3, a4⟩ := h a (by simp)
    rw [hc, hn] at hl
    refine ⟨a1, by show 1 + (dpr a).1 ≤ _; omega, ?_, T40.call (by simpa using a3), hg10, a4⟩
    show (callT g [tokN a]).length + 2 + _ ≤ _
    rw [cl]
    show z + (tokN a).length + 2 + _ ≤ _
    omega
  | [a, b] =>
    obtain ⟨a1, a2, a3, a4⟩ := h a (by simp)
    obtain ⟨b1, b2, b3, b4⟩ := h b (by simp)
    rw [hc, hc, hn] at hl
    refine ⟨⟨a1, b1⟩, by show 1 + max (dpr a).1 (dpr b).1 ≤ _; omega, ?_, T40.call (by simpa using ⟨a3, b3⟩), hg10, a4, b4⟩
    show (callT g [tokN a, tokN b]).length + 2 + _ ≤ _
    rw [cl]
    show z + (tokN a ++ [44] :: tokN b).length + 2 + _ ≤ _
    rw [List.length_append, List.length_cons]
    omega
  | [a, b, c] =>
    obtain ⟨a1, a2, a3, a4⟩ := h a (by simp)
    obtain ⟨b1, b2, b3, b4⟩ := h b (by simp)
    obtain ⟨c1, c2, c3, c4⟩ := h c (by simp)
    rw [hc, hc, hc, hn] at hl
    refine ⟨⟨a1, b1, c1⟩, by show 1 + max (dpr a).1 (max (dpr b).1 (dpr c).1) ≤ _; omega, ?_, T40.call (by simpa using ⟨a3, b3, c3⟩), hg10, a4, b4, c4⟩
    show (callT g [tokN a, tokN b, tokN c]).length + 2 + _ ≤ _
    rw [cl]
    show z + (tokN a ++ [44] :: (tokN b ++ [44] :: tokN c)).length + 2 + _ ≤ _
    rw [List.length_append, List.length_cons, List.length_append, List.length_cons]
    omega
  | [a, b, c, d] =>
    obtain ⟨a1, a2, a3, a4⟩ := h a (by simp)
    obtain ⟨b1, b2, b3, b4⟩ := h b (by simp)
    obtain ⟨c1, c2, c3, c4⟩ := h c (by simp)
    obtain ⟨d1, d2, d3, d4⟩ := h d (by simp)
    rw [hc, hc, hc, hc, hn] at hl
    refine ⟨⟨a1, b1, c1, d1⟩, by show 1 + max (dpr a).1 (max (dpr b).1 (max (dpr c).1 (dpr d).1)) ≤ _; omega, ?_, T40.call (by simpa using ⟨a3, b3, c3, d3⟩), hg10, a4, b4, c4, d4⟩
    show (callT g [tokN a, tokN b, tokN c, tokN d]).length + 2 + _ ≤ _
    rw [cl]
    show z + (tokN a ++ [44] :: (tokN b ++ [44] :: (tokN c ++ [44] :: tokN d))).length + 2 + _ ≤ _
    rw [List.length_append, List.length_cons, List.length_append, List.length_cons, List.length_append, List.length_cons]
    omega
  | a :: b :: c :: d :: e :: r => exact absurd h4 (by simp)
theorem look_mem {tab : List (Str × Str)} {P : Str → Prop} (h : ∀ p ∈ tab, P p.2) {x k : Str} (e : tab.lookup x = some k) : P k := by
  induction tab with
  | nil => cases e
  | cons p r ih =>
    rw [List.lookup_cons] at e
    split at e
    · cases e
      exact h p List.mem_cons_self
    · exact ih (fun q hq => h q (List.mem_cons_of_mem _ hq)) e
theorem sum_ks {x k : Str} (e : SUMT.lookup x = some k) : 1 ≤ k.cps.toList.length ∧ k.cps.toList.length ≤ 4 := look_mem (P := fun k => 1 ≤ k.cps.toList.length ∧ k.cps.toList.length ≤ 4) (by decide +kernel) e
theorem pl_ks {x k : Str} (e : PLT.lookup x = some k) : 1 ≤ k.cps.toList.length ∧ k.cps.toList.length ≤ 4 := look_mem (P := fun k => 1 ≤ k.cps.toList.length ∧ k.cps.toList.length ≤ 4) (by decide +kernel) e
theorem partsP_G {m T g : Nat} {lv : Lv} (L : LvS lv) (G : LvG m lv) {ks : List Nat} {ts us : List Tk} {e : Nd} (hg10 : g ≤ 10) (hk : 1 ≤ ks.length ∧ ks.length ≤ 4) (hg : Good ts) (h : partsP lv ks [] g ts = .ok e us) (hT : ts.length + (if g = 4 then 1 else 2) ≤ T) : PG (m + 1) T e us := by
  unfold partsP at h
  obtain ⟨l, vs, e1, h⟩ := bind_ok h
  obtain ⟨_, ws, e2, h⟩ := bind_ok h
  cases h
  obtain ⟨i1, i2⟩ := partsL_G L G ks true [] ts vs l hg e1 fun e he => absurd he (by simp)
  have := need_len e2
  have h0 : wL ([] : List Nd) = 0 := rfl
  have hll := partsL_len e1
  rw [List.length_nil, Nat.zero_add] at hll
  refine call_G hg10 (by omega) (by omega) i1 ?_
  by_cases g4 : g = 4
  · rw [if_pos g4] at hT ⊢
    omega
  · rw [if_neg g4] at hT ⊢
    omega
theorem dig_len {a d : Bytes} (ha : a.length ≤ 18) (hd : d.length ≤ 18) (hdig : ∀ c ∈ a, SeamPattern.isDigit c = true) : (digP (if d = [] then nb a else nb a ++ 46 :: nb d)).length ≤ 40 := by
  obtain ⟨n1, n2⟩ := num_cut (d := d) hdig
  have h1 := lz_len 48 (nb a)
  have h2 := rz_len 48 (nb d)
  rw [nb_len] at h1 h2
  unfold digP
  rw [n1, n2]
  generalize lz 48 (nb a) = x at *
  generalize rz 48 (nb d) = y at *
  have hx : (if x = [] then ([48] : List Nat) else x).length ≤ 19 := by
    split
    · exact Nat.le_of_ble_eq_true rfl
    · omega
  split
  · omega
  · rw [List.length_append, List.length_cons]
    omega
theorem fac_G {m : Nat} {go : Bool} {lv : Lv} (L : LvS lv) (G : LvG m lv) {ts us : List Tk} {e : Nd} (hg : Good ts) (h : facM go lv ts = .ok e us) : PG (m + 1) ts.length e us := by
  cases ts with
  | nil => cases h
  | cons t r =>
    obtain ⟨fam, text, place⟩ := t
    have hr := hg.tail
    unfold facM at h
    dsimp only at h
    rw [List.length_cons]
    split at h
    · rename_i hf
      subst hf
      cases h
      obtain ⟨_, b, e, hb⟩ := (hg.head : text ∉ WL ∧ ∃ b : Bytes, text = nb b ∧ SeamText.nameFine b = true)
      refine ⟨trivial, Nat.le_add_left _ _, by show 1 + 2 + _ ≤ _; omega, .cons ?_ .nil, hg.head⟩
      unfold SeamText.nameFine at hb
      rw [Bool.and_eq_true, Bool.and_eq_true, decide_eq_true_eq, decide_eq_true_eq] at hb
      have : b.length ≤ 16 := hb.2.1
      rw [show text = _ from e, nb_len]
      omega
    · split at h
      · rename_i hf
        subst hf
        cases h
        obtain ⟨a, d, ha0, ha1, hd1, ha, hd, et⟩ := (hg.head : ∃ a d : Bytes, a ≠ [] ∧ a.length ≤ 18 ∧ d.length ≤ 18 ∧ (∀ c ∈ a, SeamPattern.isDigit c = true) ∧ (∀ c ∈ d, SeamPattern.isDigit c = true) ∧ text = if d = [] then nb a else nb a ++ 46 :: nb d)
        refine ⟨?_, Nat.le_add_left _ _, by show 1 + 2 + _ ≤ _; omega, .cons ?_ .nil, hg.head⟩
        · show text.length ≤ 5000
          rw [show text = _ from et]
          split
          · rw [nb_len]; omega
          · rw [List.length_append, List.length_cons, nb_len, nb_len]; omega
        · rw [show text = _ from et]
          exact dig_len ha1 hd1 ha
      · cases go with
        | false =>
          split at h
          · cases h
          · split at h
            · cases h
            · split at h <;> cases h
        | true =>
          split at h
          · replace h : (lv.fac r).bind (fun a us => .ok (Nd.neg a) us) = .ok e us := h
            obtain ⟨a, vs, e1, h⟩ := bind_ok h
            cases h
            have p := G.fac r hr a us e1
            have p1 := p.dep
            have p2 := p.len
            refine ⟨p.ok, by show 1 + (dpr a).1 ≤ _; omega, ?_, .cons (by simp) p.sh.brk, p.pr⟩
            show ([45] :: brkT (wordE a) ["sum", "product"] (tokN a)).length + 2 + _ ≤ _
            have := (brk_len (w := wordE a) (ws := ["sum", "product"]) (l := tokN a)).2
            rw [List.length_cons]
            omega
          · split at h
            · replace h : (lv.sum r).bind (fun a us => (needM ")" us).bind fun _ us => .ok a us) = .ok e us := h
              obtain ⟨a, vs, e1, h⟩ := bind_ok h
              obtain ⟨_, ws, e2, h⟩ := bind_ok h
              cases h
              have p := G.sum r hr e vs e1
              have p1 := p.dep
              have p2 := p.len
              have := need_len e2
              exact ⟨p.ok, by omega, by omega, p.sh, p.pr⟩
            · split at h
              · cases h
              · rename_i k hlk
                rw [parts_P] at h
                obtain ⟨_, vs, e1, h⟩ := bind_ok h
                have := need_len e1
                refine partsP_G L G (fnNo_le _) (sum_ks hlk) (Good.of (sfx_need _) hr e1) h ?_
                split <;> omega
theorem pl_G {m : Nat} {go : Bool} {lv : Lv} (L : LvS lv) (G : LvG m lv) {ts us : List Tk} {e : Nd} (hg : Good ts) (h : plM go lv ts = .ok e us) : PG (m + 1) ts.length e us := by
  cases ts with
  | nil => cases h
  | cons t r =>
    obtain ⟨fam, text, place⟩ := t
    have hr := hg.tail
    unfold plM at h
    dsimp only at h
    rw [List.length_cons]
    split at h
    · rename_i hf
      subst hf
      cases h
      obtain ⟨_, b, e, hb⟩ := (hg.head : text ∉ WL ∧ ∃ b : Bytes, text = nb b ∧ SeamText.nameFine b = true)
      refine ⟨trivial, Nat.le_add_left _ _, by show 1 + 2 + _ ≤ _; omega, .cons ?_ .nil, hg.head⟩
      unfold SeamText.nameFine at hb
      rw [Bool.and_eq_true, Bool.and_eq_true, decide_eq_true_eq, decide_eq_true_eq] at hb
      have : b.length ≤ 16 := hb.2.1
      rw [show text = _ from e, nb_len]
      omega
    · cases go with
      | false =>
        split at h
        · cases h
        · split at h <;> cases h
      | true =>
        split at h
        · rw [pair_P] at h
          exact partsP_G L G (by decide) (by decide) hr h (by rw [if_pos rfl]; exact Nat.le_refl _)
        · split at h
          · cases h
          · rename_i k hlk
            rw [parts_P] at h
            obtain ⟨_, vs, e1, h⟩ := bind_ok h
            have := need_len e1
            refine partsP_G L G (fnNo_le _) (pl_ks hlk) (Good.of (sfx_need _) hr e1) h ?_
            split <;> omega
theorem row_G {m T : Nat} {c1 c2 : Str} {k : Bool} {it : List Tk → Pr Nd} (hs : Sfx it) (hi : ∀ ts, Good ts → ∀ e us, it ts = .ok e us → PG m ts.length e us) (hk : ∀ t, TkG t → (saysN t c1 || saysN t c2) = true → ∃ c, t.text = [c] ∧ isAdd c = k ∧ c ∈ [43, 45, 42, 47]) :
    ∀ (g : Nat) (a : Nd) (j : Bool) (ts us : List Tk) (e : Nd), Good ts → rowM c1 c2 it g a j ts = .ok e us → okW a → (if j = true then (dpr a).2 else (dpr a).1) ≤ m → (dpr a).1 ≤ m + 1 → (j = true → ∃ c' j' a' b', a = .op c' j' a' b' ∧ isAdd c' = k) → (tokN a).length + 2 + 3 * ts.length ≤ 3 * T → T40 (tokN a) → okP a → PG (m + 1) T e us
  | 0, a, j, ts, us, e, _, h, _, _, _, _, _, _, _ => by cases h
  | g + 1, a, j, [], us, e, _, h, _, _, _, _, _, _, _ => by cases h
  | g + 1, a, j, t :: r, us, e, hg, h, ok, h1, h2, h3, h4, h5, h6 => by
    unfold rowM at h
    split at h
    · rename_i hsay
      obtain ⟨c, hc, hka, hcm⟩ := hk t hg.head hsay
      obtain ⟨b, vs, e1, h⟩ := bind_ok h
      have p := hi r hg.tail b vs e1
      have p1 := p.dep
      have p2 := p.len
      rw [hc] at h
      rw [List.length_cons] at h4
      have hmax : max (if j = true then (dpr a).2 else (dpr a).1) (dpr b).1 ≤ m := Nat.max_le.mpr ⟨h1, p1⟩
      have hd1 : (dpr (.op c j a b)).2 ≤ m := hmax
      have hd2 : (dpr (.op c j a b)).1 ≤ m + 1 := by show 1 + max _ _ ≤ _; omega
      have hL : (if j = true then tokN a else brkT (wordE a) (w0 c) (tokN a)).length ≤ (tokN a).length + 2 := by
        split
        · omega
        · exact brk_len.2
      have hb := (brk_len (w := wordE b) (ws := w1 c) (l := tokN b)).2
      refine row_G hs hi hk g (.op c j a b) true vs us e (Good.of hs hg.tail e1) h ⟨ok, p.ok, fun hj => ?_⟩ (by rw [if_pos rfl]; exact hd1) hd2 (fun _ => ⟨c, j, a, b, rfl, hka⟩) ?_ ?_ ⟨hcm, h6, p.pr⟩
      · obtain ⟨c', j', a', b', e', hk'⟩ := h3 hj
        exact ⟨c', j', a', b', e', by rw [hk', hka]⟩
      · show ((if j = true then tokN a else brkT (wordE a) (w0 c) (tokN a)) ++ [c] :: brkT (wordE b) (w1 c) (tokN b)).length + 2 + _ ≤ _
        rw [List.length_append, List.length_cons]
        omega
      · refine T40.app ?_ (.cons (by simp) p.sh.brk)
        split
        · exact h5
        · exact h5.brk
    · cases h
      exact ⟨ok, h2, h4, h5, h6⟩
theorem says_kind {t : Tk} (h : TkG t) {c d : Nat} (hc : c ∈ sgns) (hd : d ∈ sgns) {k : Bool} (h1 : isAdd c = k) (h2 : isAdd d = k) (h3 : c ∈ [43, 45, 42, 47]) (h4 : d ∈ [43, 45, 42, 47]) (e : (saysN t (S [c]) || saysN t (S [d])) = true) : ∃ c, t.text = [c] ∧ isAdd c = k ∧ c ∈ [43, 45, 42, 47] := by
  rw [Bool.or_eq_true] at e
  rcases e with e | e
  · unfold saysN at e
    rw [Bool.and_eq_true, decide_eq_true_eq, decide_eq_true_eq] at e
    exact ⟨c, S_inj e.2, h1, h3⟩
  · unfold saysN at e
    rw [Bool.and_eq_true, decide_eq_true_eq, decide_eq_true_eq] at e
    exact ⟨d, S_inj e.2, h2, h4⟩
theorem prod_G {m : Nat} {it : List Tk → Pr Nd} (hs : Sfx it) (hi : ∀ ts, Good ts → ∀ e us, it ts = .ok e us → PG m ts.length e us) {ts us : List Tk} {e : Nd} (hg : Good ts) (h : prodM it ts = .ok e us) : PG (m + 1) ts.length e us := by
  unfold prodM at h
  obtain ⟨a, vs, e1, h⟩ := bind_ok h
  have p := hi ts hg a vs e1
  exact row_G hs hi (fun t ht hsay => says_kind (c := 42) (d := 47) ht (by decide) (by decide) rfl rfl (by decide) (by decide) hsay) _ a false vs us e (Good.of hs hg e1) h p.ok (by rw [if_neg Bool.false_ne_true]; exact p.dep) (by have := p.dep; omega) (fun z => nomatch z) p.len p.sh p.pr
theorem sum_G {m : Nat} {it : List Tk → Pr Nd} (hs : Sfx it) (hi : ∀ ts, Good ts → ∀ e us, it ts = .ok e us → PG m ts.length e us) {ts us : List Tk} {e : Nd} (hg : Good ts) (h : sumM it ts = .ok e us) : PG (m + 1) ts.length e us := by
  unfold sumM at h
  obtain ⟨a, vs, e1, h⟩ := bind_ok h
  have p := hi ts hg a vs e1
  exact row_G hs hi (fun t ht hsay => says_kind (c := 43) (d := 45) ht (by decide) (by decide) rfl rfl (by decide) (by decide) hsay) _ a false vs us e (Good.of hs hg e1) h p.ok (by rw [if_neg Bool.false_ne_true]; exact p.dep) (by have := p.dep; omega) (fun z => nomatch z) p.len p.sh p.pr
theorem lvG : ∀ n, LvG (3 * n) (lvl n)
  | 0 => ⟨fun _ _ _ _ h => (by cases h), fun _ _ _ _ h => (by cases h), fun _ _ _ _ h => (by cases h)⟩
  | n + 1 => by
    have f : ∀ ts, Good ts → ∀ e us, (lvl (n + 1)).fac ts = .ok e us → PG (3 * n + 1) ts.length e us := fun ts hg e us h => fac_G (lvS n) (lvG n) hg h
    have p : ∀ ts, Good ts → ∀ e us, prodM (lvl (n + 1)).fac ts = .ok e us → PG (3 * n + 2) ts.length e us := fun ts hg e us h => prod_G (lvS (n + 1)).fac f hg h
    exact ⟨fun ts hg e us h => (f ts hg e us h).mono (by omega) (Nat.le_refl _), fun ts hg e us h => (sum_G (sfx_prod (lvS (n + 1)).fac) p hg h).mono (by omega) (Nat.le_refl _), fun ts hg e us h => (pl_G (lvS n) (lvG n) hg h).mono (by omega) (Nat.le_refl _)⟩
/-! ### statements -/
theorem name_G {ts us : List Tk} {b : List Nat} (hg : Good ts) (h : nameM ts = .ok b us) : b.length ≤ 40 ∧ us.length + 1 = ts.length ∧ TkG ⟨.name, b, 0⟩ := by
  cases ts with
  | nil => cases h
  | cons t r =>
    obtain ⟨fam, text, place⟩ := t
    unfold nameM at h
    dsimp only at h
    split at h
    · rename_i hf
      subst hf
      cases h
      obtain ⟨_, b', e, hb⟩ := (hg.head : b ∉ WL ∧ ∃ b' : Bytes, b = nb b' ∧ SeamText.nameFine b' = true)
      unfold SeamText.nameFine at hb
      rw [Bool.and_eq_true, Bool.and_eq_true, decide_eq_true_eq, decide_eq_true_eq] at hb
      have : b'.length ≤ 16 := hb.2.1
      refine ⟨?_, rfl, hg.head⟩
      rw [show b = _ from e, nb_len]
      omega
    · cases h
theorem corn_G : ∀ (g : Nat) (acc : List (List Nat)) (ts us : List Tk) (cs : List (List Nat)), Good ts → cornersM g acc ts = .ok cs us → acc.length + g = 17 → acc.length ≤ 16 → T40 acc → (∀ n ∈ acc, TkG ⟨.name, n, 0⟩) → cs.length ≤ 16 ∧ T40 cs ∧ us.length ≤ ts.length ∧ ∀ n ∈ cs, TkG ⟨.name, n, 0⟩
  | 0, acc, ts, us, cs, _, h, _, _, _, _ => by cases h
  | g + 1, acc, ts, us, cs, hg, h, hl, h16, ha, hp => by
    have step : ∀ ts, Good ts → acc.length < 16 → ((needM "," ts).bind fun _ us => (nameM us).bind fun n us => cornersM g (acc ++ [n]) us) = .ok cs us → cs.length ≤ 16 ∧ T40 cs ∧ us.length ≤ ts.length ∧ ∀ n ∈ cs, TkG ⟨.name, n, 0⟩ := fun ts hg hlt h => by
      obtain ⟨_, vs, e1, h⟩ := bind_ok h
      obtain ⟨n, ws, e2, h⟩ := bind_ok h
      have g1 := Good.of (sfx_need _) hg e1
      obtain ⟨n1, n2, n3⟩ := name_G g1 e2
      have := need_len e1
      obtain ⟨i1, i2, i3, i4⟩ := corn_G g (acc ++ [n]) ws us cs (Good.of sfx_name g1 e2) h (by rw [List.length_append, List.length_cons, List.length_nil]; omega) (by rw [List.length_append, List.length_cons, List.length_nil]; omega) (ha.app (.cons n1 .nil)) (fun x hx => by
        rcases List.mem_append.mp hx with hx | hx
        · exact hp x hx
        · have := List.mem_singleton.mp hx
          subst this
          exact n3)
      exact ⟨i1, i2, by omega, i4⟩
    unfold cornersM at h
    split at h
    · exact step ts hg (by omega) h
    · split at h
      · obtain ⟨b, vs, e1, h2⟩ := bind_ok h
        have ev : vs = ts := by
          cases ts with
          | nil => cases e1
          | cons t r => cases e1; rfl
        rw [ev] at h2
        clear h
        split at h2
        · exact step ts hg (by omega) h2
        · cases h2
          exact ⟨h16, ha, Nat.le_refl _, hp⟩
      · cases h
        exact ⟨h16, ha, Nat.le_refl _, hp⟩
/-- what the printer's law wants of a statement -/
def okS : Stt → Prop
  | .let_ n e => TkG ⟨.name, n, 0⟩ ∧ okP e
  | .point n e => TkG ⟨.name, n, 0⟩ ∧ okP e
  | .piece n cs g h => TkG ⟨.name, n, 0⟩ ∧ (∀ c ∈ cs, TkG ⟨.name, c, 0⟩) ∧ TkG ⟨.name, g, 0⟩ ∧ TkG ⟨.name, h, 0⟩
  | .seam l => l.length = 6 ∧ ∀ c ∈ l, TkG ⟨.name, c, 0⟩
/-- a statement's parse -/
structure SG (T : Nat) (s : Stt) (us : List Tk) : Prop where
  ok : okT 18 s
  len : (stT s).length + 3 * us.length ≤ 3 * T + 40
  sh : T40 (stT s)
  pr : okS s
theorem st_G {ts us : List Tk} {s : Stt} (hg : Good ts) (hT : ts.length ≤ 10000) (h : stM ts = .ok s us) : SG ts.length s us := by
  cases ts with
  | nil => cases h
  | cons t r =>
    have hr := hg.tail
    unfold stM at h
    dsimp only at h
    rw [List.length_cons] at hT ⊢
    have e5 : ∀ {st : Stt} {vs : List Tk}, stEnd st vs = .ok s us → s = st ∧ us.length + 1 = vs.length := fun {st vs} h => by
      unfold stEnd at h
      obtain ⟨_, ws, e1, h⟩ := bind_ok h
      cases h
      exact ⟨rfl, need_len e1⟩
    have given : ∀ {n : List Nat} {vs : List Tk}, givenM r = .ok n vs → n.length ≤ 40 ∧ vs.length + 2 = r.length ∧ Good vs ∧ TkG ⟨.name, n, 0⟩ := fun {n vs} h => by
      unfold givenM at h
      obtain ⟨n', ws, e1, h⟩ := bind_ok h
      obtain ⟨_, xs, e2, h⟩ := bind_ok h
      cases h
      have g1 := Good.of sfx_name hr e1
      obtain ⟨n1, n2, n3⟩ := name_G hr e1
      have := need_len e2
      exact ⟨n1, by omega, Good.of (sfx_need _) g1 e2, n3⟩
    have en : ∀ (w n : List Nat) (e : Nd), w.length ≤ 40 → n.length ≤ 40 → T40 (tokN e) → T40 ([w, n, [61]] ++ tokN e ++ [[59]]) := fun w n e hw hn he => (T40.app (.cons hw (.cons hn (.cons (by simp) .nil))) he).app (.cons (by simp) .nil)
    split at h
    · split at h
      · obtain ⟨n, vs, e1, h⟩ := bind_ok h
        obtain ⟨e, ws, e2, h⟩ := bind_ok h
        obtain ⟨rfl, h3⟩ := e5 h
        obtain ⟨n1, n2, n3, n4⟩ := given e1
        have p := (lvG 6).sum vs n3 e ws e2
        have p2 := p.len
        refine ⟨⟨p.ok, p.dep, by omega⟩, ?_, en letT n e (by simp) n1 p.sh, n4, p.pr⟩
        show ([letT, n, [61]] ++ tokN e ++ [[59]]).length + _ ≤ _
        simp only [List.length_append, List.length_cons, List.length_nil]
        omega
      · split at h
        · obtain ⟨n, vs, e1, h⟩ := bind_ok h
          obtain ⟨e, ws, e2, h⟩ := bind_ok h
          obtain ⟨rfl, h3⟩ := e5 h
          obtain ⟨n1, n2, n3, n4⟩ := given e1
          have p := (lvG 6).pl vs n3 e ws e2
          have p2 := p.len
          refine ⟨⟨p.ok, p.dep, by omega⟩, ?_, en pointT n e (by simp) n1 p.sh, n4, p.pr⟩
          show ([pointT, n, [61]] ++ tokN e ++ [[59]]).length + _ ≤ _
          simp only [List.length_append, List.length_cons, List.length_nil]
          omega
        · split at h
          · unfold pieceM at h
            simp only [bind_assoc] at h
            obtain ⟨n, u1, e1, h⟩ := bind_ok h
            obtain ⟨n1, l1, m1⟩ := name_G hr e1
            have g1 := Good.of sfx_name hr e1
            obtain ⟨_, u2, e2, h⟩ := bind_ok h
            have l2 := need_len e2
            have g2 := Good.of (sfx_need _) g1 e2
            obtain ⟨c, u3, e3, h⟩ := bind_ok h
            obtain ⟨n3, l3, m3⟩ := name_G g2 e3
            have g3 := Good.of sfx_name g2 e3
            obtain ⟨cs, u4, e4, h⟩ := bind_ok h
            obtain ⟨k1, k2, k3, k4⟩ := corn_G 16 [c] u3 u4 cs g3 e4 rfl (by simp) (.cons n3 .nil) (by simpa using m3)
            have g4 := Good.of (sfx_corners _ _) g3 e4
            unfold pieceEnd at h
            simp only [bind_assoc] at h
            obtain ⟨_, u5, e5', h⟩ := bind_ok h
            have l5 := need_len e5'
            have g5 := Good.of (sfx_need _) g4 e5'
            obtain ⟨_, u6, e6, h⟩ := bind_ok h
            have l6 := need_len e6
            have g6 := Good.of (sfx_need _) g5 e6
            obtain ⟨a, u7, e7, h⟩ := bind_ok h
            obtain ⟨n7, l7, m7⟩ := name_G g6 e7
            have g7 := Good.of sfx_name g6 e7
            obtain ⟨b, u8, e8, h⟩ := bind_ok h
            obtain ⟨n8, l8, m8⟩ := name_G g7 e8
            obtain ⟨rfl, l9⟩ := e5 h
            have hcl := comma_ones cs
            refine ⟨show cs.length ≤ 1000 by omega, ?_, ?_, m1, k4, m7, m8⟩
            · show ([pieceT, n, [40]] ++ commaT (cs.map fun c => [c]) ++ [[41], grainT, a, b, [59]]).length + _ ≤ _
              simp only [List.length_append, List.length_cons, List.length_nil]
              omega
            · refine (T40.app (.cons (by simp) (.cons n1 (.cons (by simp) .nil))) (T40.comma fun l hl => ?_)).app (.cons (by simp) (.cons (by simp) (.cons n7 (.cons n8 (.cons (by simp) .nil)))))
              obtain ⟨c, hc, rfl⟩ := List.mem_map.mp hl
              exact .cons (k2 c hc) .nil
          · unfold seamM names3 at h
            simp only [bind_assoc] at h
            obtain ⟨a1, u1, e1, h⟩ := bind_ok h
            obtain ⟨n1, l1, m1⟩ := name_G hr e1
            have g1 := Good.of sfx_name hr e1
            obtain ⟨a2, u2, e2, h⟩ := bind_ok h
            obtain ⟨n2, l2, m2⟩ := name_G g1 e2
            have g2 := Good.of sfx_name g1 e2
            obtain ⟨a3, u3, e3, h⟩ := bind_ok h
            obtain ⟨n3, l3, m3⟩ := name_G g2 e3
            have g3 := Good.of sfx_name g2 e3
            replace h : (needM "," u3).bind _ = _ := h
            obtain ⟨_, u4, e4, h⟩ := bind_ok h
            have l4 := need_len e4
            have g4 := Good.of (sfx_need _) g3 e4
            obtain ⟨a5, u5, e5', h⟩ := bind_ok h
            obtain ⟨n5, l5, m5⟩ := name_G g4 e5'
            have g5 := Good.of sfx_name g4 e5'
            obtain ⟨a6, u6, e6, h⟩ := bind_ok h
            obtain ⟨n6, l6, m6⟩ := name_G g5 e6
            have g6 := Good.of sfx_name g5 e6
            obtain ⟨a7, u7, e7, h⟩ := bind_ok h
            obtain ⟨n7, l7, m7⟩ := name_G g6 e7
            replace h : stEnd (.seam ([a1, a2, a3] ++ [a5, a6, a7])) u7 = .ok s us := h
            obtain ⟨rfl, l9⟩ := e5 h
            refine ⟨show 6 ≤ 1000 by omega, ?_, ?_, rfl, ?_⟩
            · show 9 + _ ≤ _
              omega
            · exact .cons (by simp) (.cons n1 (.cons n2 (.cons n3 (.cons (by simp) (.cons n5 (.cons n6 (.cons n7 (.cons (by simp) .nil))))))))
            · intro c hc
              simp only [List.cons_append, List.nil_append, List.mem_cons, List.not_mem_nil, or_false] at hc
              rcases hc with rfl | rfl | rfl | rfl | rfl | rfl <;> assumption
    · cases h
def totT (l : List Stt) : Nat := (l.map fun s => (stT s).length).sum
theorem totT_app (a b : List Stt) : totT (a ++ b) = totT a + totT b := by
  unfold totT
  rw [List.map_append, List.sum_append]
theorem tot_mem {s : Stt} : ∀ {l : List Stt}, s ∈ l → (stT s).length ≤ totT l
  | x :: r, h => by
    have e : totT (x :: r) = (stT x).length + totT r := by
      unfold totT
      rw [List.map_cons, List.sum_cons]
    rcases List.mem_cons.mp h with rfl | h
    · omega
    · have := tot_mem h
      omega
theorem sts_G (ek : Nat) : ∀ (f : Nat) (acc : List Stt) (ts us : List Tk) (l : List Stt), Good ts → ts.length ≤ 10000 → stsM ek f acc ts = .ok l us → (∀ s ∈ acc, okT 18 s ∧ T40 (stT s) ∧ okS s) → acc.length ≤ 128 →
    (∀ s ∈ l, okT 18 s ∧ T40 (stT s) ∧ okS s) ∧ l.length ≤ 128 ∧ totT l + 40 * acc.length ≤ totT acc + 3 * ts.length + 40 * l.length
  | 0, acc, ts, us, l, _, _, h, _, _ => by cases h
  | f + 1, acc, ts, us, l, hg, hT, h, ha, hl => by
    unfold stsM at h
    split at h
    · cases h
      exact ⟨ha, hl, by omega⟩
    · obtain ⟨_, vs, e1, h2⟩ := bind_ok h
      have hb0 := allow_go e1
      have hb := of_decide_eq_true hb0
      have ev : vs = ts := by
        rw [hb0] at e1
        cases ts with
        | nil => cases e1
        | cons t r => cases e1; rfl
      rw [ev] at h2
      clear h
      obtain ⟨s, ws, e2, h⟩ := bind_ok h2
      have p := st_G hg hT e2
      have hw := stM_less e2
      obtain ⟨i1, i2, i3⟩ := sts_G ek f (acc ++ [s]) ws us l (Good.of sfx_st hg e2) (by omega) h (fun x hx => by
        rcases List.mem_append.mp hx with hx | hx
        · exact ha x hx
        · have := List.mem_singleton.mp hx
          subst this
          exact ⟨p.ok, p.sh, p.pr⟩) (by rw [List.length_append, List.length_cons, List.length_nil]; omega)
      refine ⟨i1, i2, ?_⟩
      have h1 : totT [s] = (stT s).length := rfl
      rw [totT_app, List.length_append, List.length_cons, List.length_nil] at i3
      have := p.len
      omega
theorem chW_le {l : List (List Nat)} (h : T40 l) : chW l ≤ 41 * l.length := by
  induction l with
  | nil => exact Nat.le_refl _
  | cons t r ih =>
    have h1 := h t List.mem_cons_self
    have h2 := ih fun x hx => h x (List.mem_cons_of_mem _ hx)
    unfold chW at h2 ⊢
    rw [List.map_cons, List.sum_cons, List.length_cons]
    omega
theorem sgs_of (l : List Nat) : l.map sg = sgs (bb (l.map sg)) := by
  have e : nb (bb (l.map sg)) = l.map sg := by
    unfold nb bb
    rw [List.map_map, List.map_map]
    refine List.map_congr_left fun c _ => ?_
    show (UInt8.ofNat (sg c)).toNat = sg c
    rw [UInt8.toNat_ofNat', Nat.mod_eq_of_lt (sg_lt c)]
  unfold sgs
  rw [e, List.map_map]
  refine List.map_congr_left fun c _ => ?_
  show sg c = sg (sg c)
  have all : ∀ x ∈ 9 :: LI, sg x = x := by decide +kernel
  refine (all _ ?_).symm
  unfold sg
  split
  · rename_i h
    exact List.mem_cons_of_mem _ h
  · exact List.mem_cons_self
theorem dr_ok {b : List Nat} (hb : b.length ≤ 4096) {l : List Stt} {us : List Tk} (h : stsOf (b.map sg) = .ok l us) : DrOk 18 l ∧ ∀ s ∈ l, okS s := by
  have hlen : (b.map sg).length ≤ 4200 := by rw [List.length_map]; omega
  have hgood : Good (rsOf (b.map sg)).toks := by
    rw [rsOf_toks, sgs_of, sgs_len]
    exact (lex_eq _ _ _).2
  have hok := (rsOf_ok hlen).len
  have ht : (rsOf (b.map sg)).toks.length ≤ 4200 := by
    rw [rsOf_toks]
    have := (tk_place (f := (b.map sg).length + 1) (p := 0) (l := b.map sg)).2.2
    omega
  unfold stsOf at h
  obtain ⟨i1, i2, i3⟩ := sts_G _ _ [] _ us l hgood (by omega) h (fun s hs => absurd hs (by simp)) (by simp)
  have h0 : totT ([] : List Stt) = 0 := rfl
  rw [h0, List.length_nil] at i3
  have key : ∀ l : List Stt, (∀ s ∈ l, T40 (stT s)) → (l.map fun s => chW (stT s) + 1).sum ≤ 41 * totT l + l.length := fun l hl => by
    induction l with
    | nil => exact Nat.le_refl _
    | cons s r ih =>
      have h1 := chW_le (hl s List.mem_cons_self)
      have h2 := ih fun x hx => hl x (List.mem_cons_of_mem _ hx)
      have h3 : totT (s :: r) = (stT s).length + totT r := by
        unfold totT
        rw [List.map_cons, List.sum_cons]
      rw [List.map_cons, List.sum_cons, List.length_cons, h3]
      omega
  have hs := key l fun s hs => (i1 s hs).2.1
  refine ⟨⟨fun s hs => (i1 s hs).1, fun s hm => ?_, by omega, by omega⟩, fun s hs => (i1 s hs).2.2⟩
  have h1 := chW_le (i1 s hm).2.1
  have h2 : (stT s).length ≤ totT l := by
    exact tot_mem hm
  omega
end Sd

set_option Elab.async false
set_option linter.all false
set_option maxRecDepth 100000
set_option maxHeartbeats 4000000
set_option exponentiation.threshold 10000
namespace Sd
open PySem PySem.Spec PyProof.Rows L2
theorem strsT_of {K : PySem.W.Frag} {h : Heap} {mg : Str → Option Value} {x : Str} {ws : List Str} {l : Addr} {od : Option Addr} {osl : Array (Option Value)} {its : Array Value} {n : Nat} (X : K.In h) (G : h.Ns mainGlobals mg) (a : PySem.W.nsIn K mainGlobals x = some (some (.ref l)))
    (o : K.lookup l = some ⟨.type "tuple", od, .seq its n, osl⟩) (hv : Vals (ws.map V.str) its.toList) (hl : ws.length ≤ sizeLine) : StrsT K mg x ws := by
  refine ⟨l, PySem.W.mg_of X G a, fun W H => .tupK ⟨_, _, n, o, rfl, rfl, ?_, hv⟩ ?_⟩
  · have := hv.length
    rw [List.length_map] at this
    show its.size ≤ sizeLine
    rw [← Array.length_toList, ← this]
    exact hl
  · have : ∀ l : List Str, RpL K W H (l.map V.str) (l.map D.str) := fun l => by
      induction l with
      | nil => exact .nil
      | cons x r ih => exact .cons (.str x) ih
    exact this _
section
variable {P : Program} {w : World} {K : PySem.W.Frag} {mg : Str → Option Value} {base : Heap} {Ck Cd Cx Cr : Addr}
theorem Dx.print_of (T : Dx K w mg Ck Cd Cx Cr) (tA : FunT K mg "answer_print" s_answer_print ["t"]) (tT : FunT K mg "told_text" s_told_text ["text"]) (tB : FunT K mg "bytes_of" s_bytes_of ["text"]) (tD : FunT K mg "digits_printed" s_digits_printed ["text"])
    (tBr : FunT K mg "bracketed" s_bracketed ["node", "words"]) (tR : FunT K mg "row_printed" s_row_printed ["parts", "words"]) (tW : FunT K mg "within_printed" s_within_printed ["parts"]) (tI : FunT K mg "tokens_in" s_tokens_in ["node"])
    (tN : FunT K mg "names_printed" s_names_printed ["names"]) (tS : FunT K mg "statement_tokens" s_statement_tokens ["told"]) (tJ : FunT K mg "joined" s_joined ["tokens"]) (tP : FunT K mg "printed" s_printed ["statements"])
    (nL : mg "list" = none) (nI : mg "int" = none) (sN : StrsT K mg "NO_BLANK_AHEAD" NBs) (sG : StrsT K mg "GLUED" GLs)
    {f : Addr} {fd : FuncData} (Fu : Fun K "print_of" "print_of" s_print_of f fd) : FnOk P w K mg base (L2.CX P w) 60 f fd ["t"] (spF K F_print_of) := by
  obtain ⟨fR, fdR, FR, hm, hk, hb⟩ := T.refused (P := P) (w := w) (base := base)
  have tok : FnN P w K mg base "tokens_in" 56 (F_tok 18) := fn_tok_all tI tBr tR tW nL T.n_enum (fn_digits_printed tD) 18
  have stt : FnN P w K mg base "statement_tokens" 57 (F_stt 18) := fn_statement_tokens tS (by decide) tok (fn_names_printed tN T.n_enum nI)
  have prt : FnN P w K mg base "printed" 58 (F_printed 18) := fn_printed tP (by decide) stt (fn_joined tJ sN sG)
  have ttx : FnN P w K mg base "told_text" 2 F_told_text := fn_told_text tT T.n_len (fn_bytes_of tB T.n_ord) T.told
  have ans : FnC P w K mg base "answer_print" 59 (F_answer_print Cr) := fn_answer_print tA (by decide) (by decide) (fun b hb l us h => (dr_ok hb h).1) T.want_short T.draft_in prt ttx
  exact fn_print_of (by decide) Fu ans FR hm hk hb T.gr T.rC.exm
end
end Sd

set_option Elab.async false
set_option linter.all false
set_option maxRecDepth 100000
set_option maxHeartbeats 4000000
set_option exponentiation.threshold 10000
namespace Sd
open PySem PySem.Spec PyProof.Rows L2
theorem draft_eq (b : Bytes) : SeamText.readDraft b = match stsOf (sgs b) with
    | .ok l _ => .ok (l.map stE)
    | .bad ts => .error (fltK (rsOf (sgs b)) ts) := by
  obtain ⟨e1, g1⟩ := lex_eq (b.length + 1) 0 b
  have eT := rsOf_toks (sgs b)
  rw [sgs_len] at eT
  have j := sts_rel (rsOf (sgs b)).ek ((rsOf (sgs b)).toks.length + 1) 128 [] (rsOf (sgs b)).toks (Nat.lt_succ_self _) (by rw [eT]; exact g1) rfl
  unfold SeamText.readDraft stsOf
  dsimp only
  rw [e1]
  dsimp only
  have ek : (rsOf (sgs b)).ek = (match (lexN (b.length + 1) 0 (sgs b)).2 with | some _ => 1 | none => 2) ∧ (rsOf (sgs b)).ep = (match (lexN (b.length + 1) 0 (sgs b)).2 with | some p => p | none => b.length) := by
    unfold rsOf
    rw [sgs_len]
    cases (lexN (b.length + 1) 0 (sgs b)).2 <;> exact ⟨rfl, rfl⟩
  rw [eT] at j
  show (match SeamText.statements 128 (tks (lexN (b.length + 1) 0 (sgs b)).1) with
    | .error (some p) => Except.error (2, p)
    | .error none => Except.error (match (lexN (b.length + 1) 0 (sgs b)).2 with | some p => (1, p) | none => (2, b.length))
    | .ok l => match (lexN (b.length + 1) 0 (sgs b)).2 with | some p => Except.error (1, p) | none => Except.ok l) = _
  rw [eT]
  generalize SeamText.statements 128 (tks (lexN (b.length + 1) 0 (sgs b)).1) = z at j
  generalize hm : stsM (rsOf (sgs b)).ek ((lexN (b.length + 1) 0 (sgs b)).1.length + 1) [] (lexN (b.length + 1) 0 (sgs b)).1 = m at j
  cases m with
  | ok l us =>
    obtain ⟨_, j2, l', j3, j4⟩ := j
    rw [j2] at ek
    rw [j4, j3, List.nil_append]
    dsimp only
    cases e : (lexN (b.length + 1) 0 (sgs b)).2 with
    | none => rfl
    | some p =>
      rw [e] at ek
      have := ek.1
      cases this
  | bad ts =>
    cases ts with
    | nil =>
      show _ = Except.error ((rsOf (sgs b)).ek, (rsOf (sgs b)).ep)
      rw [ek.1, ek.2]
      rcases j with j | ⟨j1, l', j2⟩
      · rw [j]
        dsimp only
        cases (lexN (b.length + 1) 0 (sgs b)).2 <;> rfl
      · rw [j2]
        dsimp only
        rw [ek.1] at j1
        cases e : (lexN (b.length + 1) 0 (sgs b)).2 with
        | none =>
          rw [e] at j1
          exact absurd rfl j1
        | some p => rfl
    | cons t r =>
      have j : z = _ := j
      rw [j]
      rfl
theorem looked_one (b : Bytes) (a : Unit → SeamNum.Answer) : Drafts.looked [b] a = if decide ((nb b).length ≤ 4096) = true then a () else SeamNum.says (-1) := by
  unfold Drafts.looked
  rw [nb_len]
  have e : ([b].any fun (b : Bytes) => decide (Drafts.TEXT < b.length)) = !decide (b.length ≤ 4096) := by
    show (decide (4096 < b.length) || false) = _
    rw [Bool.or_false, ← decide_not]
    exact decide_eq_decide.mpr (by omega)
  rw [e]
  cases decide (b.length ≤ 4096) <;> rfl
end Sd

set_option Elab.async false
set_option linter.all false
set_option maxRecDepth 100000
set_option maxHeartbeats 4000000
set_option exponentiation.threshold 10000
namespace Sd
open PySem PySem.Spec PyProof.Rows L2
/-! # The printer's law -/
/-- a printed token -/
structure TT (l : List Nat) (t : SeamText.Tok) : Prop where
  tx : nb (SeamText.tokText t) = l
  op : l = [40] ↔ t.is = 40
  nbl : S l ∈ NBs ↔ t.is ∈ ([44, 41, 59] : List UInt8)
  gl : S l ∈ GLs ↔ t.fn = true
theorem tight_eq {a b : List Nat} {x y : SeamText.Tok} (hx : TT a x) (hy : TT b y) : tight a b = !SeamText.parting x y := by
  unfold tight SeamText.parting
  rw [Bool.not_not, Bool.eq_iff_iff]
  simp only [Bool.or_eq_true, Bool.and_eq_true, decide_eq_true_eq, beq_iff_eq, List.contains_iff_mem]
  rw [hx.op, hy.nbl, hy.op, hx.gl]
  constructor
  · rintro (h | h | h)
    · exact .inr (.inl h)
    · exact .inl h
    · exact .inr (.inr h)
  · rintro (h | h | h)
    · exact .inr (.inl h)
    · exact .inl h
    · exact .inr (.inr h)
inductive TTs : List (List Nat) → List SeamText.Tok → Prop
  | nil : TTs [] []
  | cons {a : List Nat} {x : SeamText.Tok} {l : List (List Nat)} {m : List SeamText.Tok} : TT a x → TTs l m → TTs (a :: l) (x :: m)
theorem TTs.app {a b : List (List Nat)} {x y : List SeamText.Tok} (h : TTs a x) (k : TTs b y) : TTs (a ++ b) (x ++ y) := by
  induction h with
  | nil => exact k
  | cons h _ ih => exact .cons h ih
theorem joinP_cons (b t : List Nat) (r : List (List Nat)) (acc : List Nat) : joinP b (t :: r) acc = joinP t r (acc ++ (if tight b t = true then [] else [32]) ++ t) := rfl
theorem join_acc : ∀ (ts : List (List Nat)) (b acc : List Nat), joinP b ts acc = acc ++ joinP b ts []
  | [], b, acc => (List.append_nil _).symm
  | t :: r, b, acc => by
    rw [joinP_cons, joinP_cons, join_acc r t (acc ++ _ ++ t), join_acc r t ([] ++ _ ++ t), List.nil_append, List.append_assoc, List.append_assoc, List.append_assoc]
theorem joined_eq : ∀ {l : List (List Nat)} {m : List SeamText.Tok} {a : List Nat} {x : SeamText.Tok}, TTs l m → TT a x → nb (SeamText.joined (x :: m)) = a ++ joinP a l []
  | _, _, a, x, .nil, hx => by
    show nb (SeamText.tokText x) = a ++ []
    rw [hx.tx, List.append_nil]
  | b :: l, y :: m, a, x, .cons hy h, hx => by
    show nb (SeamText.tokText x ++ ((if SeamText.parting x y = true then [32] else []) ++ SeamText.joined (y :: m))) = _
    rw [nb_app, nb_app, hx.tx, joined_eq h hy]
    rw [joinP_cons, join_acc l b ([] ++ _ ++ b), List.nil_append, tight_eq hx hy, List.append_assoc]
    cases SeamText.parting x y <;> rfl
theorem joined_first {l : List (List Nat)} {m : List SeamText.Tok} {a : List Nat} {x : SeamText.Tok} (h : TTs l m) (hx : TT a x) : nb (SeamText.joined (x :: m)) = joinP [40] (a :: l) [] := by
  rw [joined_eq h hx]
  have : tight [40] a = true := rfl
  rw [joinP_cons, this, if_pos rfl, join_acc l a ([] ++ [] ++ a)]
  rfl
/-! ### single tokens -/
theorem sign_tt {c : Nat} (hc : c ∈ sgns) : TT [c] (.sign (UInt8.ofNat c)) := by
  have small : ∀ c ∈ sgns, c < 256 := by decide
  refine ⟨?_, ?_, ?_, ?_⟩
  · show [(UInt8.ofNat c).toNat] = [c]
    rw [UInt8.toNat_ofNat', Nat.mod_eq_of_lt (small c hc)]
  · show [c] = [40] ↔ UInt8.ofNat c = 40
    rw [show (40 : UInt8) = UInt8.ofNat 40 from rfl, ofN hc (by decide)]
    exact ⟨fun h => by cases h; rfl, fun h => by rw [h]⟩
  · have all : ∀ c ∈ sgns, decide (S [c] ∈ NBs) = decide (UInt8.ofNat c ∈ ([44, 41, 59] : List UInt8)) := by decide +kernel
    exact decide_eq_decide.mp (all c hc)
  · have all : ∀ c ∈ sgns, S [c] ∉ GLs := by decide +kernel
    exact ⟨fun h => absurd h (all c hc), fun h => nomatch h⟩
def GLB : List Bytes := GLs.map fun x => bb x.cps.toList
theorem fn_iff (b : Bytes) : ((SeamText.ofSums b).isSome || (SeamText.ofPlaces b).isSome) = true ↔ S (nb b) ∈ GLs := by
  have e : ([SeamText.wordOf 0, SeamText.wordOf 1, SeamText.wordOf 2, SeamText.wordOf 3] ++ [SeamText.wordOf 5, SeamText.wordOf 6, SeamText.wordOf 7, SeamText.wordOf 8, SeamText.wordOf 9, SeamText.wordOf 10]) = GLB := by decide +kernel
  have eg : GLs = GLB.map fun b => S (nb b) := by decide +kernel
  have es : ∀ lo hi, (SeamText.fnOf lo hi b).isSome = (List.range hi).any fun f => decide (lo ≤ f) && SeamText.wordOf f == b := fun lo hi => by
    unfold SeamText.fnOf
    rw [Bool.eq_iff_iff, List.find?_isSome, List.any_eq_true]
  have h1 : ((SeamText.ofSums b).isSome || (SeamText.ofPlaces b).isSome) = true ↔ b ∈ GLB := by
    rw [← e]
    unfold SeamText.ofSums SeamText.ofPlaces
    rw [es, es]
    have r4 : List.range 4 = [0, 1, 2, 3] := rfl
    have r11 : List.range 11 = [0, 1, 2, 3, 4, 5, 6, 7, 8, 9, 10] := rfl
    rw [r4, r11]
    simp only [List.any_cons, List.any_nil, Bool.or_eq_true, Bool.and_eq_true, decide_eq_true_eq, beq_iff_eq, Bool.or_false, List.mem_append, List.mem_cons, List.not_mem_nil, or_false, Nat.reduceLeDiff, true_and, false_and, false_or, Nat.le_refl, Nat.zero_le]
    constructor
    · intro h
      rcases h with (h | h | h | h) | (h | h | h | h | h | h) <;> simp [h]
    · intro h
      rcases h with (h | h | h | h) | (h | h | h | h | h | h) <;> simp [h]
  rw [h1, eg, List.mem_map]
  exact ⟨fun h => ⟨b, h, rfl⟩, fun ⟨c, hc, q⟩ => nb_inj (S_inj q) ▸ hc⟩
theorem not40 : ¬ (0 : UInt8) = 40 := by decide
theorem notNB : (0 : UInt8) ∉ ([44, 41, 59] : List UInt8) := by decide
theorem name_tt {b : Bytes} (h : ∀ c ∈ b, SeamText.goesOn c = true) : TT (nb b) (.name b) := by
  have no : ∀ k : Nat, isAl k = false → nb b ≠ [k] := fun k hk e => by
    cases b with
    | nil => cases e
    | cons c r =>
      have e : c.toNat :: nb r = [k] := e
      injection e with e1 e2
      have := h c List.mem_cons_self
      rw [goes_al, e1, hk] at this
      cases this
  refine ⟨rfl, ⟨fun e => absurd e (no 40 (by decide)), fun e => absurd e not40⟩, ⟨fun e => ?_, fun e => absurd e notNB⟩, (fn_iff b).symm⟩
  simp only [List.mem_cons, List.not_mem_nil, or_false] at e
  rcases e with e | e | e
  · exact absurd (S_inj (b := [44]) e) (no 44 (by decide))
  · exact absurd (S_inj (b := [41]) e) (no 41 (by decide))
  · exact absurd (S_inj (b := [59]) e) (no 59 (by decide))
theorem own_tt {l : List Nat} (h : TkG ⟨.name, l, 0⟩) : TT l (.name (bb l)) := by
  obtain ⟨_, b, e, hb⟩ := (h : l ∉ WL ∧ ∃ b : Bytes, l = nb b ∧ SeamText.nameFine b = true)
  subst e
  rw [bb_nb]
  refine name_tt fun c hc => ?_
  unfold SeamText.nameFine at hb
  rw [Bool.and_eq_true, Bool.and_eq_true, Bool.and_eq_true, Bool.and_eq_true] at hb
  exact List.all_eq_true.mp hb.2.2.2.1 c hc
theorem fn_tt {f : Nat} (h : f ≤ 10) (h4 : f ≠ 4) : TT (fnL f) (.name (SeamText.wordOf f)) := by
  have all : ∀ f ∈ [0, 1, 2, 3, 5, 6, 7, 8, 9, 10], fnL f = nb (SeamText.wordOf f) ∧ (SeamText.wordOf f).all SeamText.goesOn = true := by decide +kernel
  obtain ⟨a, b⟩ := all f (by simp only [List.mem_cons, List.not_mem_nil, or_false]; omega)
  rw [a]
  exact name_tt fun c hc => List.all_eq_true.mp b c hc
theorem lit_tt {l : List Nat} {b : Bytes} (e : l = nb b) (h : b.all SeamText.goesOn = true) : TT l (.name b) := by
  subst e
  exact name_tt fun c hc => List.all_eq_true.mp h c hc
/-! ### numbers -/
theorem dg {b : Bytes} (h : ∀ c ∈ b, SeamPattern.isDigit c = true) : NumText.AllDigits (nb b) := fun c hc => by
  obtain ⟨x, hx, rfl⟩ := List.mem_map.mp hc
  have := h x hx
  rw [digit_eq] at this
  unfold isDig at this
  rw [Bool.and_eq_true, decide_eq_true_eq, decide_eq_true_eq] at this
  exact this
theorem snoc_of {b : List Nat} {n : Nat} (e : b.length = n + 1) : ∃ d c, b = d ++ [c] ∧ d.length = n := by
  have hb : b.reverse ≠ [] := fun z => by
    have := congrArg List.length z
    rw [List.length_reverse, e] at this
    cases this
  cases hr : b.reverse with
  | nil => exact absurd hr hb
  | cons c r =>
    refine ⟨r.reverse, c, ?_, ?_⟩
    · have := congrArg List.reverse hr
      rw [List.reverse_reverse, List.reverse_cons] at this
      exact this
    · have := congrArg List.length hr
      rw [List.length_reverse, e, List.length_cons] at this
      rw [List.length_reverse]
      omega
theorem val_app (a : List Nat) : ∀ n b, b.length = n → valN (a ++ b) = valN a * 10 ^ b.length + valN b
  | 0, b, e => by
    cases List.eq_nil_of_length_eq_zero e
    rw [List.append_nil]
    show _ = valN a * 1 + 0
    omega
  | n + 1, b, e => by
    obtain ⟨d, c, rfl, hl⟩ := snoc_of e
    rw [← List.append_assoc]
    have ih := val_app a n d hl
    unfold valN at ih ⊢
    rw [NumText.digitsVal_snoc, NumText.digitsVal_snoc, ih, List.length_append, List.length_singleton, Nat.pow_succ, Nat.add_mul, Nat.mul_assoc]
    omega
theorem val_lt : ∀ (n : Nat) (l : List Nat), l.length = n → NumText.AllDigits l → valN l < 10 ^ n
  | 0, l, e, _ => by
    cases List.eq_nil_of_length_eq_zero e
    decide
  | n + 1, b, e, h => by
    obtain ⟨d, c, rfl, hl⟩ := snoc_of e
    have h1 : NumText.AllDigits d := fun c hc => h c (List.mem_append_left _ hc)
    have h2 := h c (List.mem_append_right _ List.mem_cons_self)
    unfold valN
    have := val_lt n d hl h1
    unfold valN at this
    rw [NumText.digitsVal_snoc, Nat.pow_succ]
    omega
theorem lz_cons (c x : Nat) (r : List Nat) : lz c (x :: r) = if x = c then lz c r else x :: r := by
  unfold lz
  by_cases h : x = c
  · rw [if_pos h, List.dropWhile_cons_of_pos (by simp [h])]
  · rw [if_neg h, List.dropWhile_cons_of_neg (by simp [h])]
theorem dec_lz : ∀ {l : List Nat}, NumText.AllDigits l → dec (valN l) = if lz 48 l = [] then [48] else lz 48 l
  | [], _ => by decide
  | x :: r, h => by
    rw [lz_cons]
    by_cases hx : x = 48
    · subst hx
      rw [if_pos rfl]
      exact dec_lz (l := r) h.tail
    · rw [if_neg hx, if_neg (fun z => nomatch z)]
      refine dec_of_plain ?_
      unfold plain digits
      rw [Bool.and_eq_true, Bool.and_eq_true, Bool.or_eq_true]
      refine ⟨⟨by rfl, List.all_eq_true.mpr fun c hc => ?_⟩, .inl ?_⟩
      · have := h c hc
        unfold isDig
        simp [this]
      · simp [hx]
theorem lz_rep : ∀ l : List Nat, List.replicate (l.length - (lz 48 l).length) 48 ++ lz 48 l = l
  | [] => rfl
  | x :: r => by
    have ih := lz_rep r
    rw [lz_cons]
    by_cases hx : x = 48
    · subst hx
      rw [if_pos rfl]
      have hle : (lz 48 r).length ≤ r.length := by
        have := congrArg List.length ih
        rw [List.length_append, List.length_replicate] at this
        omega
      rw [show (48 :: r).length - (lz 48 r).length = (r.length - (lz 48 r).length) + 1 from by rw [List.length_cons]; omega, List.replicate_succ, List.cons_append, ih]
    · rw [if_neg hx, Nat.sub_self]
      rfl
theorem pad_dec {f : List Nat} (hf : f ≠ []) (h : NumText.AllDigits f) : List.replicate (f.length - (dec (valN f)).length) 48 ++ dec (valN f) = f := by
  have r := lz_rep f
  rw [dec_lz h]
  by_cases hz : lz 48 f = []
  · rw [if_pos hz]
    rw [hz, List.append_nil] at r
    have hl : f.length = (f.length - 1) + 1 := by
      cases f with
      | nil => exact absurd rfl hf
      | cons a b => simp
    show List.replicate (f.length - 1) 48 ++ List.replicate 1 48 = f
    rw [List.replicate_append_replicate, ← hl]
    exact r
  · rw [if_neg hz]
    exact r
theorem rz_snoc (c x : Nat) (r : List Nat) : rz c (r ++ [x]) = if x = c then rz c r else r ++ [x] := by
  have := lz_cons c x r.reverse
  unfold lz at this
  unfold rz
  rw [List.reverse_append, List.reverse_singleton, List.singleton_append, this]
  by_cases h : x = c
  · rw [if_pos h, if_pos h]
  · rw [if_neg h, if_neg h, List.reverse_cons, List.reverse_reverse]
theorem fewest_eq (a : List Nat) : ∀ (n : Nat) (d : List Nat), d.length = n → NumText.AllDigits d → SeamText.fewest (valN (a ++ d)) n = (valN (a ++ rz 48 d), (rz 48 d).length)
  | 0, d, e, _ => by
    cases List.eq_nil_of_length_eq_zero e
    rfl
  | n + 1, b, e, h => by
    obtain ⟨d, c, rfl, hl⟩ := snoc_of e
    have h1 : NumText.AllDigits d := fun c hc => h c (List.mem_append_left _ hc)
    have h2 := h c (List.mem_append_right _ List.mem_cons_self)
    have v : valN (a ++ (d ++ [c])) = valN (a ++ d) * 10 + (c - 48) := by
      rw [← List.append_assoc]
      exact NumText.digitsVal_snoc _ _
    have hc : c - 48 < 10 := by omega
    rw [rz_snoc, SeamText.fewest]
    by_cases h48 : c = 48
    · rw [if_pos (by omega), if_pos h48, show valN (a ++ (d ++ [c])) / 10 = valN (a ++ d) from by omega]
      exact fewest_eq a n d hl h1
    · rw [if_neg (by omega), if_neg h48, List.length_append, hl]
      rfl
theorem rz_all {d : List Nat} (h : NumText.AllDigits d) : NumText.AllDigits (rz 48 d) := fun c hc => by
  unfold rz at hc
  rw [List.mem_reverse] at hc
  exact h c (List.mem_reverse.mp ((List.dropWhile_sublist _).subset hc))
theorem nb_rep (k : Nat) : nb (List.replicate k 48) = List.replicate k 48 := by
  unfold nb
  rw [List.map_replicate]
  rfl
/-- a number's text -/
theorem num_text {a d : Bytes} (ha : ∀ c ∈ a, SeamPattern.isDigit c = true) (hd : ∀ c ∈ d, SeamPattern.isDigit c = true) : nb (SeamText.tokText (SeamText.numTok a d)) = digP (if d = [] then nb a else nb a ++ 46 :: nb d) := by
  have hA := dg ha
  have hD := dg hd
  obtain ⟨e1, e2⟩ := num_cut (d := d) ha
  unfold digP
  rw [e1, e2, ← dec_lz hA]
  show nb (SeamText.pointText (SeamText.fewest (SeamPattern.natOf (a ++ d)) d.length).1 (SeamText.fewest (SeamPattern.natOf (a ++ d)) d.length).2) = _
  rw [natOf_eq, nb_app, fewest_eq (nb a) d.length (nb d) (nb_len d) hD]
  have hR := rz_all hD
  generalize rz 48 (nb d) = f at hR
  unfold SeamText.pointText
  dsimp only
  by_cases hf : f = []
  · subst hf
    rw [List.append_nil]
    exact nb_decimal _
  · have hl : f.length ≠ 0 := fun z => hf (List.eq_nil_of_length_eq_zero z)
    rw [if_neg hl, if_neg hf]
    have hv := val_app (nb a) f.length f rfl
    have hlt := val_lt f.length f rfl hR
    have q : valN (nb a ++ f) / 10 ^ f.length = valN (nb a) := by
      rw [hv, Nat.mul_comm, Nat.mul_add_div (by omega), Nat.div_eq_of_lt hlt, Nat.add_zero]
    have m : valN (nb a ++ f) % 10 ^ f.length = valN f := by
      rw [hv, Nat.mul_comm, Nat.mul_add_mod, Nat.mod_eq_of_lt hlt]
    rw [q, m, nb_app, nb_decimal]
    show dec (valN (nb a)) ++ 46 :: nb (List.replicate (f.length - (SeamNum.decimal (valN f)).length) 48 ++ SeamNum.decimal (valN f)) = _
    rw [nb_app, nb_rep, ← nb_len (SeamNum.decimal (valN f)), nb_decimal, pad_dec hf hR]
theorem digP_in {l : List Nat} (h : ∀ c ∈ l, c = 46 ∨ (48 ≤ c ∧ c ≤ 57)) : (∀ c ∈ digP l, c = 46 ∨ (48 ≤ c ∧ c ≤ 57)) := by
  have cut : ∀ l : List Nat, (∀ c ∈ (cutN 46 l).1, c ∈ l) ∧ ∀ c ∈ (cutN 46 l).2.getD [], c ∈ l := fun l => by
    induction l with
    | nil => exact ⟨fun c h => h, fun c h => h⟩
    | cons x r ih =>
      rw [cutN]
      split
      · exact ⟨fun c h => absurd h (by simp), fun c h => List.mem_cons_of_mem _ h⟩
      · refine ⟨fun c h => ?_, fun c h => List.mem_cons_of_mem _ (ih.2 c h)⟩
        rcases List.mem_cons.mp h with rfl | h
        · exact List.mem_cons_self
        · exact List.mem_cons_of_mem _ (ih.1 c h)
  obtain ⟨c1, c2⟩ := cut l
  have w : ∀ c ∈ (if lz 48 (cutN 46 l).1 = [] then [48] else lz 48 (cutN 46 l).1), c = 46 ∨ (48 ≤ c ∧ c ≤ 57) := fun c hc => by
    split at hc
    · cases List.mem_singleton.mp hc
      exact .inr (by omega)
    · exact h c (c1 c ((List.dropWhile_sublist _).subset hc))
  have f : ∀ c ∈ rz 48 ((cutN 46 l).2.getD []), c = 46 ∨ (48 ≤ c ∧ c ≤ 57) := fun c hc => by
    unfold rz at hc
    rw [List.mem_reverse] at hc
    exact h c (c2 c (List.mem_reverse.mp ((List.dropWhile_sublist _).subset hc)))
  intro c hc
  unfold digP at hc
  split at hc
  · exact w c hc
  · rcases List.mem_append.mp hc with hc | hc
    · exact w c hc
    · rcases List.mem_cons.mp hc with rfl | hc
      · exact .inl rfl
      · exact f c hc
theorem num_tt {l : List Nat} (h : TkG ⟨.num, l, 0⟩) : TT (digP l) (tokOf ⟨.num, l, 0⟩) := by
  obtain ⟨a, d, ha0, _, _, ha, hd, e⟩ := h
  have e : l = if d = [] then nb a else nb a ++ 46 :: nb d := e
  obtain ⟨e1, e2⟩ := num_cut (d := d) ha
  have hin : ∀ c ∈ digP l, c = 46 ∨ (48 ≤ c ∧ c ≤ 57) := digP_in fun c hc => by
    rw [e] at hc
    split at hc
    · exact .inr (dg ha c hc)
    · rcases List.mem_append.mp hc with hc | hc
      · exact .inr (dg ha c hc)
      · rcases List.mem_cons.mp hc with rfl | hc
        · exact .inl rfl
        · exact .inr (dg hd c hc)
  have tk : tokOf ⟨.num, l, 0⟩ = SeamText.numTok a d := by
    show SeamText.numTok (bb (cutN 46 l).1) (bb ((cutN 46 l).2.getD [])) = _
    rw [e, e1, e2, bb_nb, bb_nb]
  have no : ∀ m : List Nat, (m.all fun c => !(decide (c = 46) || (decide (48 ≤ c) && decide (c ≤ 57)))) = true → m ≠ [] → digP l ≠ m := fun m hm h0 z => by
    subst z
    cases hz : digP l with
    | nil => exact h0 hz
    | cons c r =>
      have h1 := hin c (by rw [hz]; exact List.mem_cons_self)
      have h2 := List.all_eq_true.mp hm c (by rw [hz]; exact List.mem_cons_self)
      rw [Bool.not_eq_true', Bool.or_eq_false_iff, decide_eq_false_iff_not, Bool.and_eq_false_iff, decide_eq_false_iff_not, decide_eq_false_iff_not] at h2
      omega
  have gl : ∀ m ∈ GLB.map nb, (m.all fun c => !(decide (c = 46) || (decide (48 ≤ c) && decide (c ≤ 57)))) = true ∧ m ≠ [] := by decide +kernel
  rw [tk]
  refine ⟨?_, ⟨fun z => absurd z (no [40] (by decide) (by decide)), fun z => absurd z not40⟩, ⟨fun z => ?_, fun z => absurd z notNB⟩, ⟨fun z => ?_, fun z => nomatch z⟩⟩
  · rw [num_text ha hd, e]
  · simp only [List.mem_cons, List.not_mem_nil, or_false] at z
    rcases z with z | z | z
    · exact absurd (S_inj (b := [44]) z) (no [44] (by decide) (by decide))
    · exact absurd (S_inj (b := [41]) z) (no [41] (by decide) (by decide))
    · exact absurd (S_inj (b := [59]) z) (no [59] (by decide) (by decide))
  · have eg : GLs = (GLB.map nb).map S := by decide +kernel
    rw [eg] at z
    obtain ⟨m, hm, q⟩ := List.mem_map.mp z
    obtain ⟨h1, h2⟩ := gl m hm
    exact absurd (S_inj q).symm (no m h1 h2)
/-! ### a sum's tokens -/
open SeamText in
def commaK : List (List SeamText.Tok) → List SeamText.Tok
  | [] => []
  | [l] => l
  | l :: m :: r => l ++ .sign 44 :: commaK (m :: r)
inductive TTL : List (List (List Nat)) → List (List SeamText.Tok) → Prop
  | nil : TTL [] []
  | cons {a : List (List Nat)} {x : List SeamText.Tok} {l : List (List (List Nat))} {m : List (List SeamText.Tok)} : TTs a x → TTL l m → TTL (a :: l) (x :: m)
theorem t40 : TT [40] (.sign 40) := sign_tt (c := 40) (by decide)
theorem t41 : TT [41] (.sign 41) := sign_tt (c := 41) (by decide)
theorem t44 : TT [44] (.sign 44) := sign_tt (c := 44) (by decide)
theorem t45 : TT [45] (.sign 45) := sign_tt (c := 45) (by decide)
theorem t59 : TT [59] (.sign 59) := sign_tt (c := 59) (by decide)
theorem t61 : TT [61] (.sign 61) := sign_tt (c := 61) (by decide)
theorem TTs.one {a : List Nat} {x : SeamText.Tok} (h : TT a x) : TTs [a] [x] := .cons h .nil
theorem comma_tt {ls : List (List (List Nat))} {ms : List (List SeamText.Tok)} (h : TTL ls ms) : TTs (commaT ls) (commaK ms) := by
  induction h with
  | nil => exact .nil
  | cons h k ih =>
    cases k with
    | nil => exact h
    | cons h2 k2 => exact h.app (.cons t44 ih)
theorem call_tt {f : Nat} {ls : List (List (List Nat))} {ms : List (List SeamText.Tok)} (hf : f ≤ 10) (h : TTL ls ms) : TTs (callT f ls) (SeamText.opened f ++ (commaK ms ++ [.sign 41])) := by
  unfold callT SeamText.opened
  have c := comma_tt h
  rw [List.append_assoc]
  refine TTs.app ?_ (.cons t40 (c.app (.one t41)))
  by_cases h4 : f = 4
  · rw [if_pos h4, if_pos h4]
    exact .nil
  · rw [if_neg h4, if_neg h4]
    exact .one (fn_tt hf h4)
structure EK (e : Nd) : Prop where
  a : TTs (tokN e) (SeamText.toks 0 (nE e))
  b : TTs (brkT (wordE e) ["sum"] (tokN e)) (SeamText.toks 1 (nE e))
  c : TTs (brkT (wordE e) ["sum", "product"] (tokN e)) (SeamText.toks 2 (nE e))
theorem EK.leaf {e : Nd} (h : TTs (tokN e) (SeamText.toks 0 (nE e))) (w : wordE e ∉ (["sum", "product"] : List Str)) (h1 : SeamText.toks 1 (nE e) = SeamText.toks 0 (nE e)) (h2 : SeamText.toks 2 (nE e) = SeamText.toks 0 (nE e)) : EK e := by
  refine ⟨h, ?_, ?_⟩
  · unfold brkT
    rw [if_neg, h1]
    · exact h
    · rw [decide_eq_true_eq]
      exact fun z => w (by
        rw [List.mem_singleton.mp z]
        exact List.mem_cons_self)
  · unfold brkT
    rw [if_neg, h2]
    · exact h
    · rw [decide_eq_true_eq]
      exact w
theorem fnW_no {f : Nat} (h : f ≤ 10) : fnW f ∉ (["sum", "product"] : List Str) := by
  have all : ∀ f ∈ [0, 1, 2, 3, 4, 5, 6, 7, 8, 9, 10], fnW f ∉ (["sum", "product"] : List Str) := by decide +kernel
  exact all f (by simp only [List.mem_cons, List.not_mem_nil, or_false]; omega)
theorem ek : ∀ e : Nd, okW e → okP e → EK e
  | .num b, _, p => by
    have t := num_tt (l := b) p
    exact .leaf (.one t) (show ("number" : Str) ∉ _ by decide) rfl rfl
  | .name b, _, p => by
    have t := own_tt (l := b) p
    exact .leaf (.one t) (show ("name" : Str) ∉ _ by decide) rfl rfl
  | .neg a, w, p => by
    have i := ek a w p
    exact .leaf (.cons t45 i.c) (show ("less" : Str) ∉ _ by decide) rfl rfl
  | .op c j a b, w, p => by
    obtain ⟨wa, wb, wj⟩ := w
    obtain ⟨pc, pa, pb⟩ := p
    have ia := ek a wa pa
    have ib := ek b wb pb
    have hs : c ∈ sgns := by
      have all : ∀ c ∈ [43, 45, 42, 47], c ∈ sgns := by decide
      exact all c pc
    have tc := sign_tt hs
    have key : ∀ c ∈ [43, 45, 42, 47], (isAdd c = true ↔ (UInt8.ofNat c = 43 ∨ UInt8.ofNat c = 45)) := by decide
    have kc := key c pc
    by_cases had : isAdd c = true
    · have hc := kc.mp had
      have z : TTs (tokN (.op c j a b)) (SeamText.toks 0 (nE a) ++ (.sign (UInt8.ofNat c) :: SeamText.toks 1 (nE b))) := by
        show TTs ((if j = true then tokN a else brkT (wordE a) (w0 c) (tokN a)) ++ [c] :: brkT (wordE b) (w1 c) (tokN b)) _
        unfold w0 w1
        rw [if_pos had, if_pos had]
        refine TTs.app ?_ (.cons tc ib.b)
        split
        · exact ia.a
        · exact ia.a
      have e : ∀ l, SeamText.toks l (nE (.op c j a b)) = if l = 0 then (SeamText.toks 0 (nE a) ++ (.sign (UInt8.ofNat c) :: SeamText.toks 1 (nE b))) else .sign 40 :: ((SeamText.toks 0 (nE a) ++ (.sign (UInt8.ofNat c) :: SeamText.toks 1 (nE b))) ++ [.sign 41]) := fun l => by
        show SeamText.toks l (.op (UInt8.ofNat c) (nE a) (nE b)) = _
        rw [SeamText.toks, if_pos hc]
      have br : TTs ([40] :: (tokN (.op c j a b) ++ [[41]])) (.sign 40 :: ((SeamText.toks 0 (nE a) ++ (.sign (UInt8.ofNat c) :: SeamText.toks 1 (nE b))) ++ [.sign 41])) := .cons t40 (z.app (.one t41))
      have wd : wordE (.op c j a b) = "sum" := if_pos had
      refine ⟨?_, ?_, ?_⟩
      · rw [e, if_pos rfl]
        exact z
      · rw [e, if_neg (by decide), wd]
        exact br
      · rw [e, if_neg (by decide), wd]
        exact br
    · have hc : ¬ (UInt8.ofNat c = 43 ∨ UInt8.ofNat c = 45) := fun h => had (kc.mpr h)
      have z : TTs (tokN (.op c j a b)) (SeamText.toks 1 (nE a) ++ (.sign (UInt8.ofNat c) :: SeamText.toks 2 (nE b))) := by
        show TTs ((if j = true then tokN a else brkT (wordE a) (w0 c) (tokN a)) ++ [c] :: brkT (wordE b) (w1 c) (tokN b)) _
        unfold w0 w1
        rw [if_neg had, if_neg had]
        refine TTs.app ?_ (.cons tc ib.c)
        split
        · rename_i hj
          obtain ⟨c', j', a', b', rfl, hq⟩ := wj hj
          have wd : wordE (.op c' j' a' b') = "product" := if_neg (by rw [hq]; exact had)
          have ib' := ia.b
          rw [wd] at ib'
          exact ib'
        · exact ia.b
      have e : ∀ l, SeamText.toks l (nE (.op c j a b)) = if l ≤ 1 then (SeamText.toks 1 (nE a) ++ (.sign (UInt8.ofNat c) :: SeamText.toks 2 (nE b))) else .sign 40 :: ((SeamText.toks 1 (nE a) ++ (.sign (UInt8.ofNat c) :: SeamText.toks 2 (nE b))) ++ [.sign 41]) := fun l => by
        show SeamText.toks l (.op (UInt8.ofNat c) (nE a) (nE b)) = _
        rw [SeamText.toks, if_neg hc]
      have br : TTs ([40] :: (tokN (.op c j a b) ++ [[41]])) (.sign 40 :: ((SeamText.toks 1 (nE a) ++ (.sign (UInt8.ofNat c) :: SeamText.toks 2 (nE b))) ++ [.sign 41])) := .cons t40 (z.app (.one t41))
      have wd : wordE (.op c j a b) = "product" := if_neg had
      refine ⟨?_, ?_, ?_⟩
      · rw [e, if_pos (by decide)]
        exact z
      · rw [e, if_pos (by decide), wd]
        exact z
      · rw [e, if_neg (by decide), wd]
        exact br
  | .call1 f a, w, p => by
    have i := ek a w p.2
    refine .leaf ?_ (fnW_no p.1) rfl rfl
    exact call_tt p.1 (.cons i.a .nil)
  | .call2 f a b, w, p => by
    have i := ek a w.1 p.2.1
    have j := ek b w.2 p.2.2
    refine .leaf ?_ (fnW_no p.1) rfl rfl
    have := call_tt p.1 (.cons i.a (.cons j.a .nil))
    show TTs (callT f [tokN a, tokN b]) (SeamText.opened f ++ (SeamText.toks 0 (nE a) ++ (.sign 44 :: (SeamText.toks 0 (nE b) ++ [.sign 41]))))
    simpa [commaK] using this
  | .call3 f a b c, w, p => by
    have i := ek a w.1 p.2.1
    have j := ek b w.2.1 p.2.2.1
    have k := ek c w.2.2 p.2.2.2
    refine .leaf ?_ (fnW_no p.1) rfl rfl
    have := call_tt p.1 (.cons i.a (.cons j.a (.cons k.a .nil)))
    show TTs (callT f [tokN a, tokN b, tokN c]) (SeamText.opened f ++ (SeamText.toks 0 (nE a) ++ (.sign 44 :: (SeamText.toks 0 (nE b) ++ (.sign 44 :: (SeamText.toks 0 (nE c) ++ [.sign 41]))))))
    simpa [commaK] using this
  | .call4 f a b c d, w, p => by
    have i := ek a w.1 p.2.1
    have j := ek b w.2.1 p.2.2.1
    have k := ek c w.2.2.1 p.2.2.2.1
    have l := ek d w.2.2.2 p.2.2.2.2
    refine .leaf ?_ (fnW_no p.1) rfl rfl
    have := call_tt p.1 (.cons i.a (.cons j.a (.cons k.a (.cons l.a .nil))))
    show TTs (callT f [tokN a, tokN b, tokN c, tokN d]) (SeamText.opened f ++ (SeamText.toks 0 (nE a) ++ (.sign 44 :: (SeamText.toks 0 (nE b) ++ (.sign 44 :: (SeamText.toks 0 (nE c) ++ (.sign 44 :: (SeamText.toks 0 (nE d) ++ [.sign 41]))))))))
    simpa [commaK] using this
/-! ### statements -/
theorem listed_tt : ∀ {cs : List (List Nat)}, (∀ c ∈ cs, TkG ⟨.name, c, 0⟩) → TTs (commaT (cs.map fun c => [c])) (SeamText.listed (cs.map bb))
  | [], _ => .nil
  | [c], h => .one (own_tt (h c List.mem_cons_self))
  | c :: d :: r, h => .cons (own_tt (h c List.mem_cons_self)) (.cons t44 (listed_tt (cs := d :: r) fun x hx => h x (List.mem_cons_of_mem _ hx)))
theorem tLet : TT letT (.name (SeamNum.ascii "let")) := lit_tt (by decide +kernel) (by decide +kernel)
theorem tPoint : TT pointT (.name (SeamNum.ascii "point")) := lit_tt (by decide +kernel) (by decide +kernel)
theorem tPiece : TT pieceT (.name (SeamNum.ascii "piece")) := lit_tt (by decide +kernel) (by decide +kernel)
theorem tSeam : TT seamT (.name (SeamNum.ascii "seam")) := lit_tt (by decide +kernel) (by decide +kernel)
theorem tGrain : TT grainT (.name SeamText.GRAIN) := lit_tt (by decide +kernel) (by decide +kernel)
theorem st_tt {s : Stt} (hw : okT 18 s) (hs : okS s) : TTs (stT s) (stE s).toks := by
  cases s with
  | let_ n e =>
    have i := ek e hw.1 hs.2
    show TTs ([letT, n, [61]] ++ tokN e ++ [[59]]) ([.name (SeamNum.ascii "let"), .name (bb n), .sign 61] ++ (SeamText.toks 0 (nE e) ++ [.sign 59]))
    rw [List.append_assoc]
    exact .cons tLet (.cons (own_tt hs.1) (.cons t61 (i.a.app (.one t59))))
  | point n e =>
    have i := ek e hw.1 hs.2
    show TTs ([pointT, n, [61]] ++ tokN e ++ [[59]]) ([.name (SeamNum.ascii "point"), .name (bb n), .sign 61] ++ (SeamText.toks 0 (nE e) ++ [.sign 59]))
    rw [List.append_assoc]
    exact .cons tPoint (.cons (own_tt hs.1) (.cons t61 (i.a.app (.one t59))))
  | piece n cs g h =>
    obtain ⟨h1, h2, h3, h4⟩ := hs
    show TTs ([pieceT, n, [40]] ++ commaT (cs.map fun c => [c]) ++ [[41], grainT, g, h, [59]]) ([.name (SeamNum.ascii "piece"), .name (bb n), .sign 40] ++ (SeamText.listed (cs.map bb) ++ [.sign 41, .name SeamText.GRAIN, .name (bb g), .name (bb h), .sign 59]))
    rw [List.append_assoc]
    exact .cons tPiece (.cons (own_tt h1) (.cons t40 ((listed_tt h2).app (.cons t41 (.cons tGrain (.cons (own_tt h3) (.cons (own_tt h4) (.one t59))))))))
  | seam l =>
    obtain ⟨h6, hl⟩ := hs
    match l, h6 with
    | [a, p, q, b, r, s], _ =>
      have o : ∀ x ∈ [a, p, q, b, r, s], TT x (.name (bb x)) := fun x hx => own_tt (hl x hx)
      simp only [List.mem_cons, List.not_mem_nil, or_false, forall_eq_or_imp, forall_eq] at o
      obtain ⟨o1, o2, o3, o4, o5, o6⟩ := o
      exact .cons tSeam (.cons o1 (.cons o2 (.cons o3 (.cons t44 (.cons o4 (.cons o5 (.cons o6 (.one t59))))))))
theorem st_ne (s : Stt) : stT s ≠ [] := by
  cases s <;> exact fun z => nomatch z
theorem ln_eq {s : Stt} (hw : okT 18 s) (hs : okS s) : lnP s = nb (SeamText.joined (stE s).toks ++ [10]) := by
  have h := st_tt hw hs
  have n0 := st_ne s
  unfold lnP
  rw [nb_app]
  generalize stT s = l at h n0
  generalize (stE s).toks = m at h
  cases h with
  | nil => exact absurd rfl n0
  | cons h k =>
    rw [joined_first k h]
    rfl
theorem pr_eq : ∀ {l : List Stt}, (∀ s ∈ l, okT 18 s) → (∀ s ∈ l, okS s) → prT l = nb (SeamText.printed (l.map stE))
  | [], _, _ => rfl
  | s :: r, hw, hs => by
    show lnP s ++ prT r = nb ((SeamText.joined (stE s).toks ++ [10]) ++ SeamText.printed (r.map stE))
    rw [nb_app, ← ln_eq (hw s List.mem_cons_self) (hs s List.mem_cons_self), pr_eq (fun x hx => hw x (List.mem_cons_of_mem _ hx)) (fun x hx => hs x (List.mem_cons_of_mem _ hx))]
theorem print_eq (b : Bytes) : ansL (printA (nb b)) = DraftsNeutral.numbersOf (Drafts.answer (.print b)) := by
  show _ = DraftsNeutral.numbersOf (Drafts.looked [b] fun _ => Drafts.ofDraft b fun d => SeamNum.gives (SeamText.printed d))
  rw [looked_one]
  unfold printA
  by_cases hb : (nb b).length ≤ 4096
  · rw [if_pos (decide_eq_true hb), if_pos (decide_eq_true hb)]
    unfold Drafts.ofDraft
    rw [draft_eq]
    cases e : stsOf (sgs b) with
    | ok l us =>
      have e' : stsOf ((nb b).map sg) = .ok l us := e
      obtain ⟨D, O⟩ := dr_ok hb e'
      show ansL (((prT l).length : Int), prT l, []) = DraftsNeutral.numbersOf (SeamNum.gives (SeamText.printed (l.map stE)))
      rw [pr_eq D.ok O]
      generalize SeamText.printed (l.map stE) = z
      show ((nb z).length : Int) :: ((nb z).length : Int) :: ((nb z).map fun c : Nat => (c : Int)) ++ [0] = ((z.length : Nat) : Int) :: ((z.length : Nat) : Int) :: (z.map fun c : UInt8 => (c.toNat : Int)) ++ [0]
      rw [nb_len]
      unfold nb
      rw [List.map_map]
      rfl
    | bad ts => rfl
  · rw [if_neg (by simpa using hb), if_neg (by simpa using hb)]
    rfl
end Sd

set_option exponentiation.threshold 256
set_option Elab.async false
set_option linter.all false
set_option maxRecDepth 100000
set_option maxHeartbeats 4000000
namespace Sd
open PySem PySem.Spec PyProof.Rows L2
theorem ba_require : BA "require" "require" s_require ["is_so", "refusal"] := fun _ _ _ _ _ _ us hl => match us, hl with | [_, _], _ => rfl
theorem ba_text_of : BA "text_of" "text_of" s_text_of ["row"] := fun _ _ _ _ _ _ us hl => match us, hl with | [_], _ => rfl
theorem ba_run_of : BA "run_of" "run_of" s_run_of ["text", "at", "signs"] := fun _ _ _ _ _ _ us hl => match us, hl with | [_, _, _], _ => rfl
theorem ba_number_at : BA "number_at" "number_at" s_number_at ["text", "at"] := fun _ _ _ _ _ _ us hl => match us, hl with | [_, _], _ => rfl
theorem ba_token_at : BA "token_at" "token_at" s_token_at ["text", "at"] := fun _ _ _ _ _ _ us hl => match us, hl with | [_, _], _ => rfl
theorem ba_tokens_of : BA "tokens_of" "tokens_of" s_tokens_of ["text"] := fun _ _ _ _ _ _ us hl => match us, hl with | [_], _ => rfl
theorem ba_statements_of : BA "statements_of" "statements_of" s_statements_of ["text"] := fun _ _ _ _ _ _ us hl => match us, hl with | [_], _ => rfl
theorem ba_told : BA "told" "told" s_told ["number", "row", "signed"] := fun _ _ _ _ _ _ us hl => match us, hl with | [_, _, _], _ => rfl
theorem ba_refused : BA "refused" "refused" s_refused ["e"] := fun _ _ _ _ _ _ us hl => match us, hl with | [_], _ => rfl
theorem ba_want_short : BA "want_short" "want_short" s_want_short ["rows"] := fun _ _ _ _ _ _ us hl => match us, hl with | [_], _ => rfl
theorem ba_draft_in : BA "draft_in" "draft_in" s_draft_in ["t"] := fun _ _ _ _ _ _ us hl => match us, hl with | [_], _ => rfl
theorem ba_answer_print : BA "answer_print" "answer_print" s_answer_print ["t"] := fun _ _ _ _ _ _ us hl => match us, hl with | [_], _ => rfl
theorem ba_told_text : BA "told_text" "told_text" s_told_text ["text"] := fun _ _ _ _ _ _ us hl => match us, hl with | [_], _ => rfl
theorem ba_bytes_of : BA "bytes_of" "bytes_of" s_bytes_of ["text"] := fun _ _ _ _ _ _ us hl => match us, hl with | [_], _ => rfl
theorem ba_digits_printed : BA "digits_printed" "digits_printed" s_digits_printed ["text"] := fun _ _ _ _ _ _ us hl => match us, hl with | [_], _ => rfl
theorem ba_bracketed : BA "bracketed" "bracketed" s_bracketed ["node", "words"] := fun _ _ _ _ _ _ us hl => match us, hl with | [_, _], _ => rfl
theorem ba_row_printed : BA "row_printed" "row_printed" s_row_printed ["parts", "words"] := fun _ _ _ _ _ _ us hl => match us, hl with | [_, _], _ => rfl
theorem ba_within_printed : BA "within_printed" "within_printed" s_within_printed ["parts"] := fun _ _ _ _ _ _ us hl => match us, hl with | [_], _ => rfl
theorem ba_tokens_in : BA "tokens_in" "tokens_in" s_tokens_in ["node"] := fun _ _ _ _ _ _ us hl => match us, hl with | [_], _ => rfl
theorem ba_names_printed : BA "names_printed" "names_printed" s_names_printed ["names"] := fun _ _ _ _ _ _ us hl => match us, hl with | [_], _ => rfl
theorem ba_statement_tokens : BA "statement_tokens" "statement_tokens" s_statement_tokens ["told"] := fun _ _ _ _ _ _ us hl => match us, hl with | [_], _ => rfl
theorem ba_joined : BA "joined" "joined" s_joined ["tokens"] := fun _ _ _ _ _ _ us hl => match us, hl with | [_], _ => rfl
theorem ba_printed : BA "printed" "printed" s_printed ["statements"] := fun _ _ _ _ _ _ us hl => match us, hl with | [_], _ => rfl
theorem ba_print_of : BA "print_of" "print_of" s_print_of ["t"] := fun _ _ _ _ _ _ us hl => match us, hl with | [_], _ => rfl
theorem bm_says : BA "says" "Token.says" m_Token_says ["self", "text"] := fun _ _ _ _ _ _ us hl => match us, hl with | [_, _], _ => rfl
theorem bm_end : BA "is_at_end" "Reader.is_at_end" m_Reader_is_at_end ["self"] := fun _ _ _ _ _ _ us hl => match us, hl with | [_], _ => rfl
theorem bm_here : BA "here" "Reader.here" m_Reader_here ["self"] := fun _ _ _ _ _ _ us hl => match us, hl with | [_], _ => rfl
theorem bm_allow : BA "allow" "Reader.allow" m_Reader_allow ["self", "is_so"] := fun _ _ _ _ _ _ us hl => match us, hl with | [_, _], _ => rfl
theorem bm_take : BA "take" "Reader.take" m_Reader_take ["self"] := fun _ _ _ _ _ _ us hl => match us, hl with | [_], _ => rfl
theorem bm_comes : BA "comes" "Reader.comes" m_Reader_comes ["self", "text"] := fun _ _ _ _ _ _ us hl => match us, hl with | [_, _], _ => rfl
theorem bm_need : BA "need" "Reader.need" m_Reader_need ["self", "text"] := fun _ _ _ _ _ _ us hl => match us, hl with | [_, _], _ => rfl
theorem bm_own_name : BA "own_name" "Reader.own_name" m_Reader_own_name ["self"] := fun _ _ _ _ _ _ us hl => match us, hl with | [_], _ => rfl
theorem bm_parts : BA "parts_within" "Reader.parts_within" m_Reader_parts_within ["self", "word", "kinds", "deep"] := fun _ _ _ _ _ _ us hl => match us, hl with | [_, _, _, _], _ => rfl
theorem bm_place : BA "place_node" "Reader.place_node" m_Reader_place_node ["self", "deep"] := fun _ _ _ _ _ _ us hl => match us, hl with | [_, _], _ => rfl
theorem bm_pair : BA "pair" "Reader.pair" m_Reader_pair ["self", "deep"] := fun _ _ _ _ _ _ us hl => match us, hl with | [_, _], _ => rfl
theorem bm_sum : BA "sum_at" "Reader.sum_at" m_Reader_sum_at ["self", "deep"] := fun _ _ _ _ _ _ us hl => match us, hl with | [_, _], _ => rfl
theorem bm_product : BA "product" "Reader.product" m_Reader_product ["self", "deep"] := fun _ _ _ _ _ _ us hl => match us, hl with | [_, _], _ => rfl
theorem bm_factor : BA "factor" "Reader.factor" m_Reader_factor ["self", "deep"] := fun _ _ _ _ _ _ us hl => match us, hl with | [_, _], _ => rfl
theorem bm_within : BA "within" "Reader.within" m_Reader_within ["self", "deep"] := fun _ _ _ _ _ _ us hl => match us, hl with | [_, _], _ => rfl
theorem bm_piece : BA "piece" "Reader.piece" m_Reader_piece ["self"] := fun _ _ _ _ _ _ us hl => match us, hl with | [_], _ => rfl
theorem bm_seam : BA "seam" "Reader.seam" m_Reader_seam ["self"] := fun _ _ _ _ _ _ us hl => match us, hl with | [_], _ => rfl
theorem bm_given : BA "given_name" "Reader.given_name" m_Reader_given_name ["self"] := fun _ _ _ _ _ _ us hl => match us, hl with | [_], _ => rfl
theorem bm_one : BA "one_statement" "Reader.one_statement" m_Reader_one_statement ["self"] := fun _ _ _ _ _ _ us hl => match us, hl with | [_], _ => rfl
theorem bi_TextFault : BA "__init__" "TextFault.__init__" m_TextFault_init ["self", "kind", "place"] := fun _ _ _ _ _ _ us hl => match us, hl with | [_, _, _], _ => rfl
theorem bi_Refused : BA "__init__" "Refused.__init__" m_Refused_init ["self", "refusal", "told"] := fun _ _ _ _ _ _ us hl => match us, hl with | [_, _, _], _ => rfl
theorem bi_Token : BA "__init__" "Token.__init__" m_Token_init ["self", "family", "text", "place"] := fun _ _ _ _ _ _ us hl => match us, hl with | [_, _, _, _], _ => rfl
theorem bi_Reader : BA "__init__" "Reader.__init__" m_Reader_init ["self", "text"] := fun _ _ _ _ _ _ us hl => match us, hl with | [_, _], _ => rfl
theorem all_mk {P : Program} {w : World} {K : PySem.W.Frag} {h : Heap} {mg : Str → Option Value} {fa Ck Cd Cx Cr : Addr} (X : K.In h) (G : h.Ns mainGlobals mg) (hfa : mg "print_of" = some (.ref fa))
    (aK : PySem.W.nsIn K mainGlobals "Token" = some (some (.ref Ck))) (aD : PySem.W.nsIn K mainGlobals "Reader" = some (some (.ref Cd))) (aX : PySem.W.nsIn K mainGlobals "TextFault" = some (some (.ref Cx))) (aR : PySem.W.nsIn K mainGlobals "Refused" = some (some (.ref Cr)))
    (T : Dx K w mg Ck Cd Cx Cr) (o_answer_print : FunT K mg "answer_print" s_answer_print ["t"]) (o_told_text : FunT K mg "told_text" s_told_text ["text"]) (o_bytes_of : FunT K mg "bytes_of" s_bytes_of ["text"]) (o_digits_printed : FunT K mg "digits_printed" s_digits_printed ["text"]) (o_bracketed : FunT K mg "bracketed" s_bracketed ["node", "words"]) (o_row_printed : FunT K mg "row_printed" s_row_printed ["parts", "words"]) (o_within_printed : FunT K mg "within_printed" s_within_printed ["parts"]) (o_tokens_in : FunT K mg "tokens_in" s_tokens_in ["node"]) (o_names_printed : FunT K mg "names_printed" s_names_printed ["names"]) (o_statement_tokens : FunT K mg "statement_tokens" s_statement_tokens ["told"]) (o_joined : FunT K mg "joined" s_joined ["tokens"]) (o_printed : FunT K mg "printed" s_printed ["statements"]) (n_list : mg "list" = none) (n_int : mg "int" = none) (s_nb : StrsT K mg "NO_BLANK_AHEAD" NBs) (s_gl : StrsT K mg "GLUED" GLs) (Ft : FG K "print_of" s_print_of) :
    ∃ fd : FuncData, (∀ (s : Shared) (us : List Value), us.length = (["t"] : List Str).length → BindsTo s fd ⟨us, []⟩ ((["t"] : List Str).zip us)) ∧ ∀ base : Heap, K.In base → base.Ns mainGlobals mg → FnOk P w K mg base (L2.CX P w) 60 fa fd ["t"] (spF K F_print_of) := by
  obtain ⟨f, a, l⟩ := Ft
  cases hfa.symm.trans (PySem.W.mg_of X G a)
  obtain ⟨fd, Fu, hb, bt⟩ := l.fun ba_print_of
  exact ⟨fd, bt, fun base _ _ => T.print_of o_answer_print o_told_text o_bytes_of o_digits_printed o_bracketed o_row_printed o_within_printed o_tokens_in o_names_printed o_statement_tokens o_joined o_printed n_list n_int s_nb s_gl Fu⟩
end Sd
open PySem PySem.W PyProof.Rows Sd
set_option maxRecDepth 100000 in
set_option maxHeartbeats 0 in
theorem PySem.Challenge.cw_seamdrafts_s02_print_of_holds : PySem.Challenge.rw_seamdrafts_s02_print_of.Holds := by
  w_on; k_headS; (case hw => exact ⟨[.list []], by decide +kernel, by decide +kernel⟩)
  k_fillS
  refine Sd.walk_specC (r := PySem.Challenge.rw_seamdrafts_s02_print_of) (k := 60) (ps := ["t"]) (fun K => Sd.spF K Sd.F_print_of) (by decide +kernel) rfl rfl ⟨rfl, by decide, by decide⟩ (fun w h Y => PySem.W.kIn_of Y) ?F ?S
  case F =>
    intro w mg fa h Y KX G hmg
    refine' Sd.all_mk KX G hmg ?aK ?aD ?aX ?aR ?T ?o_answer_print ?o_told_text ?o_bytes_of ?o_digits_printed ?o_bracketed ?o_row_printed ?o_within_printed ?o_tokens_in ?o_names_printed ?o_statement_tokens ?o_joined ?o_printed ?n_list ?n_int ?s_nb ?s_gl ?Ft
    (case aK => k_is)
    (case aD => k_is)
    (case aX => k_is)
    (case aR => k_is)
    case T =>
      exact {
        n_all := PySem.W.mg_none_of KX G (by k_is),
        n_len := PySem.W.mg_none_of KX G (by k_is),
        n_range := PySem.W.mg_none_of KX G (by k_is),
        n_tuple := PySem.W.mg_none_of KX G (by k_is),
        n_ord := PySem.W.mg_none_of KX G (by k_is),
        n_dict := PySem.W.mg_none_of KX G (by k_is),
        n_enum := PySem.W.mg_none_of KX G (by k_is),
        n_ve := PySem.W.mg_none_of KX G (by k_is),
        vV := by k_is,
        c_dt := str_of KX G (by k_is),
        c_let := str_of KX G (by k_is),
        c_signs := str_of KX G (by k_is),
        c_letin := loose_str G Y.2 (List.mem_singleton.mpr rfl),
        c_strange := str_of KX G (by k_is),
        c_name := str_of KX G (by k_is),
        c_word := str_of KX G (by k_is),
        c_number := str_of KX G (by k_is),
        c_sign := str_of KX G (by k_is),
        c_longest := int_of KX G (by k_is),
        c_digits := int_of KX G (by k_is),
        c_lex := int_of KX G (by k_is),
        c_nog := int_of KX G (by k_is),
        c_deep := int_of KX G (by k_is),
        c_sts := int_of KX G (by k_is),
        c_least := int_of KX G (by k_is),
        c_most := int_of KX G (by k_is),
        c_bytes := int_of KX G (by k_is),
        c_long := int_of KX G (by k_is),
        c_nodr := int_of KX G (by k_is),
        c_words := words_of KX G (by k_is) (by k_is) (.cons ⟨_, rfl⟩ (.cons ⟨_, rfl⟩ (.cons ⟨_, rfl⟩ (.cons ⟨_, rfl⟩ (.cons ⟨_, rfl⟩ (.cons ⟨_, rfl⟩ (.cons ⟨_, rfl⟩ (.cons ⟨_, rfl⟩ (.cons ⟨_, rfl⟩ (.cons ⟨_, rfl⟩ (.cons ⟨_, rfl⟩ (.cons ⟨_, rfl⟩ (.cons ⟨_, rfl⟩ (.cons ⟨_, rfl⟩ (.cons ⟨_, rfl⟩ .nil))))))))))))))),
        c_sums := Sd.tab_of KX G (by k_is) (by k_is) (by k_keys) (by decide) (by exact ⟨⟨_, rfl⟩, ⟨_, rfl⟩, ⟨⟨_, rfl⟩, ⟨_, rfl⟩, ⟨⟨_, rfl⟩, ⟨_, rfl⟩, ⟨⟨_, rfl⟩, ⟨_, rfl⟩, True.intro⟩⟩⟩⟩),
        c_places := Sd.tab_of KX G (by k_is) (by k_is) (by k_keys) (by decide) (by exact ⟨⟨_, rfl⟩, ⟨_, rfl⟩, ⟨⟨_, rfl⟩, ⟨_, rfl⟩, ⟨⟨_, rfl⟩, ⟨_, rfl⟩, ⟨⟨_, rfl⟩, ⟨_, rfl⟩, ⟨⟨_, rfl⟩, ⟨_, rfl⟩, ⟨⟨_, rfl⟩, ⟨_, rfl⟩, True.intro⟩⟩⟩⟩⟩⟩),
        tk := ⟨⟨by k_is, by k_is, by k_is, by k_is⟩, na (by k_is), na (by k_is), na (by k_is)⟩,
        rd := ⟨⟨by k_is, by k_is, by k_is, by k_is⟩, na (by k_is), na (by k_is), na (by k_is), na (by k_is)⟩,
        xC := ⟨oex_of (by k_is) (by k_is) (by k_is) (by k_is) (by k_is), by k_is, by k_is, by k_is, by k_is, (by first | rfl | k_is)⟩,
        rC := ⟨oex_of (by k_is) (by k_is) (by k_is) (by k_is) (by k_is), by k_is, by k_is, by k_is, by k_is, (by first | rfl | k_is)⟩,
        nx1 := by k_is,
        nx2 := by k_is,
        nr1 := by k_is,
        nr2 := by k_is,
        gx := PySem.W.mg_of KX G (by k_is),
        gr := PySem.W.mg_of KX G (by k_is),
        x_text := FX.excT KX G (FX.mk (by k_is) (by k_is) (by k_is) (by k_is) (by k_is)) (by k_is) (oex_of (by k_is) (by k_is) (by k_is) (by k_is) (by k_is)) bi_TextFault,
        x_ref := FX.excT KX G (FX.mk (by k_is) (by k_is) (by k_is) (by k_is) (by k_is)) (by k_is) (oex_of (by k_is) (by k_is) (by k_is) (by k_is) (by k_is)) bi_Refused,
        i_token := FM.initT KX G (FM.mk (by k_is) (by k_is) (by k_is) (by k_is) (by k_is)) (by k_is) (by k_is) (by k_is) bi_Token,
        i_reader := FM.initT KX G (FM.mk (by k_is) (by k_is) (by k_is) (by k_is) (by k_is)) (by k_is) (by k_is) (by k_is) bi_Reader,
        t_require := FG.funT KX G (FG.mk (by k_is) (by k_is) (by k_is) (by k_is)) ba_require,
        t_text_of := FG.funT KX G (FG.mk (by k_is) (by k_is) (by k_is) (by k_is)) ba_text_of,
        t_run_of := FG.funT KX G (FG.mk (by k_is) (by k_is) (by k_is) (by k_is)) ba_run_of,
        t_number_at := FG.funT KX G (FG.mk (by k_is) (by k_is) (by k_is) (by k_is)) ba_number_at,
        t_token_at := FG.funT KX G (FG.mk (by k_is) (by k_is) (by k_is) (by k_is)) ba_token_at,
        t_tokens_of := FG.funT KX G (FG.mk (by k_is) (by k_is) (by k_is) (by k_is)) ba_tokens_of,
        t_statements_of := FG.funT KX G (FG.mk (by k_is) (by k_is) (by k_is) (by k_is)) ba_statements_of,
        t_told := FG.funT KX G (FG.mk (by k_is) (by k_is) (by k_is) (by k_is)) ba_told,
        t_refused := FG.funT KX G (FG.mk (by k_is) (by k_is) (by k_is) (by k_is)) ba_refused,
        t_want_short := FG.funT KX G (FG.mk (by k_is) (by k_is) (by k_is) (by k_is)) ba_want_short,
        t_draft_in := FG.funT KX G (FG.mk (by k_is) (by k_is) (by k_is) (by k_is)) ba_draft_in,
        m_says := FM.methT (FM.mk (by k_is) (by k_is) (by k_is) (by k_is) (by k_is)) ⟨by k_is, by k_is, by k_is, by k_is⟩ bm_says,
        m_end := FM.methT (FM.mk (by k_is) (by k_is) (by k_is) (by k_is) (by k_is)) ⟨by k_is, by k_is, by k_is, by k_is⟩ bm_end,
        m_here := FM.methT (FM.mk (by k_is) (by k_is) (by k_is) (by k_is) (by k_is)) ⟨by k_is, by k_is, by k_is, by k_is⟩ bm_here,
        m_allow := FM.methT (FM.mk (by k_is) (by k_is) (by k_is) (by k_is) (by k_is)) ⟨by k_is, by k_is, by k_is, by k_is⟩ bm_allow,
        m_take := FM.methT (FM.mk (by k_is) (by k_is) (by k_is) (by k_is) (by k_is)) ⟨by k_is, by k_is, by k_is, by k_is⟩ bm_take,
        m_comes := FM.methT (FM.mk (by k_is) (by k_is) (by k_is) (by k_is) (by k_is)) ⟨by k_is, by k_is, by k_is, by k_is⟩ bm_comes,
        m_need := FM.methT (FM.mk (by k_is) (by k_is) (by k_is) (by k_is) (by k_is)) ⟨by k_is, by k_is, by k_is, by k_is⟩ bm_need,
        m_own_name := FM.methT (FM.mk (by k_is) (by k_is) (by k_is) (by k_is) (by k_is)) ⟨by k_is, by k_is, by k_is, by k_is⟩ bm_own_name,
        m_parts := FM.methT (FM.mk (by k_is) (by k_is) (by k_is) (by k_is) (by k_is)) ⟨by k_is, by k_is, by k_is, by k_is⟩ bm_parts,
        m_place := FM.methT (FM.mk (by k_is) (by k_is) (by k_is) (by k_is) (by k_is)) ⟨by k_is, by k_is, by k_is, by k_is⟩ bm_place,
        m_pair := FM.methT (FM.mk (by k_is) (by k_is) (by k_is) (by k_is) (by k_is)) ⟨by k_is, by k_is, by k_is, by k_is⟩ bm_pair,
        m_sum := FM.methT (FM.mk (by k_is) (by k_is) (by k_is) (by k_is) (by k_is)) ⟨by k_is, by k_is, by k_is, by k_is⟩ bm_sum,
        m_product := FM.methT (FM.mk (by k_is) (by k_is) (by k_is) (by k_is) (by k_is)) ⟨by k_is, by k_is, by k_is, by k_is⟩ bm_product,
        m_factor := FM.methT (FM.mk (by k_is) (by k_is) (by k_is) (by k_is) (by k_is)) ⟨by k_is, by k_is, by k_is, by k_is⟩ bm_factor,
        m_within := FM.methT (FM.mk (by k_is) (by k_is) (by k_is) (by k_is) (by k_is)) ⟨by k_is, by k_is, by k_is, by k_is⟩ bm_within,
        m_piece := FM.methT (FM.mk (by k_is) (by k_is) (by k_is) (by k_is) (by k_is)) ⟨by k_is, by k_is, by k_is, by k_is⟩ bm_piece,
        m_seam := FM.methT (FM.mk (by k_is) (by k_is) (by k_is) (by k_is) (by k_is)) ⟨by k_is, by k_is, by k_is, by k_is⟩ bm_seam,
        m_given := FM.methT (FM.mk (by k_is) (by k_is) (by k_is) (by k_is) (by k_is)) ⟨by k_is, by k_is, by k_is, by k_is⟩ bm_given,
        m_one := FM.methT (FM.mk (by k_is) (by k_is) (by k_is) (by k_is) (by k_is)) ⟨by k_is, by k_is, by k_is, by k_is⟩ bm_one }
    (case o_answer_print => exact FG.funT KX G (FG.mk (by k_is) (by k_is) (by k_is) (by k_is)) ba_answer_print)
    (case o_told_text => exact FG.funT KX G (FG.mk (by k_is) (by k_is) (by k_is) (by k_is)) ba_told_text)
    (case o_bytes_of => exact FG.funT KX G (FG.mk (by k_is) (by k_is) (by k_is) (by k_is)) ba_bytes_of)
    (case o_digits_printed => exact FG.funT KX G (FG.mk (by k_is) (by k_is) (by k_is) (by k_is)) ba_digits_printed)
    (case o_bracketed => exact FG.funT KX G (FG.mk (by k_is) (by k_is) (by k_is) (by k_is)) ba_bracketed)
    (case o_row_printed => exact FG.funT KX G (FG.mk (by k_is) (by k_is) (by k_is) (by k_is)) ba_row_printed)
    (case o_within_printed => exact FG.funT KX G (FG.mk (by k_is) (by k_is) (by k_is) (by k_is)) ba_within_printed)
    (case o_tokens_in => exact FG.funT KX G (FG.mk (by k_is) (by k_is) (by k_is) (by k_is)) ba_tokens_in)
    (case o_names_printed => exact FG.funT KX G (FG.mk (by k_is) (by k_is) (by k_is) (by k_is)) ba_names_printed)
    (case o_statement_tokens => exact FG.funT KX G (FG.mk (by k_is) (by k_is) (by k_is) (by k_is)) ba_statement_tokens)
    (case o_joined => exact FG.funT KX G (FG.mk (by k_is) (by k_is) (by k_is) (by k_is)) ba_joined)
    (case o_printed => exact FG.funT KX G (FG.mk (by k_is) (by k_is) (by k_is) (by k_is)) ba_printed)
    (case n_list => exact PySem.W.mg_none_of KX G (by k_is))
    (case n_int => exact PySem.W.mg_none_of KX G (by k_is))
    (case s_nb => exact strsT_of KX G (by k_is) (by k_is) (.cons ⟨_, rfl⟩ (.cons ⟨_, rfl⟩ (.cons ⟨_, rfl⟩ .nil))) (by decide))
    (case s_gl => exact strsT_of KX G (by k_is) (by k_is) (.cons ⟨_, rfl⟩ (.cons ⟨_, rfl⟩ (.cons ⟨_, rfl⟩ (.cons ⟨_, rfl⟩ (.cons ⟨_, rfl⟩ (.cons ⟨_, rfl⟩ (.cons ⟨_, rfl⟩ (.cons ⟨_, rfl⟩ (.cons ⟨_, rfl⟩ (.cons ⟨_, rfl⟩ .nil)))))))))) (by decide))
    (case Ft => exact FG.mk (by k_is) (by k_is) (by k_is) (by k_is))
  case S =>
    intro K H xs a hO hwi hask hx
    cases hx with
    | cons h1 h2 =>
      cases h2
      have q : ((Codec.inLen 0 4200 a.1 && a.1.all (Codec.inInt 0 255)) && true) = true := hwi
      rw [Bool.and_eq_true, Bool.and_eq_true] at q
      have e1 := Sd.raw_of (ns := a.1) hO h1
      rw [Sd.bytes_raw (Sd.bounds_of q.1.2)] at e1
      refine Sd.sp_ints (.cons e1 .nil) ⟨_, rfl, rfl⟩ ?_
      rw [Sd.print_eq]
      rfl
